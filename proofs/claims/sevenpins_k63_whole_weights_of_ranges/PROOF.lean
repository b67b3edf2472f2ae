import PyProof.Rows.All
import Wide.All
import OpenK.AllK
import Wide.FinOn
import KE.KStateDown
import Lean
import HandS.Base
import HandS.Call
import HandS.Ends
import HandS.More
import HandS.Words
import HandS.WordsExc
import HandS.Defaults
import HandS.Head0
import HandS.Head1
import HandS.Head2
import HandS.Head3
import HandS.HeadEnd
import HandS.HeadHook1
import HandS.HeadHook2
import PyProof.EqAt
import PyProof.EqKinds
import PyProof.TupleCall
import HandS.List
import HandS.Comp
import HandS.Iter
import HandS.Zip
import HandS.IsInst
import HandS.Gcd
import HandS.Wide
import HandS.WideBits
import HandS.Style
import HandS.TupAny
import PyProof.Rows.SeqMore
import HandS.Conv
import KE.KMathG
import KE.GoesNew
import KE.GoesMore
import KE.GoesEnum
import KE.SortKeyHeap
import HandS.Exc
import HandS.ExcValue
import HandS.SortKw
import PySem.Challenge.RW_sevenpins_k63_whole_weights_of_ranges
set_option Elab.async false
set_option linter.all false
set_option maxRecDepth 100000
set_option maxHeartbeats 0
namespace HeadK
open PySem PySem.Spec PyProof.Rows L2
def top (i : Nat) : Stmt := PySem.Challenge.pw_sevenpins_k63_whole_weights_of_ranges.main.body.getD i (.Pass ⟨0, 0, 0, 0⟩)
def dD (x : Str) (i : Nat) : He.DefD := ⟨(x, none), x, x, defArgs (top i), defBody (top i), defScope (top i), [], []⟩
def fn : List He.DefD := [dD "is_whole" 7, dD "common_part" 8, dD "lowest" 9, dD "lowest_over" 10, dD "ratio" 11, dD "product_sum" 12, dD "minus" 14, dD "times" 15, dD "is_below" 16, dD "over_one" 17, dD "parts_over" 18, dD "is_fraction" 21, dD "are_fractions" 22, dD "is_triple" 23, dD "is_direction" 24, dD "crossed" 25, dD "row_of" 27, dD "screw_of" 28, dD "pushed" 29, dD "lowest_row" 31, dD "whole_row" 32, dD "first_place" 33, dD "cleared" 34, dD "stairs_of" 35, dD "shares_for" 36, dD "step_at" 38, dD "entering" 39, dD "leaving" 40, dD "descend" 41, dD "first_table" 42, dD "helpers_out" 43, dD "row_of_costs" 44, dD "least_of" 45, dD "rows_across" 47, dD "opposite_parts" 48, dD "is_pin" 52, dD "wrong_pin" 53, dD "check_gauge" 54, dD "is_mark" 55, dD "check_marked" 56, dD "pin_rows" 57, dD "mark_row" 58, dD "move_of_row" 59, dD "bound_on" 60, dD "mark_shares" 61, dD "bounds_of" 62, dD "mark_range" 63, dD "range_weights" 64, dD "_law_well" 66, dD "_law_draw" 67, dD "_law_pick" 68, dD "_law_lean" 69, dD "_law_summed" 70, dD "_law_added" 71, dD "_law_times" 72, dD "_law_is_less" 73, dD "_law_minor" 74, dD "_law_cross" 75, dD "_law_plus" 76, dD "_law_scaled" 77, dD "_law_is_nought" 78, dD "_law_axes" 79, dD "_law_nought" 80, dD "_law_line" 81, dD "_law_power" 82, dD "_law_mixed" 83, dD "_law_is_whole" 84, dD "_law_is_fraction" 85, dD "_law_are" 86, dD "_law_cleared" 87, dD "_law_rank" 88, dD "_law_number" 89, dD "_law_point" 90, dD "_law_along" 91, dD "_law_way" 92, dD "_law_scale" 93, dD "_law_little" 94, dD "_law_less" 95, dD "_law_within" 96, dD "_law_pins" 97, dD "_law_pushes" 98, dD "_law_room" 99, dD "_law_stretched" 100, dD "_law_worth" 101, dD "_law_sign" 102, dD "_law_shared" 103, dD "_law_right" 104, dD "law" 105]
def fa : List He.Fa := [.glo "is_whole", .glo "common_part", .glo "lowest", .glo "lowest_over", .glo "ratio", .glo "product_sum", .glo "minus", .glo "times", .glo "is_below", .glo "over_one", .glo "parts_over", .glo "is_fraction", .glo "are_fractions", .glo "is_triple", .glo "is_direction", .glo "crossed", .glo "row_of", .glo "screw_of", .glo "pushed", .glo "lowest_row", .glo "whole_row", .glo "first_place", .glo "cleared", .glo "stairs_of", .glo "shares_for", .glo "step_at", .glo "entering", .glo "leaving", .glo "descend", .glo "first_table", .glo "helpers_out", .glo "row_of_costs", .glo "least_of", .glo "rows_across", .glo "opposite_parts", .glo "is_pin", .glo "wrong_pin", .glo "check_gauge", .glo "is_mark", .glo "check_marked", .glo "pin_rows", .glo "mark_row", .glo "move_of_row", .glo "bound_on", .glo "mark_shares", .glo "bounds_of", .glo "mark_range", .glo "range_weights", .glo "_law_well", .glo "_law_draw", .glo "_law_pick", .glo "_law_lean", .glo "_law_summed", .glo "_law_added", .glo "_law_times", .glo "_law_is_less", .glo "_law_minor", .glo "_law_cross", .glo "_law_plus", .glo "_law_scaled", .glo "_law_is_nought", .glo "_law_axes", .glo "_law_nought", .glo "_law_line", .glo "_law_power", .glo "_law_mixed", .glo "_law_is_whole", .glo "_law_is_fraction", .glo "_law_are", .glo "_law_cleared", .glo "_law_rank", .glo "_law_number", .glo "_law_point", .glo "_law_along", .glo "_law_way", .glo "_law_scale", .glo "_law_little", .glo "_law_less", .glo "_law_within", .glo "_law_pins", .glo "_law_pushes", .glo "_law_room", .glo "_law_stretched", .glo "_law_worth", .glo "_law_sign", .glo "_law_shared", .glo "_law_right", .glo "law", .free "isinstance", .free "int", .free "bool", .free "tuple", .free "len", .free "range", .free "zip", .free "enumerate", .free "sum", .free "list", .free "sorted", .free "abs", .free "divmod", .free "repr", .free "all"]
abbrev R : PySem.W.OpenRow := PySem.W.OpenLaw.row PySem.Challenge.rw_sevenpins_k63_whole_weights_of_ranges
/-- a tuple at an address -/
def tupAt (K : PySem.W.Frag) (a : Addr) (p : List Value → Bool) : Bool := match K.lookup a with
  | some ⟨.type n, _, .seq its _, _⟩ => decide (n = "tuple") && (decide (its.size ≤ sizeLine) && p its.toList)
  | _ => false
def noughtB (K : PySem.W.Frag) (u : Value) : Bool := match u with
  | .ref a => tupAt K a (He.relAll [.int 0, .int 1])
  | _ => false
def noughtsB (K : PySem.W.Frag) (x : Str) (n : Nat) : Bool := tupAt K (He.ga K x) fun us => decide (us.length = n) && us.all (noughtB K)
/-- the names that stand for other things than defs -/
def xB (K : PySem.W.Frag) : Bool := He.eqO (PySem.W.nsIn K mainGlobals "gcd") (some (some (.builtin "math.gcd"))) && (He.eqO (PySem.W.nsIn K mainGlobals "lcm") (some (some (.builtin "math.lcm"))) &&
  ((He.Fa.int "MOST_PINS" 12).ok K && ((He.Fa.glo "NOUGHT_TRIPLE").ok K && ((He.Fa.glo "NOUGHTS").ok K && (noughtsB K "NOUGHT_TRIPLE" 3 && noughtsB K "NOUGHTS" 6)))))
def obX (K : PySem.W.Frag) : He.AlD × Bool := (He.obsD fa fn K, xB K)
def hk : PySem.W.Hook where
  α := He.AlD × Bool
  obs := fun s => obX (He.frG s.heap.get? (He.asD s.heap.get? 2))
  val := fun _ => (He.valD fn, true)
  says := fun _ h => ∃ K : PySem.W.Frag, K.In h ∧ He.SaysD fa fn K ∧ xB K = true
  of := fun _ _ e => ⟨_, He.frG_in, congrArg Prod.fst e, congrArg Prod.snd e⟩
  keeps := fun _ _ _ ⟨K, hK, c⟩ k => ⟨K, PySem.W.Frag.In.keeps hK k, c⟩
def ob (s : PySem.W.SharedT) : He.AlD × Bool := obX (He.frG (HandSHeadRun.getT s) (He.asD (HandSHeadRun.getT s) 2))
theorem ob_eq (s : PySem.W.SharedT) : ob s = hk.obs s.abs := by
  have e : HandSHeadRun.getT s = s.abs.heap.get? := funext fun a => HandSHeadRun.getT_eq s a
  unfold ob
  rw [e]
  rfl
def others : List PySem.Str := [("ScrewError" : PySem.Str), ("InvalidMark" : PySem.Str), ("InvalidGauge" : PySem.Str), ("NoMoveFits" : PySem.Str), ("NOUGHT_TRIPLE" : PySem.Str), ("MOST_PINS" : PySem.Str), ("NOUGHTS" : PySem.Str), ("is_whole" : PySem.Str), ("common_part" : PySem.Str), ("lowest" : PySem.Str), ("lowest_over" : PySem.Str), ("ratio" : PySem.Str), ("product_sum" : PySem.Str), ("minus" : PySem.Str), ("times" : PySem.Str), ("is_below" : PySem.Str), ("over_one" : PySem.Str), ("parts_over" : PySem.Str), ("is_fraction" : PySem.Str), ("are_fractions" : PySem.Str), ("is_triple" : PySem.Str), ("is_direction" : PySem.Str), ("crossed" : PySem.Str), ("row_of" : PySem.Str), ("screw_of" : PySem.Str), ("pushed" : PySem.Str), ("lowest_row" : PySem.Str), ("whole_row" : PySem.Str), ("first_place" : PySem.Str), ("cleared" : PySem.Str), ("stairs_of" : PySem.Str)]
def others2 : List PySem.Str := [("shares_for" : PySem.Str), ("step_at" : PySem.Str), ("entering" : PySem.Str), ("leaving" : PySem.Str), ("descend" : PySem.Str), ("first_table" : PySem.Str), ("helpers_out" : PySem.Str), ("row_of_costs" : PySem.Str), ("least_of" : PySem.Str), ("rows_across" : PySem.Str), ("opposite_parts" : PySem.Str), ("is_pin" : PySem.Str), ("wrong_pin" : PySem.Str), ("check_gauge" : PySem.Str), ("is_mark" : PySem.Str), ("check_marked" : PySem.Str), ("pin_rows" : PySem.Str), ("mark_row" : PySem.Str), ("move_of_row" : PySem.Str), ("bound_on" : PySem.Str), ("mark_shares" : PySem.Str), ("bounds_of" : PySem.Str), ("mark_range" : PySem.Str), ("range_weights" : PySem.Str), ("_law_well" : PySem.Str), ("_law_draw" : PySem.Str), ("_law_pick" : PySem.Str), ("_law_lean" : PySem.Str), ("_law_summed" : PySem.Str), ("_law_added" : PySem.Str), ("_law_times" : PySem.Str)]
def others3 : List PySem.Str := [("_law_is_less" : PySem.Str), ("_law_minor" : PySem.Str), ("_law_cross" : PySem.Str), ("_law_plus" : PySem.Str), ("_law_scaled" : PySem.Str), ("_law_is_nought" : PySem.Str), ("_law_axes" : PySem.Str), ("_law_nought" : PySem.Str), ("_law_line" : PySem.Str), ("_law_power" : PySem.Str), ("_law_mixed" : PySem.Str), ("_law_is_whole" : PySem.Str), ("_law_is_fraction" : PySem.Str), ("_law_are" : PySem.Str), ("_law_cleared" : PySem.Str), ("_law_rank" : PySem.Str), ("_law_number" : PySem.Str), ("_law_point" : PySem.Str), ("_law_along" : PySem.Str), ("_law_way" : PySem.Str), ("_law_scale" : PySem.Str), ("_law_little" : PySem.Str), ("_law_less" : PySem.Str), ("_law_within" : PySem.Str), ("_law_pins" : PySem.Str), ("_law_pushes" : PySem.Str), ("_law_room" : PySem.Str), ("_law_stretched" : PySem.Str), ("_law_worth" : PySem.Str), ("_law_sign" : PySem.Str), ("_law_shared" : PySem.Str), ("_law_right" : PySem.Str)]
abbrev qv : Program := PySem.W.view R.prog [0, 105]
def loose : List PySem.Str := others ++ others2 ++ others3
theorem join {α β γ δ : Type} {o : Option α} {f : α → β} {k : α → γ} {l : α → δ} {b : β} {c : γ} {d : δ} (h1 : o.map (fun x => (f x, k x)) = some (b, c)) (h2 : o.map l = some d) : o.map (fun x => (f x, k x, l x)) = some (b, c, d) := by
  cases o with
  | none => cases h1
  | some x =>
    obtain ⟨e1, e2⟩ := Prod.mk.inj (Option.some.inj h1)
    exact congrArg some (Prod.ext e1 (Prod.ext e2 (Option.some.inj h2)))
noncomputable def whole (w : World) := HandSHeadRun.wholeF (fun p => HandSHeadRun.stepQ (HandSHeadRun.denQ HandSHeadRun.tabQ) p w) HandSHeadRun.fenceQ 20000 R.prog
theorem run1 (w : World) : (whole w).map (fun x => (HandSHeadRun.looksF R.prog x.1.heap x.2.abs, HandSHeadRun.seenQ qv loose (importedModules R.prog.main.body) (fun s => PySem.W.xlAt qv [] s && PySem.W.recOk R.toRowW.records s) x.2.abs)) = some (true, PySem.W.openGood qv loose) := by
  kernel_rfl
theorem run2 (w : World) : (whole w).map (fun x => ob x.2) = some (hk.val w) := by
  kernel_rfl
theorem run (w : World) : HandSHeadRun.RunEqI R qv hk ob 20000 loose w := join (run1 w) (run2 w)
end HeadK
namespace SV
/-! sums -/
def sumN : Nat → (Nat → Int) → Int
  | 0, _ => 0
  | n + 1, f => sumN n f + f n
theorem sumN_congr {n : Nat} {f g : Nat → Int} (h : ∀ k, k < n → f k = g k) : sumN n f = sumN n g := by
  induction n with
  | zero => rfl
  | succ n ih => simp only [sumN]; rw [ih fun k hk => h k (by omega), h n (by omega)]
theorem sumN_zero {n : Nat} {f : Nat → Int} (h : ∀ k, k < n → f k = 0) : sumN n f = 0 := by
  induction n with
  | zero => rfl
  | succ n ih => simp only [sumN]; rw [ih fun k hk => h k (by omega), h n (by omega)]; rfl
theorem sumN_add (n : Nat) (f g : Nat → Int) : sumN n (fun k => f k + g k) = sumN n f + sumN n g := by
  induction n with
  | zero => rfl
  | succ n ih => simp only [sumN]; rw [ih]; omega
theorem sumN_sub (n : Nat) (f g : Nat → Int) : sumN n (fun k => f k - g k) = sumN n f - sumN n g := by
  induction n with
  | zero => rfl
  | succ n ih => simp only [sumN]; rw [ih]; omega
theorem sumN_neg (n : Nat) (f : Nat → Int) : sumN n (fun k => - f k) = - sumN n f := by
  induction n with
  | zero => rfl
  | succ n ih => simp only [sumN]; rw [ih]; omega
theorem sumN_mul (n : Nat) (a : Int) (f : Nat → Int) : sumN n (fun k => a * f k) = a * sumN n f := by
  induction n with
  | zero => simp [sumN]
  | succ n ih => simp only [sumN]; rw [ih, Int.mul_add]
theorem sumN_mulR (n : Nat) (a : Int) (f : Nat → Int) : sumN n (fun k => f k * a) = sumN n f * a := by
  induction n with
  | zero => simp [sumN]
  | succ n ih => simp only [sumN]; rw [ih, Int.add_mul]
theorem sumN_swap (n m : Nat) (f : Nat → Nat → Int) : sumN n (fun i => sumN m (fun j => f i j)) = sumN m (fun j => sumN n (fun i => f i j)) := by
  induction n with
  | zero => simp only [sumN]; exact (sumN_zero fun _ _ => rfl).symm
  | succ n ih => simp only [sumN]; rw [ih, ← sumN_add]
/-- all but one vanish -/
theorem sumN_one {n i : Nat} {f : Nat → Int} (hi : i < n) (h : ∀ k, k < n → k ≠ i → f k = 0) : sumN n f = f i := by
  induction n with
  | zero => omega
  | succ n ih =>
    simp only [sumN]
    by_cases e : i = n
    · subst e
      rw [sumN_zero fun k hk => h k (by omega) (by omega)]; omega
    · rw [ih (by omega) fun k hk hn => h k (by omega) hn, h n (by omega) (by omega)]; omega
theorem sumN_two {n i : Nat} {f : Nat → Int} (hi : i + 1 < n) (h : ∀ k, k < n → k ≠ i → k ≠ i + 1 → f k = 0) : sumN n f = f i + f (i + 1) := by
  induction n with
  | zero => omega
  | succ n ih =>
    simp only [sumN]
    by_cases e : i + 1 = n
    · rw [← e]
      rw [sumN_one (i := i) (by omega) fun k hk hn => h k (by omega) hn (by omega)]
    · rw [ih (by omega) fun k hk hn hn' => h k (by omega) hn hn', h n (by omega) (by omega) (by omega)]; omega
/-- one taken out -/
theorem sumN_take {n i : Nat} (f : Nat → Int) (hi : i < n) : sumN n f = sumN n (fun k => if k = i then 0 else f k) + f i := by
  have e : sumN n f = sumN n (fun k => (if k = i then 0 else f k) + (if k = i then f k else 0)) := sumN_congr fun k _ => by split <;> omega
  rw [e, sumN_add]
  congr 1
  rw [sumN_one hi (fun k _ hn => by rw [if_neg hn]), if_pos rfl]
theorem sumN_nonneg {n : Nat} {f : Nat → Int} (h : ∀ k, k < n → 0 ≤ f k) : 0 ≤ sumN n f := by
  induction n with
  | zero => exact Int.le_refl _
  | succ n ih => simp only [sumN]; exact Int.add_nonneg (ih fun k hk => h k (by omega)) (h n (by omega))
theorem sumN_le {n : Nat} {f g : Nat → Int} (h : ∀ k, k < n → f k ≤ g k) : sumN n f ≤ sumN n g := by
  induction n with
  | zero => exact Int.le_refl _
  | succ n ih => simp only [sumN]; exact Int.add_le_add (ih fun k hk => h k (by omega)) (h n (by omega))
/-- a sum below 0 has a part below 0 -/
theorem sumN_neg_ex {n : Nat} {f : Nat → Int} (h : sumN n f < 0) : ∃ k, k < n ∧ f k < 0 := by
  refine Classical.byContradiction fun q => ?_
  have : 0 ≤ sumN n f := sumN_nonneg fun k hk => by
    refine Int.not_lt.mp fun z => q ⟨k, hk, z⟩
  omega
theorem sumN_abs {n : Nat} {f : Nat → Int} {M : Nat} (h : ∀ k, k < n → (f k).natAbs ≤ M) : (sumN n f).natAbs ≤ n * M := by
  induction n with
  | zero => simp [sumN]
  | succ n ih =>
    simp only [sumN]
    have := ih fun k hk => h k (by omega)
    have := h n (by omega)
    rw [Nat.succ_mul]
    omega

/-! the determinant as a form on rows -/
abbrev Vec := Nat → Int
def sgn (k : Nat) : Int := if k % 2 = 0 then 1 else -1
theorem sgn_succ (k : Nat) : sgn (k + 1) = - sgn k := by unfold sgn; split <;> split <;> omega
theorem sgn_two (k : Nat) : sgn (k + k) = 1 := by unfold sgn; rw [if_pos (by omega)]
theorem sgn_abs (k : Nat) : (sgn k).natAbs = 1 := by unfold sgn; split <;> rfl
def del (k : Nat) (b : Nat → Vec) : Nat → Vec := fun i => if i < k then b i else b (i + 1)
def put (i : Nat) (v : Vec) (b : Nat → Vec) : Nat → Vec := fun j => if j = i then v else b j
theorem put_at (i : Nat) (v : Vec) (b : Nat → Vec) : put i v b i = v := if_pos rfl
theorem put_ne {i j : Nat} (v : Vec) (b : Nat → Vec) (h : j ≠ i) : put i v b j = b j := if_neg h
theorem put_self (i : Nat) (b : Nat → Vec) : put i (b i) b = b := by
  funext j; unfold put; split <;> simp_all
theorem put_put (i : Nat) (u v : Vec) (b : Nat → Vec) : put i u (put i v b) = put i u b := by
  funext j; unfold put; split <;> simp_all
theorem put_comm {i j : Nat} (u v : Vec) (b : Nat → Vec) (h : i ≠ j) : put i u (put j v b) = put j v (put i u b) := by
  funext k; unfold put; split <;> split <;> simp_all
def D : Nat → (Nat → Vec) → Int
  | 0, _ => 1
  | h + 1, b => sumN (h + 1) fun k => sgn (k + h) * b k h * D h (del k b)
theorem D_congr : ∀ {h : Nat} {b c : Nat → Vec}, (∀ i, i < h → ∀ x, x < h → b i x = c i x) → D h b = D h c
  | 0, _, _, _ => rfl
  | h + 1, b, c, e => by
    simp only [D]
    refine sumN_congr fun k hk => ?_
    rw [e k hk h (by omega), D_congr (b := del k b) (c := del k c) fun i hi x hx => by
      unfold del
      split <;> exact e _ (by omega) _ (by omega)]
theorem del_put_lt {i k : Nat} (v : Vec) (b : Nat → Vec) (h : i < k) : del k (put i v b) = put i v (del k b) := by
  funext j; unfold del put
  by_cases e : j = i
  · subst e; simp [h]
  · simp only [e, if_false]
    split
    · rfl
    · rw [if_neg (by omega)]
theorem del_put_eq (k : Nat) (v : Vec) (b : Nat → Vec) : del k (put k v b) = del k b := by
  funext j; unfold del put
  split
  · rw [if_neg (by omega)]
  · rw [if_neg (by omega)]
theorem del_put_gt {i k : Nat} (v : Vec) (b : Nat → Vec) (h : k < i) : del k (put i v b) = put (i - 1) v (del k b) := by
  funext j; unfold del put
  by_cases e : j = i - 1
  · subst e
    rw [if_neg (by omega), if_pos (by omega), if_pos rfl]
  · rw [if_neg e]
    show _ = if j < k then b j else b (j + 1)
    split
    · rw [if_neg (by omega)]
    · rw [if_neg (by omega)]
def lc (a : Int) (u : Vec) (c : Int) (v : Vec) : Vec := fun x => a * u x + c * v x
theorem D_lin : ∀ {h i : Nat} (b : Nat → Vec) (a : Int) (u : Vec) (c : Int) (v : Vec), i < h →
    D h (put i (lc a u c v) b) = a * D h (put i u b) + c * D h (put i v b)
  | 0, i, _, _, _, _, _, hi => by omega
  | h + 1, i, b, a, u, c, v, hi => by
    simp only [D]
    rw [← sumN_mul, ← sumN_mul, ← sumN_add]
    refine sumN_congr fun k hk => ?_
    by_cases e : k = i
    · subst e
      rw [del_put_eq, del_put_eq, del_put_eq, put_at, put_at, put_at]
      unfold lc
      grind
    · rw [put_ne _ _ e, put_ne _ _ e, put_ne _ _ e]
      rcases Nat.lt_or_gt_of_ne e with q | q
      · rw [del_put_gt _ _ q, del_put_gt _ _ q, del_put_gt _ _ q, D_lin _ a u c v (by omega)]
        grind
      · rw [del_put_lt _ _ q, del_put_lt _ _ q, del_put_lt _ _ q, D_lin _ a u c v (by omega)]
        grind
theorem D_adj : ∀ {h i : Nat} (b : Nat → Vec), i + 1 < h → b i = b (i + 1) → D h b = 0
  | 0, i, _, hi, _ => by omega
  | h + 1, i, b, hi, e => by
    simp only [D]
    rw [sumN_two (i := i) hi]
    · have d : del i b = del (i + 1) b := by
        funext j; unfold del
        by_cases q : j = i
        · subst q; rw [if_neg (by omega), if_pos (by omega), e]
        · by_cases q2 : j < i
          · rw [if_pos q2, if_pos (by omega)]
          · rw [if_neg q2, if_neg (by omega)]
      rw [d, e, show i + 1 + h = (i + h) + 1 by omega, sgn_succ]
      grind
    · intro k hk n1 n2
      rcases Nat.lt_or_ge k i with q | q
      · rw [D_adj (h := h) (i := i - 1) (del k b) (by omega) (by
          unfold del
          rw [if_neg (by omega), if_neg (by omega), show i - 1 + 1 = i by omega, e])]
        exact Int.mul_zero _
      · rw [D_adj (h := h) (i := i) (del k b) (by omega) (by
          unfold del
          rw [if_pos (by omega), if_pos (by omega), e])]
        exact Int.mul_zero _
theorem D_swap_adj {h i : Nat} (b : Nat → Vec) (hi : i + 1 < h) : D h (put i (b (i + 1)) (put (i + 1) (b i) b)) = - D h b := by
  have w : D h (put i (lc 1 (b i) 1 (b (i + 1))) (put (i + 1) (lc 1 (b i) 1 (b (i + 1))) b)) = 0 := D_adj (i := i) _ hi (by
    rw [put_at, put_ne _ _ (by omega), put_at])
  rw [D_lin _ _ _ _ _ (by omega)] at w
  rw [put_comm _ _ _ (by omega : i ≠ i + 1), put_comm (i := i) (b (i + 1)) _ _ (by omega : i ≠ i + 1)] at w
  rw [D_lin _ _ _ _ _ (by omega), D_lin _ _ _ _ _ (by omega)] at w
  have z1 : D h (put (i + 1) (b i) (put i (b i) b)) = 0 := D_adj (i := i) _ hi (by
    rw [put_at, put_ne _ _ (by omega), put_at])
  have z2 : D h (put (i + 1) (b (i + 1)) (put i (b (i + 1)) b)) = 0 := D_adj (i := i) _ hi (by
    rw [put_at, put_ne _ _ (by omega), put_at])
  have e1 : put (i + 1) (b (i + 1)) (put i (b i) b) = b := by
    rw [put_self i b]; exact put_self (i + 1) b
  rw [z1, z2, e1, ← put_comm _ _ _ (by omega : i ≠ i + 1)] at w
  omega
theorem D_alt : ∀ (n : Nat) {h i j : Nat} (b : Nat → Vec), j = i + 1 + n → j < h → b i = b j → D h b = 0
  | 0, h, i, j, b, hj, hh, e => by
    subst hj
    exact D_adj b hh e
  | n + 1, h, i, j, b, hj, hh, e => by
    obtain ⟨k, rfl⟩ : ∃ k, j = k + 1 := ⟨j - 1, by omega⟩
    have s := D_swap_adj b (i := k) hh
    have z : D h (put k (b (k + 1)) (put (k + 1) (b k) b)) = 0 := D_alt n (i := i) (j := k) _ (by omega) (by omega) (by
      rw [put_ne _ _ (by omega), put_ne _ _ (by omega), put_at, e])
    omega
theorem D_eq {h i j : Nat} (b : Nat → Vec) (hi : i < h) (hj : j < h) (hn : i ≠ j) (e : b i = b j) : D h b = 0 := by
  rcases Nat.lt_or_gt_of_ne hn with q | q
  · exact D_alt (j - i - 1) b (by omega) hj e
  · exact D_alt (i - j - 1) b (by omega) hi e.symm
/-- two slots changed over -/
theorem D_cross {h i r : Nat} (b : Nat → Vec) (u : Vec) (hi : i < h) (hr : r < h) (hn : i ≠ r) : D h (put i (b r) (put r u b)) = - D h (put i u b) := by
  have w : D h (put i (lc 1 u 1 (b r)) (put r (lc 1 u 1 (b r)) b)) = 0 := D_eq _ hi hr hn (by
    rw [put_at, put_ne _ _ hn.symm, put_at])
  rw [D_lin _ _ _ _ _ hi, put_comm _ _ _ hn, put_comm (i := i) (b r) _ _ hn, D_lin _ _ _ _ _ hr, D_lin _ _ _ _ _ hr] at w
  have z1 : D h (put r u (put i u b)) = 0 := D_eq _ hi hr hn (by
    rw [put_at, put_ne _ _ hn, put_at])
  have z2 : D h (put r (b r) (put i (b r) b)) = 0 := D_eq _ hi hr hn (by
    rw [put_at, put_ne _ _ hn, put_at])
  have e1 : put r (b r) (put i u b) = put i u b := by
    have := put_self r (put i u b)
    rw [put_ne _ _ hn.symm] at this
    exact this
  rw [z1, z2, e1, put_comm (i := r) (j := i) u (b r) _ hn.symm] at w
  omega
/-- a sum in one slot -/
theorem D_sum {h i : Nat} (b : Nat → Vec) (hi : i < h) (n : Nat) (c : Nat → Int) (v : Nat → Vec) :
    D h (put i (fun x => sumN n fun k => c k * v k x) b) = sumN n fun k => c k * D h (put i (v k) b) := by
  induction n with
  | zero =>
    simp only [sumN]
    have q := D_lin (i := i) b 0 (fun _ => 0) 0 (fun _ => 0) hi
    have e : lc 0 (fun _ => 0) 0 (fun _ => 0) = fun _ => 0 := by funext x; unfold lc; omega
    rw [e] at q
    omega
  | succ n ih =>
    have e : (fun x => sumN (n + 1) fun k => c k * v k x) = lc 1 (fun x => sumN n fun k => c k * v k x) (c n) (v n) := by
      funext x; unfold lc; simp only [sumN]; omega
    rw [e, D_lin _ _ _ _ _ hi, ih]
    simp only [sumN]
    omega
def unit (k : Nat) : Vec := fun x => if x = k then 1 else 0
theorem D_unit : ∀ h : Nat, D h unit = 1
  | 0 => rfl
  | h + 1 => by
    simp only [D]
    rw [sumN_one (i := h) (by omega) fun k hk hn => by
      unfold unit
      rw [if_neg (by omega)]
      omega]
    rw [D_congr (h := h) (b := del h unit) (c := unit) fun i hi x hx => by
      unfold del
      rw [if_pos hi], D_unit h, sgn_two]
    unfold unit
    rw [if_pos rfl]
    rfl
def fact : Nat → Nat
  | 0 => 1
  | n + 1 => (n + 1) * fact n
theorem D_abs : ∀ {h M : Nat} {b : Nat → Vec}, (∀ i, i < h → ∀ x, x < h → (b i x).natAbs ≤ M) → (D h b).natAbs ≤ fact h * M ^ h
  | 0, _, _, _ => by simp [D, fact]
  | h + 1, M, b, e => by
    simp only [D]
    have q : ∀ k, k < h + 1 → (sgn (k + h) * b k h * D h (del k b)).natAbs ≤ M * (fact h * M ^ h) := fun k hk => by
      rw [Int.natAbs_mul, Int.natAbs_mul, sgn_abs, Nat.one_mul]
      refine Nat.mul_le_mul (e k hk h (by omega)) (D_abs fun i hi x hx => ?_)
      unfold del
      split <;> exact e _ (by omega) _ (by omega)
    refine Nat.le_trans (sumN_abs q) ?_
    rw [show fact (h + 1) = (h + 1) * fact h from rfl, Nat.pow_succ]
    exact Nat.le_of_eq (by grind)
/-- one slot wider -/
theorem D_abs_put {h M Mv i : Nat} {b : Nat → Vec} {v : Vec} (hM : 1 ≤ M) (hi : i < h) (e : ∀ i, i < h → ∀ x, x < h → (b i x).natAbs ≤ M) (ev : ∀ x, x < h → (v x).natAbs ≤ Mv) :
    (D h (put i v b)).natAbs ≤ h * (Mv * (fact h * M ^ h)) := by
  have q : D h (put i v b) = D h (put i (fun x => sumN h fun k => v k * unit k x) b) := D_congr fun j hj x hx => by
    unfold put
    split
    · show v x = sumN h fun k => v k * unit k x
      rw [sumN_one (i := x) hx fun k _ hn => (by unfold unit; rw [if_neg (fun z => hn z.symm)]; exact Int.mul_zero _)]
      unfold unit; rw [if_pos rfl, Int.mul_one]
    · rfl
  rw [q, D_sum b hi]
  refine sumN_abs fun k hk => ?_
  rw [Int.natAbs_mul]
  refine Nat.mul_le_mul (ev k hk) (D_abs fun j hj x hx => ?_)
  unfold put
  split
  · unfold unit; split
    · exact hM
    · exact Nat.zero_le _
  · exact e j hj x hx
end SV
namespace SV
/-! the table: every entry is a minor, so the step's division is exact -/
structure TI (h w : Nat) (a : Nat → Vec) (c : Nat → Int) (b : Nat → Vec) (cb : Nat → Int) (ep d : Int) (t : Nat → Nat → Int) : Prop where
  eps : ep * ep = 1
  dpos : 0 < d
  dD : d = ep * D h b
  tD : ∀ i, i < h → ∀ j, j < w → t i j = ep * D h (put i (a j) b)
  rel : ∀ j, j < w → ∀ x, x < h → d * a j x = sumN h fun i => t i j * b i x
  z : ∀ j, j < w → t h j = d * c j - sumN h fun i => cb i * t i j
def putI (i : Nat) (v : Int) (f : Nat → Int) : Nat → Int := fun j => if j = i then v else f j
def stepT (d : Int) (r col : Nat) (t : Nat → Nat → Int) : Nat → Nat → Int := fun i j => if i = r then t r j else (t i j * t r col - t i col * t r j) / d
section
variable {h w : Nat} {a : Nat → Vec} {c : Nat → Int} {b : Nat → Vec} {cb : Nat → Int} {ep d : Int} {t : Nat → Nat → Int}
theorem D_scale (k : Int) {i : Nat} (hi : i < h) (v : Vec) : D h (put i (fun x => k * v x) b) = k * D h (put i v b) := by
  have q := D_lin b k v 0 v hi
  have e : lc k v 0 v = fun x => k * v x := by funext x; unfold lc; omega
  rw [e] at q
  omega
theorem TI.cross (T : TI h w a c b cb ep d t) {r col i j : Nat} (hr : r < h) (hc : col < w) (hi : i < h) (hj : j < w) (hn : i ≠ r) :
    d * (ep * D h (put i (a j) (put r (a col) b))) = t i j * t r col - t i col * t r j := by
  have e1 : d * D h (put i (a j) (put r (a col) b)) = sumN h fun k => t k j * D h (put i (b k) (put r (a col) b)) := by
    rw [← D_scale d hi, ← D_sum _ hi]
    refine D_congr fun y hy x hx => ?_
    unfold put
    by_cases q : y = i
    · simp only [q, if_true]
      exact T.rel j hj x hx
    · simp only [q, if_false]
  have e2 : (sumN h fun k => t k j * D h (put i (b k) (put r (a col) b))) = t i j * D h (put r (a col) b) - t r j * D h (put i (a col) b) := by
    rw [sumN_take _ hi, sumN_take _ hr, sumN_zero, if_neg (Ne.symm hn)]
    · have f1 : put i (b i) (put r (a col) b) = put r (a col) b := by
        have := put_self i (put r (a col) b)
        rw [put_ne _ _ hn] at this
        exact this
      rw [f1, D_cross b (a col) hi hr hn]
      grind
    · intro k hk
      by_cases q : k = r
      · simp only [q, if_true]
      · by_cases q2 : k = i
        · simp only [q2, if_true]
          split <;> rfl
        · simp only [q, q2, if_false]
          rw [D_eq _ hi hk (Ne.symm q2) (by rw [put_at, put_ne _ _ q2, put_ne _ _ q]), Int.mul_zero]
  have e3 : d * (ep * D h (put i (a j) (put r (a col) b))) = ep * (d * D h (put i (a j) (put r (a col) b))) := by grind
  rw [e3, e1, e2, T.tD i hi j hj, T.tD r hr col hc, T.tD i hi col hc, T.tD r hr j hj]
  have := T.eps
  grind
/-- the step's division leaves nothing -/
theorem TI.exact (T : TI h w a c b cb ep d t) {r col i j : Nat} (hr : r < h) (hc : col < w) (hi : i < h) (hj : j < w) (hn : i ≠ r) :
    (t i j * t r col - t i col * t r j) / d = ep * D h (put i (a j) (put r (a col) b)) := by
  have e := T.cross hr hc hi hj hn
  have dp := T.dpos
  rw [← e]
  exact Int.mul_ediv_cancel_left _ (by omega)
theorem TI.zrow (T : TI h w a c b cb ep d t) {r col j : Nat} (hr : r < h) (hc : col < w) (hj : j < w) :
    d * (t r col * c j - sumN h fun i => putI r (c col) cb i * stepT d r col t i j) = t h j * t r col - t h col * t r j := by
  have e0 : (sumN h fun i => putI r (c col) cb i * (d * stepT d r col t i j)) = d * sumN h fun i => putI r (c col) cb i * stepT d r col t i j := by
    rw [← sumN_mul]
    exact sumN_congr fun k _ => by grind
  have e1 : (sumN h fun i => putI r (c col) cb i * (d * stepT d r col t i j)) = (sumN h fun i => cb i * (t i j * t r col - t i col * t r j)) + c col * (d * t r j) := by
    rw [sumN_take _ hr, sumN_take (fun i => cb i * (t i j * t r col - t i col * t r j)) hr]
    have f : (sumN h fun k => if k = r then 0 else putI r (c col) cb k * (d * stepT d r col t k j)) = sumN h fun k => if k = r then 0 else cb k * (t k j * t r col - t k col * t r j) := sumN_congr fun k hk => by
      by_cases q : k = r
      · simp only [q, if_true]
      · simp only [q, if_false]
        unfold putI stepT
        rw [if_neg q, if_neg q, T.exact hr hc hk hj q, T.cross hr hc hk hj q]
    rw [f]
    unfold putI stepT
    rw [if_pos rfl, if_pos rfl]
    grind
  have e2 : (sumN h fun i => cb i * (t i j * t r col - t i col * t r j)) = (sumN h fun i => cb i * t i j) * t r col - (sumN h fun i => cb i * t i col) * t r j := by
    rw [← sumN_mulR, ← sumN_mulR, ← sumN_sub]
    exact sumN_congr fun k _ => by grind
  have zj := T.z j hj
  have zc := T.z col hc
  have m : d * (t r col * c j - sumN h fun i => putI r (c col) cb i * stepT d r col t i j) = d * (t r col * c j) - d * (sumN h fun i => putI r (c col) cb i * stepT d r col t i j) := by grind
  rw [m, ← e0, e1, e2, zj, zc]
  grind
theorem TI.step (T : TI h w a c b cb ep d t) {r col : Nat} (hr : r < h) (hc : col < w) (hp : 0 < t r col) :
    TI h w a c (put r (a col) b) (putI r (c col) cb) ep (t r col) (stepT d r col t) where
  eps := T.eps
  dpos := hp
  dD := T.tD r hr col hc
  tD := fun i hi j hj => by
    unfold stepT
    by_cases q : i = r
    · rw [if_pos q, q, put_put]
      exact T.tD r hr j hj
    · rw [if_neg q]
      exact T.exact hr hc hi hj q
  rel := fun j hj x hx => by
    have dp := T.dpos
    have e : d * (t r col * a j x) = d * sumN h fun i => stepT d r col t i j * put r (a col) b i x := by
      rw [← sumN_mul]
      have e1 : (sumN h fun i => d * (stepT d r col t i j * put r (a col) b i x)) = (sumN h fun i => (t i j * t r col - t i col * t r j) * b i x) + d * t r j * a col x := by
        rw [sumN_take _ hr, sumN_take (fun i => (t i j * t r col - t i col * t r j) * b i x) hr]
        have f : (sumN h fun k => if k = r then 0 else d * (stepT d r col t k j * put r (a col) b k x)) = sumN h fun k => if k = r then 0 else (t k j * t r col - t k col * t r j) * b k x := sumN_congr fun k hk => by
          by_cases q : k = r
          · simp only [q, if_true]
          · simp only [q, if_false]
            rw [put_ne _ _ q, ← T.cross hr hc hk hj q, ← T.exact hr hc hk hj q]
            unfold stepT
            rw [if_neg q]
            grind
        rw [f, put_at]
        unfold stepT
        rw [if_pos rfl]
        grind
      have e2 : (sumN h fun i => (t i j * t r col - t i col * t r j) * b i x) = t r col * (sumN h fun i => t i j * b i x) - t r j * (sumN h fun i => t i col * b i x) := by
        rw [← sumN_mul, ← sumN_mul, ← sumN_sub]
        exact sumN_congr fun k _ => by grind
      have rj := T.rel j hj x hx
      have rc := T.rel col hc x hx
      rw [e1, e2, ← rj, ← rc]
      grind
    exact Int.eq_of_mul_eq_mul_left (by omega) e
  z := fun j hj => by
    have dp := T.dpos
    have e := T.zrow hr hc hj
    have s : stepT d r col t h j = (t h j * t r col - t h col * t r j) / d := by
      unfold stepT
      rw [if_neg (by omega)]
    rw [s, ← e]
    exact Int.mul_ediv_cancel_left _ (by omega)
/-- d times the step's entries -/
theorem TI.mul_step (T : TI h w a c b cb ep d t) {r col i j : Nat} (hr : r < h) (hc : col < w) (hi : i ≤ h) (hj : j < w) (hn : i ≠ r) :
    d * stepT d r col t i j = t i j * t r col - t i col * t r j := by
  unfold stepT
  rw [if_neg hn]
  have dp := T.dpos
  by_cases q : i = h
  · subst q
    rw [← T.zrow hr hc hj, Int.mul_ediv_cancel_left _ (by omega)]
  · rw [T.exact hr hc (by omega) hj hn]
    exact T.cross hr hc (by omega) hj hn
/-- a row's sign changed -/
def negT (r : Nat) (t : Nat → Nat → Int) : Nat → Nat → Int := fun i j => if i = r then - t r j else t i j
theorem TI.neg (T : TI h w a c b cb ep d t) {r : Nat} (hr : r < h) :
    TI h w a c (put r (fun x => -1 * b r x) b) (putI r (- cb r) cb) (-ep) d (negT r t) where
  eps := by have := T.eps; grind
  dpos := T.dpos
  dD := by
    rw [D_scale (-1) hr, put_self, T.dD]
    grind
  tD := fun i hi j hj => by
    unfold negT
    by_cases q : i = r
    · rw [if_pos q, q, put_put, T.tD r hr j hj]
      grind
    · rw [if_neg q, put_comm _ _ _ q, D_scale (-1) hr]
      have f : put r (b r) (put i (a j) b) = put i (a j) b := by
        have := put_self r (put i (a j) b)
        rw [put_ne _ _ (Ne.symm q)] at this
        exact this
      rw [f, T.tD i hi j hj]
      grind
  rel := fun j hj x hx => by
    rw [T.rel j hj x hx]
    refine sumN_congr fun k _ => ?_
    unfold negT put
    split
    · rename_i q; subst q; grind
    · rfl
  z := fun j hj => by
    have e : negT r t h j = t h j := by
      unfold negT
      rw [if_neg (by omega)]
    rw [e, T.z j hj]
    congr 1
    refine sumN_congr fun k _ => ?_
    unfold negT putI
    split
    · rename_i q; subst q; grind
    · rfl
/-- a column that leads a row -/
theorem TI.basic (T : TI h w a c b cb ep d t) {i k j : Nat} (hi : i < h) (hk : k < h) (hj : j < w) (e : b i = a j) : t k j = if k = i then d else 0 := by
  rw [T.tD k hk j hj, ← e]
  by_cases q : k = i
  · rw [if_pos q, q, put_self, T.dD]
  · rw [if_neg q, D_eq _ hk hi q (by rw [put_at, put_ne _ _ (Ne.symm q)])]
    exact Int.mul_zero _
theorem TI.zbasic (T : TI h w a c b cb ep d t) {i j : Nat} (hi : i < h) (hj : j < w) (e : b i = a j) (ec : cb i = c j) : t h j = 0 := by
  rw [T.z j hj, sumN_one hi fun k hk hn => by
    rw [T.basic hi hk hj e, if_neg hn]
    exact Int.mul_zero _]
  rw [T.basic hi hi hj e, if_pos rfl, ec]
  grind
/-- a combination of columns that is 0 -/
theorem TI.ker (T : TI h w a c b cb ep d t) {n : Nat} (x : Nat → Int) (hn : n ≤ w) (k : ∀ y, y < h → (sumN n fun j => a j y * x j) = 0) :
    ∀ i, i < h → (sumN n fun j => t i j * x j) = 0 := fun i hi => by
  have e : (sumN n fun j => t i j * x j) = ep * D h (put i (fun y => sumN n fun j => x j * a j y) b) := by
    rw [D_sum _ hi, ← sumN_mul]
    refine sumN_congr fun j hj => ?_
    rw [T.tD i hi j (by omega)]
    grind
  rw [e]
  have z : D h (put i (fun y => sumN n fun j => x j * a j y) b) = 0 := by
    have q := D_scale (b := b) 0 hi (fun _ => 0)
    rw [Int.zero_mul (D h (put i (fun _ => 0) b))] at q
    refine Eq.trans (D_congr fun s hs y hy => ?_) q
    unfold put
    split
    · show (sumN n fun j => x j * a j y) = 0 * 0
      rw [Int.mul_zero, ← k y hy]
      exact sumN_congr fun j _ => Int.mul_comm _ _
    · rfl
  rw [z, Int.mul_zero]
theorem TI.obj (T : TI h w a c b cb ep d t) {n : Nat} (x : Nat → Int) (hn : n ≤ w) (k : ∀ y, y < h → (sumN n fun j => a j y * x j) = 0) :
    (sumN n fun j => t h j * x j) = d * sumN n fun j => c j * x j := by
  have e : (sumN n fun j => t h j * x j) = d * (sumN n fun j => c j * x j) - sumN h fun i => cb i * sumN n fun j => t i j * x j := by
    have e1 : (sumN n fun j => t h j * x j) = sumN n fun j => d * (c j * x j) - sumN h fun i => cb i * (t i j * x j) := sumN_congr fun j hj => by
      rw [T.z j (by omega), Int.sub_mul, ← sumN_mulR]
      congr 1
      · grind
      · exact sumN_congr fun i _ => by grind
    rw [e1, sumN_sub, sumN_mul, sumN_swap]
    congr 1
    refine sumN_congr fun i _ => ?_
    rw [sumN_mul]
  have z : (sumN h fun i => cb i * sumN n fun j => t i j * x j) = 0 := sumN_zero fun i hi => by
    rw [T.ker x hn k i hi]
    exact Int.mul_zero _
  rw [e, z]
  omega
end
end SV
namespace SV
/-! Bland's rule ends -/
theorem inf_pick {S : Nat → Prop} {f : Nat → Nat} : ∀ (w : Nat), (∀ N, ∃ m, N ≤ m ∧ S m ∧ f m < w) → ∃ v, ∀ N, ∃ m, N ≤ m ∧ S m ∧ f m = v
  | 0, h => let ⟨_, _, _, z⟩ := h 0; absurd z (Nat.not_lt_zero _)
  | w + 1, h => by
    by_cases q : ∀ N, ∃ m, N ≤ m ∧ S m ∧ f m = w
    · exact ⟨w, q⟩
    · obtain ⟨N0, q⟩ := Classical.not_forall.mp q
      refine inf_pick w fun N => ?_
      obtain ⟨m, h1, h2, h3⟩ := h (max N N0)
      refine ⟨m, by omega, h2, ?_⟩
      have : f m ≠ w := fun z => q ⟨m, by omega, h2, z⟩
      omega
theorem inf_all {f : Nat → Nat → Nat} {w : Nat} : ∀ (h : Nat), (∀ m i, i < h → f m i < w) → ∃ (S : Nat → Prop) (v : Nat → Nat), (∀ N, ∃ m, N ≤ m ∧ S m) ∧ ∀ m, S m → ∀ i, i < h → f m i = v i
  | 0, _ => ⟨fun _ => True, fun _ => 0, fun N => ⟨N, Nat.le_refl _, trivial⟩, fun _ _ _ z => absurd z (Nat.not_lt_zero _)⟩
  | h + 1, b => by
    obtain ⟨S, v, h1, h2⟩ := inf_all h fun m i hi => b m i (by omega)
    obtain ⟨x, hx⟩ := inf_pick (S := S) (f := fun m => f m h) w fun N => let ⟨m, q1, q2⟩ := h1 N; ⟨m, q1, q2, b m h (by omega)⟩
    refine ⟨fun m => S m ∧ f m h = x, fun i => if i = h then x else v i, hx, fun m hm i hi => ?_⟩
    show f m i = if i = h then x else v i
    by_cases e : i = h
    · rw [if_pos e, e]
      exact hm.2
    · rw [if_neg e]
      exact h2 m hm.1 i (by omega)
theorem twice {f : Nat → Nat → Nat} {w h : Nat} (b : ∀ m i, i < h → f m i < w) : ∃ m p, 0 < p ∧ ∀ i, i < h → f (m + p) i = f m i := by
  obtain ⟨S, v, h1, h2⟩ := inf_all h b
  obtain ⟨m, _, q1⟩ := h1 0
  obtain ⟨k, q2, q3⟩ := h1 (m + 1)
  refine ⟨m, k - m, by omega, fun i hi => ?_⟩
  rw [show m + (k - m) = k by omega, h2 k q3 i hi, h2 m q1 i hi]
theorem greatest {p : Nat → Prop} : ∀ (n : Nat), (∃ k, p k) → (∀ k, p k → k < n) → ∃ m, p m ∧ ∀ k, p k → k ≤ m
  | 0, ⟨k, hk⟩, b => absurd (b k hk) (Nat.not_lt_zero _)
  | n + 1, ex, b => by
    by_cases q : p n
    · exact ⟨n, q, fun k hk => by have := b k hk; omega⟩
    · refine greatest n ex fun k hk => ?_
      have := b k hk
      have : k ≠ n := fun z => q (z ▸ hk)
      omega
theorem frac_trans {a b c d e f : Int} (hb : 0 < b) (hd : 0 < d) (hf : 0 < f) (h1 : a * d ≤ c * b) (h2 : c * f ≤ e * d) : a * f ≤ e * b := by
  have q1 : a * d * f ≤ c * b * f := Int.mul_le_mul_of_nonneg_right h1 (by omega)
  have q2 : c * f * b ≤ e * d * b := Int.mul_le_mul_of_nonneg_right h2 (by omega)
  have q : a * f * d ≤ e * b * d := by grind
  exact Int.le_of_mul_le_mul_right q hd
/-- two tables of the same leaders are the same -/
theorem same_table {h w : Nat} {a : Nat → Vec} {c : Nat → Int} {L L' : Nat → Nat} {ep ep' d d' : Int} {t t' : Nat → Nat → Int}
    (T : TI h w a c (fun i => a (L i)) (fun i => c (L i)) ep d t) (T' : TI h w a c (fun i => a (L' i)) (fun i => c (L' i)) ep' d' t') (e : ∀ i, i < h → L i = L' i) :
    d = d' ∧ ∀ i, i ≤ h → ∀ j, j < w → t i j = t' i j := by
  have eD : D h (fun i => a (L i)) = D h (fun i => a (L' i)) := D_congr fun i hi x _ => by
    show a (L i) x = a (L' i) x
    rw [e i hi]
  have h1 := T.dD
  have h2 := T'.dD
  rw [← eD] at h2
  have ee : ep = ep' := by
    have p1 := T.dpos
    have p2 := T'.dpos
    have s1 := T.eps
    have s2 := T'.eps
    have c1 : ep = 1 ∨ ep = -1 := by
      have : (ep - 1) * (ep + 1) = 0 := by grind
      rcases Int.mul_eq_zero.mp this with q | q <;> omega
    have c2 : ep' = 1 ∨ ep' = -1 := by
      have : (ep' - 1) * (ep' + 1) = 0 := by grind
      rcases Int.mul_eq_zero.mp this with q | q <;> omega
    rcases c1 with rfl | rfl <;> rcases c2 with rfl | rfl <;> omega
  subst ee
  have ed : d = d' := by rw [h1, h2]
  have et : ∀ i, i < h → ∀ j, j < w → t i j = t' i j := fun i hi j hj => by
    rw [T.tD i hi j hj, T'.tD i hi j hj]
    congr 1
    refine D_congr fun k hk x _ => ?_
    unfold put
    split
    · rfl
    · show a (L k) x = a (L' k) x
      rw [e k hk]
  refine ⟨ed, fun i hi j hj => ?_⟩
  by_cases q : i = h
  · subst q
    rw [T.z j hj, T'.z j hj, ed]
    congr 1
    refine sumN_congr fun k hk => ?_
    show c (L k) * t k j = c (L' k) * t' k j
    rw [e k hk, et k hk j hj]
  · exact et i (by omega) j hj
/-- an endless run by Bland's rule: columns below l, of these n may enter, the right side at l -/
structure Run (h n l : Nat) (a : Nat → Vec) (c : Nat → Int) (L : Nat → Nat → Nat) (t : Nat → Nat → Nat → Int) (d : Nat → Int) (e r : Nat → Nat) : Prop where
  nl : n ≤ l
  T : ∀ m, ∃ ep, TI h (l + 1) a c (fun i => a (L m i)) (fun i => c (L m i)) ep (d m) (t m)
  Ll : ∀ m i, i < h → L m i < l
  feas : ∀ m i, i < h → 0 ≤ t m i l
  en : ∀ m, e m < n
  ez : ∀ m, t m h (e m) < 0
  ef : ∀ m j, j < e m → 0 ≤ t m h j
  rh : ∀ m, r m < h
  rp : ∀ m, 0 < t m (r m) (e m)
  rr : ∀ m i, i < h → 0 < t m i (e m) → t m (r m) l * t m i (e m) < t m i l * t m (r m) (e m) ∨ (t m (r m) l * t m i (e m) = t m i l * t m (r m) (e m) ∧ L m (r m) ≤ L m i)
  nL : ∀ m i, i < h → L (m + 1) i = if i = r m then e m else L m i
  nd : ∀ m, d (m + 1) = t m (r m) (e m)
  nt : ∀ m i, i ≤ h → ∀ j, j ≤ l → t (m + 1) i j = stepT (d m) (r m) (e m) (t m) i j
section
variable {h n l : Nat} {a : Nat → Vec} {c : Nat → Int} {L : Nat → Nat → Nat} {t : Nat → Nat → Nat → Int} {d : Nat → Int} {e r : Nat → Nat}
theorem Run.shift (R : Run h n l a c L t d e r) (k : Nat) : Run h n l a c (fun m => L (k + m)) (fun m => t (k + m)) (fun m => d (k + m)) (fun m => e (k + m)) (fun m => r (k + m)) :=
  ⟨R.nl, fun m => R.T _, fun m => R.Ll _, fun m => R.feas _, fun m => R.en _, fun m => R.ez _, fun m => R.ef _, fun m => R.rh _, fun m => R.rp _, fun m => R.rr _, fun m => R.nL _, fun m => R.nd _, fun m => R.nt _⟩
theorem Run.dpos (R : Run h n l a c L t d e r) (m : Nat) : 0 < d m := let ⟨_, T⟩ := R.T m; T.dpos
theorem Run.inj (R : Run h n l a c L t d e r) (m : Nat) {i k : Nat} (hi : i < h) (hk : k < h) (q : L m i = L m k) : i = k := by
  refine Classical.byContradiction fun ne => ?_
  obtain ⟨ep, T⟩ := R.T m
  have h1 := T.basic hi hk (j := L m i) (by have := R.Ll m i hi; omega) rfl
  have h2 := T.basic hk hk (j := L m k) (by have := R.Ll m k hk; omega) rfl
  rw [if_neg (fun z => ne z.symm)] at h1
  rw [if_pos rfl, ← q, h1] at h2
  have := T.dpos
  omega
theorem Run.zb (R : Run h n l a c L t d e r) (m : Nat) {i : Nat} (hi : i < h) : t m h (L m i) = 0 := by
  obtain ⟨ep, T⟩ := R.T m
  exact T.zbasic hi (by have := R.Ll m i hi; omega) rfl rfl
theorem Run.same (R : Run h n l a c L t d e r) {m m' : Nat} (q : ∀ i, i < h → L m i = L m' i) : d m = d m' ∧ ∀ i, i ≤ h → ∀ j, j ≤ l → t m i j = t m' i j := by
  obtain ⟨ep, T⟩ := R.T m
  obtain ⟨ep', T'⟩ := R.T m'
  obtain ⟨h1, h2⟩ := same_table T T' q
  exact ⟨h1, fun i hi j hj => h2 i hi j (by omega)⟩
theorem Run.same_e (R : Run h n l a c L t d e r) {m m' : Nat} (q : ∀ i, i < h → L m i = L m' i) : e m = e m' := by
  obtain ⟨_, st⟩ := R.same q
  have n1 := R.nl
  rcases Nat.lt_trichotomy (e m) (e m') with k | k | k
  · have z1 := R.ez m
    have z2 := R.ef m' (e m) k
    rw [st h (Nat.le_refl _) _ (by have := R.en m; omega)] at z1
    omega
  · exact k
  · have z1 := R.ez m'
    have z2 := R.ef m (e m') k
    rw [st h (Nat.le_refl _) _ (by have := R.en m'; omega)] at z2
    omega
theorem Run.same_r (R : Run h n l a c L t d e r) {m m' : Nat} (q : ∀ i, i < h → L m i = L m' i) : r m = r m' := by
  obtain ⟨_, st⟩ := R.same q
  have ee := R.same_e q
  have n1 := R.nl
  have en := R.en m
  have h1 := R.rh m
  have h2 := R.rh m'
  have p1 := R.rp m
  have p2 := R.rp m'
  rw [← ee, ← st _ (by omega) _ (by omega)] at p2
  have w1 := R.rr m (r m') h2 p2
  have w2 := R.rr m' (r m) h1 (by rw [← ee, ← st _ (by omega) _ (by omega)]; exact p1)
  rw [← ee, ← st _ (by omega) l (by omega), ← st _ (by omega) _ (by omega), ← st _ (by omega) l (by omega), ← st _ (by omega) _ (by omega), ← q _ h1, ← q _ h2] at w2
  refine R.inj m h1 h2 ?_
  omega
theorem Run.per (R : Run h n l a c L t d e r) {m p : Nat} (q : ∀ i, i < h → L (m + p) i = L m i) : ∀ k i, i < h → L (m + k + p) i = L (m + k) i
  | 0, i, hi => q i hi
  | k + 1, i, hi => by
    have ih := R.per q k
    have e1 := R.same_e ih
    have r1 := R.same_r ih
    rw [show m + (k + 1) + p = (m + k + p) + 1 by omega, R.nL _ i hi, show m + (k + 1) = (m + k) + 1 by omega, R.nL _ i hi, e1, r1, ih i hi]
theorem Run.up (R : Run h n l a c L t d e r) (m : Nat) : ∀ k, t m h l * d (m + k) ≤ t (m + k) h l * d m
  | 0 => Int.le_refl _
  | k + 1 => by
    refine frac_trans (R.dpos m) (R.dpos (m + k)) (R.dpos (m + (k + 1))) (R.up m k) ?_
    obtain ⟨ep, T⟩ := R.T (m + k)
    have en := R.en (m + k)
    have n1 := R.nl
    have hr := R.rh (m + k)
    have s := T.mul_step (i := h) (j := l) hr (by omega : e (m + k) < l + 1) (Nat.le_refl _) (by omega) (by omega)
    rw [show m + (k + 1) = m + k + 1 by omega, R.nd, R.nt _ h (Nat.le_refl _) l (Nat.le_refl _), Int.mul_comm (stepT _ _ _ _ _ _), s]
    have z := R.ez (m + k)
    have f := R.feas (m + k) _ hr
    have : t (m + k) h (e (m + k)) * t (m + k) (r (m + k)) l ≤ 0 := Int.mul_nonpos_of_nonpos_of_nonneg (by omega) f
    omega
def InB (h : Nat) (L : Nat → Nat → Nat) (m v : Nat) : Prop := ∃ i, i < h ∧ L m i = v
theorem Run.into (R : Run h n l a c L t d e r) {m v : Nat} (h1 : ¬ InB h L m v) (h2 : InB h L (m + 1) v) : e m = v := by
  obtain ⟨i, hi, q⟩ := h2
  rw [R.nL m i hi] at q
  split at q
  · exact q
  · exact absurd ⟨i, hi, q⟩ h1
theorem Run.out (R : Run h n l a c L t d e r) {m v : Nat} (h1 : InB h L m v) (h2 : ¬ InB h L (m + 1) v) : L m (r m) = v := by
  obtain ⟨i, hi, q⟩ := h1
  by_cases k : i = r m
  · rw [← k]; exact q
  · refine absurd ⟨i, hi, ?_⟩ h2
    rw [R.nL m i hi, if_neg k]
    exact q
theorem Run.goes_in (R : Run h n l a c L t d e r) {m v : Nat} (h1 : ¬ InB h L m v) : ∀ k, InB h L (m + k) v → ∃ u, e u = v
  | 0, h2 => absurd h2 h1
  | k + 1, h2 => by
    by_cases q : InB h L (m + k) v
    · exact R.goes_in h1 k q
    · exact ⟨_, R.into q h2⟩
theorem Run.goes_out (R : Run h n l a c L t d e r) {m v : Nat} (h1 : InB h L m v) : ∀ k, ¬ InB h L (m + k) v → ∃ u, m ≤ u ∧ L u (r u) = v
  | 0, h2 => absurd h1 h2
  | k + 1, h2 => by
    by_cases q : InB h L (m + k) v
    · exact ⟨m + k, by omega, R.out q h2⟩
    · exact R.goes_out h1 k q
/-- no run comes back to its leaders -/
theorem Run.no_cycle (R : Run h n l a c L t d e r) {p : Nat} (hp : 0 < p) (q : ∀ i, i < h → L p i = L 0 i) : False := by
  have nl := R.nl
  have per : ∀ m i, i < h → L (m + p) i = L m i := fun m i hi => by
    have := R.per (m := 0) (p := p) (by simpa using q) m i hi
    simpa using this
  have perk : ∀ k m i, i < h → L (m + k * p) i = L m i := fun k => by
    induction k with
    | zero => intro m i hi; simp
    | succ k ih =>
      intro m i hi
      rw [Nat.succ_mul, ← Nat.add_assoc, per _ i hi, ih m i hi]
  have perB : ∀ k m v, InB h L (m + k * p) v ↔ InB h L m v := fun k m v =>
    ⟨fun ⟨i, hi, z⟩ => ⟨i, hi, by rw [← perk k m i hi]; exact z⟩, fun ⟨i, hi, z⟩ => ⟨i, hi, by rw [perk k m i hi]; exact z⟩⟩
  -- all steps are degenerate
  have deg : ∀ m, t m (r m) l = 0 := fun m => by
    have u := R.up (m + 1) (p - 1)
    rw [show m + 1 + (p - 1) = m + p by omega] at u
    obtain ⟨sd, st⟩ := R.same (per m)
    rw [sd, st h (Nat.le_refl _) l (Nat.le_refl _)] at u
    obtain ⟨ep, T⟩ := R.T m
    have en := R.en m
    have hr := R.rh m
    have s := T.mul_step (i := h) (j := l) hr (by omega : e m < l + 1) (Nat.le_refl _) (by omega) (by omega)
    rw [R.nd, R.nt m h (Nat.le_refl _) l (Nat.le_refl _), Int.mul_comm (stepT _ _ _ _ _ _), s] at u
    have z := R.ez m
    have f := R.feas m _ hr
    have pz : 0 ≤ t m h (e m) * t m (r m) l := by omega
    refine Classical.byContradiction fun ne => ?_
    have : t m h (e m) * t m (r m) l < 0 := Int.mul_neg_of_neg_of_pos z (by omega)
    omega
  -- the greatest one that enters
  obtain ⟨v, ⟨u, hu⟩, hv⟩ := greatest (p := fun v => ∃ m, e m = v) n ⟨e 0, 0, rfl⟩ (fun k ⟨m, hm⟩ => by rw [← hm]; exact R.en m)
  have nu : ¬ InB h L u v := fun ⟨i, hi, z⟩ => by
    have z1 := R.ez u
    rw [hu, ← z, R.zb u hi] at z1
    omega
  have iu : InB h L (u + 1) v := ⟨r u, R.rh u, by rw [R.nL u _ (R.rh u), if_pos rfl, hu]⟩
  obtain ⟨w, hw, lw⟩ := R.goes_out iu (p - 1) (by
    rw [show u + 1 + (p - 1) = u + 1 * p by omega, perB]
    exact nu)
  obtain ⟨ep, T⟩ := R.T w
  obtain ⟨ep', T'⟩ := R.T u
  have hr := R.rh w
  have es := R.en w
  have dw := R.dpos w
  have du := R.dpos u
  -- the direction at w
  let x : Nat → Int := fun j => (if j = e w then d w else 0) - sumN h fun i => if L w i = j then t w i (e w) else 0
  have pick : ∀ g : Nat → Int, (sumN l fun j => g j * x j) = g (e w) * d w - sumN h fun i => g (L w i) * t w i (e w) := fun g => by
    have e1 : (sumN l fun j => g j * x j) = (sumN l fun j => g j * (if j = e w then d w else 0)) - sumN l fun j => sumN h fun i => g j * (if L w i = j then t w i (e w) else 0) := by
      rw [← sumN_sub]
      refine sumN_congr fun j _ => ?_
      show g j * ((if j = e w then d w else 0) - sumN h fun i => if L w i = j then t w i (e w) else 0) = _
      rw [Int.mul_sub, sumN_mul]
    rw [e1, sumN_swap]
    congr 1
    · rw [sumN_one (i := e w) (by omega) fun k _ hn => by rw [if_neg hn]; exact Int.mul_zero _, if_pos rfl]
    · refine sumN_congr fun i hi => ?_
      rw [sumN_one (i := L w i) (R.Ll w i hi) fun k _ hn => by rw [if_neg (fun z => hn z.symm)]; exact Int.mul_zero _, if_pos rfl]
  have ker : ∀ y, y < h → (sumN l fun j => a j y * x j) = 0 := fun y hy => by
    rw [pick fun j => a j y]
    have := T.rel (e w) (by omega) y hy
    have e2 : (sumN h fun i => a (L w i) y * t w i (e w)) = sumN h fun i => t w i (e w) * a (L w i) y := sumN_congr fun i _ => Int.mul_comm _ _
    rw [e2, Int.mul_comm]
    show d w * a (e w) y - (sumN h fun i => t w i (e w) * a (L w i) y) = 0
    omega
  have o1 := T.obj (n := l) x (by omega) ker
  have o2 := T'.obj (n := l) x (by omega) ker
  rw [pick fun j => t w h j] at o1
  have zs : (sumN h fun i => t w h (L w i) * t w i (e w)) = 0 := sumN_zero fun i hi => by rw [R.zb w hi]; exact Int.zero_mul _
  rw [zs] at o1
  have F : (sumN l fun j => c j * x j) < 0 := by
    have z := R.ez w
    have : d w * (sumN l fun j => c j * x j) = d w * t w h (e w) := by rw [← o1, Int.sub_zero, Int.mul_comm]
    rw [Int.eq_of_mul_eq_mul_left (by omega) this]
    exact z
  have neg : (sumN l fun j => t u h j * x j) < 0 := by
    rw [o2]
    exact Int.mul_neg_of_pos_of_neg du F
  obtain ⟨j, hj, nj⟩ := sumN_neg_ex neg
  have eb : ¬ InB h L w (e w) := fun ⟨i, hi, z⟩ => by
    have z1 := R.ez w
    rw [← z, R.zb w hi] at z1
    omega
  have ev : e w ≠ v := fun z => eb ⟨r w, hr, by rw [lw, z]⟩
  have ele : e w ≤ v := hv _ ⟨w, rfl⟩
  by_cases js : j = e w
  · have xs : x j = d w := by
      show (if j = e w then d w else 0) - (sumN h fun i => if L w i = j then t w i (e w) else 0) = d w
      rw [if_pos js, sumN_zero fun i hi => if_neg fun z => eb ⟨i, hi, by rw [z, js]⟩]
      omega
    have z0 := R.ef u j (by omega)
    rw [xs] at nj
    have : 0 ≤ t u h j * d w := Int.mul_nonneg z0 (by omega)
    omega
  · by_cases jb : InB h L w j
    · obtain ⟨i, hi, li⟩ := jb
      have xi : x j = - t w i (e w) := by
        show (if j = e w then d w else 0) - (sumN h fun i => if L w i = j then t w i (e w) else 0) = _
        rw [if_neg js, sumN_one hi fun k hk hn => if_neg fun z => hn (R.inj w hk hi (by rw [z, li])), if_pos li]
        omega
      rw [xi] at nj
      have nuj : ¬ InB h L u j := fun ⟨k, hk, z⟩ => by
        rw [← z, R.zb u hk] at nj
        omega
      -- j stands among those that enter, and its value is 0 throughout
      have hup : u ≤ w + u * p := by
        have : u * 1 ≤ u * p := Nat.mul_le_mul_left u hp
        omega
      have inw : InB h L (u + (w + u * p - u)) j := by
        rw [show u + (w + u * p - u) = w + u * p by omega, perB]
        exact ⟨i, hi, li⟩
      have jv : j ≤ v := hv j (R.goes_in nuj _ inw)
      have zero : ∀ k s, s < h → L (u + k) s = j → t (u + k) s l = 0 := fun k => by
        induction k with
        | zero => exact fun s hs z => absurd ⟨s, hs, z⟩ nuj
        | succ k ih =>
          intro s hs z
          have n2 := R.nt (u + k) s (by omega) l (Nat.le_refl _)
          rw [show u + (k + 1) = u + k + 1 by omega] at z ⊢
          rw [R.nL _ s hs] at z
          rw [n2]
          unfold stepT
          by_cases k1 : s = r (u + k)
          · rw [if_pos k1]
            exact deg (u + k)
          · rw [if_neg k1]
            rw [if_neg k1] at z
            rw [ih s hs z, deg (u + k)]
            simp
      have zi : t w i l = 0 := by
        have z := zero (w + u * p - u) i hi (by
          rw [show u + (w + u * p - u) = w + u * p by omega, perk u w i hi]
          exact li)
        rw [show u + (w + u * p - u) = w + u * p by omega] at z
        obtain ⟨_, st⟩ := R.same (perk u w)
        rw [← st i (by omega) l (Nat.le_refl _)]
        exact z
      rcases Nat.lt_or_ge j v with lt | ge
      · have z0 := R.ef u j (by omega)
        have tp : 0 < t w i (e w) := by
          refine Classical.byContradiction fun z => ?_
          have : 0 ≤ t u h j * -t w i (e w) := Int.mul_nonneg z0 (by omega)
          omega
        rcases R.rr w i hi tp with z | ⟨_, z⟩
        · rw [deg w, zi] at z
          omega
        · rw [lw, li] at z
          omega
      · have je : j = v := by omega
        have ir : i = r w := R.inj w hi hr (by rw [li, lw, je])
        have p1 := R.rp w
        rw [← ir] at p1
        have z1 := R.ez u
        rw [hu, ← je] at z1
        have : 0 < t u h j * -t w i (e w) := Int.mul_pos_of_neg_of_neg z1 (by omega)
        omega
    · have xj : x j = 0 := by
        show (if j = e w then d w else 0) - (sumN h fun i => if L w i = j then t w i (e w) else 0) = 0
        rw [if_neg js, sumN_zero fun i hi => if_neg fun z => jb ⟨i, hi, z⟩]
        omega
      rw [xj] at nj
      omega
theorem Run.false (R : Run h n l a c L t d e r) : False := by
  obtain ⟨m, p, hp, q⟩ := twice (f := L) (w := l) (h := h) R.Ll
  exact (R.shift m).no_cycle (p := p) hp q
end
end SV
namespace SV
/-! the descent's steps, as functions -/
structure St where
  t : Nat → Nat → Int
  L : Nat → Nat
  d : Int
def enterF (z : Nat → Int) : Nat → Option Nat
  | 0 => none
  | n + 1 => match enterF z n with
    | some j => some j
    | none => if z n < 0 then some n else none
theorem enterF_ok {z : Nat → Int} : ∀ {n : Nat}, (∀ j, enterF z n = some j → j < n ∧ z j < 0 ∧ ∀ k, k < j → 0 ≤ z k) ∧ (enterF z n = none → ∀ k, k < n → 0 ≤ z k)
  | 0 => ⟨fun j h => (nomatch h), fun _ k hk => absurd hk (Nat.not_lt_zero k)⟩
  | n + 1 => by
    obtain ⟨i1, i2⟩ := enterF_ok (z := z) (n := n)
    unfold enterF
    cases e : enterF z n with
    | some j =>
      refine ⟨fun k h => ?_, fun h => nomatch h⟩
      cases h
      obtain ⟨h1, h2, h3⟩ := i1 j e
      exact ⟨by omega, h2, h3⟩
    | none =>
      have z1 := i2 e
      by_cases q : z n < 0
      · simp only [q, if_true]
        refine ⟨fun k h => ?_, fun h => nomatch h⟩
        cases h
        exact ⟨by omega, q, z1⟩
      · simp only [q, if_false]
        refine ⟨fun k h => (nomatch h), fun _ k hk => ?_⟩
        by_cases w : k = n
        · subst w; omega
        · exact z1 k (by omega)
def leaveF (t : Nat → Nat → Int) (L : Nat → Nat) (col l : Nat) : Nat → Option Nat
  | 0 => none
  | i + 1 => if 0 < t i col then
      match leaveF t L col l i with
      | none => some i
      | some b => if t i l * t b col < t b l * t i col ∨ (t i l * t b col = t b l * t i col ∧ L i < L b) then some i else some b
    else leaveF t L col l i
def LvOk (t : Nat → Nat → Int) (L : Nat → Nat) (col l i : Nat) (o : Option Nat) : Prop :=
  (o = none → ∀ k, k < i → t k col ≤ 0) ∧ ∀ r, o = some r → r < i ∧ 0 < t r col ∧ ∀ k, k < i → 0 < t k col → t r l * t k col < t k l * t r col ∨ (t r l * t k col = t k l * t r col ∧ L r ≤ L k)
theorem ratio_trans {x y z p q r : Int} {a b c : Nat} (hp : 0 < p) (hq : 0 < q) (hr : 0 < r) (h1 : x * q < y * p ∨ (x * q = y * p ∧ a ≤ b)) (h2 : y * r < z * q ∨ (y * r = z * q ∧ b ≤ c)) : x * r < z * p ∨ (x * r = z * p ∧ a ≤ c) := by
  have w1 : x * q ≤ y * p := by omega
  have w2 : y * r ≤ z * q := by omega
  have m1 : x * q * r ≤ y * p * r := Int.mul_le_mul_of_nonneg_right w1 (by omega)
  have m2 : y * r * p ≤ z * q * p := Int.mul_le_mul_of_nonneg_right w2 (by omega)
  have e1 : x * q * r = x * r * q := by grind
  have e2 : y * p * r = y * r * p := by grind
  have e3 : z * q * p = z * p * q := by grind
  rcases h1 with h1 | ⟨h1, l1⟩
  · have s1 : x * q * r < y * p * r := Int.mul_lt_mul_of_pos_right h1 hr
    refine .inl (Int.lt_of_mul_lt_mul_right (a := q) ?_ (by omega))
    omega
  · rcases h2 with h2 | ⟨h2, l2⟩
    · have s2 : y * r * p < z * q * p := Int.mul_lt_mul_of_pos_right h2 hp
      refine .inl (Int.lt_of_mul_lt_mul_right (a := q) ?_ (by omega))
      omega
    · refine .inr ⟨?_, by omega⟩
      have : x * r * q = z * p * q := by
        rw [← e1, ← e3, h1, ← h2, e2]
      exact Int.eq_of_mul_eq_mul_right (by omega) this
theorem leaveF_ok {t : Nat → Nat → Int} {L : Nat → Nat} {col l : Nat} : ∀ i, LvOk t L col l i (leaveF t L col l i)
  | 0 => ⟨fun _ k hk => absurd hk (Nat.not_lt_zero k), fun r h => nomatch h⟩
  | i + 1 => by
    obtain ⟨i1, i2⟩ := leaveF_ok (t := t) (L := L) (col := col) (l := l) i
    unfold leaveF
    by_cases q : 0 < t i col
    · rw [if_pos q]
      cases e : leaveF t L col l i with
      | none =>
        refine ⟨fun h => (by cases h), fun r h => ?_⟩
        cases h
        refine ⟨by omega, q, fun k hk pk => ?_⟩
        by_cases w : k = i
        · subst w; exact .inr ⟨rfl, Nat.le_refl _⟩
        · have := i1 e k (by omega); omega
      | some b =>
        obtain ⟨h1, h2, h3⟩ := i2 b e
        by_cases w : t i l * t b col < t b l * t i col ∨ (t i l * t b col = t b l * t i col ∧ L i < L b)
        · simp only [w, if_true]
          refine ⟨fun h => (by cases h), fun r h => ?_⟩
          cases h
          refine ⟨by omega, q, fun k hk pk => ?_⟩
          by_cases z : k = i
          · subst z; exact .inr ⟨rfl, Nat.le_refl _⟩
          · exact ratio_trans q h2 pk (by omega) (h3 k (by omega) pk)
        · simp only [w, if_false]
          refine ⟨fun h => (by cases h), fun r h => ?_⟩
          cases h
          refine ⟨by omega, h2, fun k hk pk => ?_⟩
          by_cases z : k = i
          · subst z; omega
          · exact h3 k (by omega) pk
    · rw [if_neg q]
      refine ⟨fun h k hk => ?_, fun r h => ?_⟩
      · by_cases z : k = i
        · subst z; omega
        · exact i1 h k (by omega)
      · obtain ⟨h1, h2, h3⟩ := i2 r h
        refine ⟨by omega, h2, fun k hk pk => ?_⟩
        by_cases z : k = i
        · subst z; omega
        · exact h3 k (by omega) pk
def piv (s : St) (r col : Nat) : St := ⟨stepT s.d r col s.t, fun i => if i = r then col else s.L i, s.t r col⟩
def nextS (h n l : Nat) (s : St) : Option St := match enterF (s.t h) n with
  | none => none
  | some col => match leaveF s.t s.L col l h with
    | none => none
    | some r => some (piv s r col)
def Ends (h n l : Nat) : Nat → St → Prop
  | 0, s => nextS h n l s = none
  | k + 1, s => nextS h n l s = none ∨ ∃ s', nextS h n l s = some s' ∧ Ends h n l k s'
structure PInv (h n l : Nat) (a : Nat → Vec) (c : Nat → Int) (s : St) : Prop where
  nl : n ≤ l
  T : ∃ ep, TI h (l + 1) a c (fun i => a (s.L i)) (fun i => c (s.L i)) ep s.d s.t
  Ll : ∀ i, i < h → s.L i < l
  feas : ∀ i, i < h → 0 ≤ s.t i l
section
variable {h n l : Nat} {a : Nat → Vec} {c : Nat → Int} {s s' : St} {r col : Nat}
theorem put_comp (a : Nat → Vec) (L : Nat → Nat) (r col : Nat) : put r (a col) (fun i => a (L i)) = fun i => a (if i = r then col else L i) := by
  funext i; unfold put; split <;> rfl
theorem putI_comp (c : Nat → Int) (L : Nat → Nat) (r col : Nat) : putI r (c col) (fun i => c (L i)) = fun i => c (if i = r then col else L i) := by
  funext i; unfold putI; split <;> rfl
theorem PInv.piv (P : PInv h n l a c s) (hr : r < h) (hc : col < n) (hp : 0 < s.t r col) (lv : ∀ i, i < h → 0 < s.t i col → s.t r l * s.t i col ≤ s.t i l * s.t r col) : PInv h n l a c (piv s r col) := by
  have nl := P.nl
  obtain ⟨ep, T⟩ := P.T
  refine ⟨nl, ⟨ep, ?_⟩, fun i hi => ?_, fun i hi => ?_⟩
  · have := T.step hr (by omega : col < l + 1) hp
    rw [put_comp, putI_comp] at this
    exact this
  · show (if i = r then col else s.L i) < l
    split
    · omega
    · exact P.Ll i hi
  · show 0 ≤ stepT s.d r col s.t i l
    by_cases q : i = r
    · unfold stepT
      rw [if_pos q]
      exact P.feas r hr
    · have m := T.mul_step hr (by omega : col < l + 1) (by omega : i ≤ h) (by omega : l < l + 1) q
      have dp := T.dpos
      have f1 := P.feas i hi
      have f2 := P.feas r hr
      have : 0 ≤ s.d * stepT s.d r col s.t i l := by
        rw [m]
        by_cases w : 0 < s.t i col
        · have := lv i hi w
          rw [Int.mul_comm (s.t i col)]
          omega
        · have x1 : 0 ≤ s.t i l * s.t r col := Int.mul_nonneg f1 (by omega)
          have x2 : s.t i col * s.t r l ≤ 0 := Int.mul_nonpos_of_nonpos_of_nonneg (by omega) f2
          omega
      refine Classical.byContradiction fun z => ?_
      have : s.d * stepT s.d r col s.t i l < 0 := Int.mul_neg_of_pos_of_neg dp (by omega)
      omega
theorem nextS_some (e : nextS h n l s = some s') : ∃ r col, s' = piv s r col ∧ enterF (s.t h) n = some col ∧ leaveF s.t s.L col l h = some r := by
  unfold nextS at e
  cases e1 : enterF (s.t h) n with
  | none => rw [e1] at e; cases e
  | some col =>
    rw [e1] at e
    simp only at e
    cases e2 : leaveF s.t s.L col l h with
    | none => rw [e2] at e; cases e
    | some r => rw [e2] at e; cases e; exact ⟨r, col, rfl, rfl, e2⟩
theorem PInv.next (P : PInv h n l a c s) (e : nextS h n l s = some s') : PInv h n l a c s' := by
  obtain ⟨r, col, rfl, e1, e2⟩ := nextS_some e
  obtain ⟨h1, h2, h3⟩ := enterF_ok.1 col e1
  obtain ⟨g1, g2, g3⟩ := (leaveF_ok h).2 r e2
  exact P.piv g1 h1 g2 fun i hi q => by have := g3 i hi q; omega
theorem not_ends (q : ∀ k, ¬ Ends h n l k s) : ∃ s', nextS h n l s = some s' ∧ ∀ k, ¬ Ends h n l k s' := by
  cases e : nextS h n l s with
  | none => exact absurd e (q 0)
  | some s' => exact ⟨s', rfl, fun k z => q (k + 1) (.inr ⟨s', e, z⟩)⟩
def seqS (h n l : Nat) (s : St) : Nat → St
  | 0 => s
  | m + 1 => (nextS h n l (seqS h n l s m)).getD s
theorem PInv.ends (P : PInv h n l a c s) : ∃ k, Ends h n l k s := by
  refine Classical.byContradiction fun z => ?_
  have q : ∀ m, (∀ k, ¬ Ends h n l k (seqS h n l s m)) ∧ PInv h n l a c (seqS h n l s m) := fun m => by
    induction m with
    | zero => exact ⟨fun k w => z ⟨k, w⟩, P⟩
    | succ m ih =>
      obtain ⟨s', e, w⟩ := not_ends ih.1
      have : seqS h n l s (m + 1) = s' := by
        show (nextS h n l (seqS h n l s m)).getD s = s'
        rw [e]; rfl
      rw [this]
      exact ⟨w, ih.2.next e⟩
  have w : ∀ m, ∃ r col, seqS h n l s (m + 1) = SV.piv (seqS h n l s m) r col ∧ enterF ((seqS h n l s m).t h) n = some col ∧ leaveF (seqS h n l s m).t (seqS h n l s m).L col l h = some r := fun m => by
    obtain ⟨s', e, _⟩ := not_ends (q m).1
    have : seqS h n l s (m + 1) = s' := by
      show (nextS h n l (seqS h n l s m)).getD s = s'
      rw [e]; rfl
    rw [this]
    exact nextS_some e
  have w2 : ∃ r col : Nat → Nat, ∀ m, seqS h n l s (m + 1) = SV.piv (seqS h n l s m) (r m) (col m) ∧ enterF ((seqS h n l s m).t h) n = some (col m) ∧ leaveF (seqS h n l s m).t (seqS h n l s m).L (col m) l h = some (r m) :=
    ⟨fun m => (w m).choose, fun m => (w m).choose_spec.choose, fun m => (w m).choose_spec.choose_spec⟩
  obtain ⟨r, col, w2⟩ := w2
  have R : Run h n l a c (fun m => (seqS h n l s m).L) (fun m => (seqS h n l s m).t) (fun m => (seqS h n l s m).d) col r := by
    have en := fun m => enterF_ok.1 _ (w2 m).2.1
    have lv := fun m => (leaveF_ok h).2 _ (w2 m).2.2
    refine ⟨P.nl, fun m => (q m).2.T, fun m => (q m).2.Ll, fun m => (q m).2.feas, fun m => (en m).1, fun m => (en m).2.1, fun m => (en m).2.2, fun m => (lv m).1, fun m => (lv m).2.1, fun m => (lv m).2.2, fun m i _ => ?_, fun m => ?_, fun m i _ j _ => ?_⟩
    · show (seqS h n l s (m + 1)).L i = _
      rw [(w2 m).1]; rfl
    · show (seqS h n l s (m + 1)).d = _
      rw [(w2 m).1]; rfl
    · show (seqS h n l s (m + 1)).t i j = _
      rw [(w2 m).1]; rfl
  exact R.false
/-! sizes -/
theorem TI.bnd {w : Nat} {b : Nat → Vec} {cb : Nat → Int} {ep d : Int} {t : Nat → Nat → Int} (T : TI h w a c b cb ep d t) {M Mv : Nat} (hM : 1 ≤ M) (hb : ∀ i, i < h → ∀ x, x < h → (b i x).natAbs ≤ M) (ha : ∀ j, j < w → ∀ x, x < h → (a j x).natAbs ≤ Mv) :
    d.natAbs ≤ fact h * M ^ h ∧ ∀ i, i < h → ∀ j, j < w → (t i j).natAbs ≤ h * (Mv * (fact h * M ^ h)) := by
  have e1 : ep.natAbs = 1 := by
    have s1 := T.eps
    have : (ep - 1) * (ep + 1) = 0 := by grind
    rcases Int.mul_eq_zero.mp this with q | q <;> omega
  refine ⟨?_, fun i hi j hj => ?_⟩
  · rw [T.dD, Int.natAbs_mul, e1, Nat.one_mul]
    exact D_abs hb
  · rw [T.tD i hi j hj, Int.natAbs_mul, e1, Nat.one_mul]
    exact D_abs_put hM hi hb (ha j hj)
theorem TI.bndz {w : Nat} {b : Nat → Vec} {cb : Nat → Int} {ep d : Int} {t : Nat → Nat → Int} (T : TI h w a c b cb ep d t) {B W C : Nat} (hd : d.natAbs ≤ B) (ht : ∀ i, i < h → ∀ j, j < w → (t i j).natAbs ≤ W) (hc : ∀ j, j < w → (c j).natAbs ≤ C) (hcb : ∀ i, i < h → (cb i).natAbs ≤ C) :
    ∀ j, j < w → (t h j).natAbs ≤ B * C + h * (C * W) := fun j hj => by
  rw [T.z j hj]
  have h1 : (d * c j).natAbs ≤ B * C := by rw [Int.natAbs_mul]; exact Nat.mul_le_mul hd (hc j hj)
  have h2 : (sumN h fun i => cb i * t i j).natAbs ≤ h * (C * W) := sumN_abs fun k hk => by rw [Int.natAbs_mul]; exact Nat.mul_le_mul (hcb k hk) (ht k hk j hj)
  omega
end
end SV
namespace SV
/-! the first table -/
section
variable {h n : Nat} (A : Nat → Nat → Int) (b : Nat → Int)
def sgA (b : Nat → Int) (i : Nat) : Int := if b i < 0 then -1 else 1
def colF (h n : Nat) (A : Nat → Nat → Int) (b : Nat → Int) (j : Nat) : Vec := fun x => if j < n then sgA b x * A x j else if j < n + h then (if j - n = x then 1 else 0) else sgA b x * b x
def c1F (h n : Nat) (j : Nat) : Int := if j < n then 0 else if j < n + h then 1 else 0
def t0F (h n : Nat) (A : Nat → Nat → Int) (b : Nat → Int) (i j : Nat) : Int := if i = h then (if j < n then - sumN h (fun k => colF h n A b j k) else if j < n + h then 0 else - sumN h (fun k => colF h n A b j k)) else colF h n A b j i
def s0F (h n : Nat) (A : Nat → Nat → Int) (b : Nat → Int) : St := ⟨t0F h n A b, fun i => n + i, 1⟩
end
section
variable {h n : Nat} {A : Nat → Nat → Int} {b : Nat → Int}
theorem sgA_sq (b : Nat → Int) (i : Nat) : sgA b i * sgA b i = 1 := by unfold sgA; split <;> rfl
theorem sgA_b (b : Nat → Int) (i : Nat) : 0 ≤ sgA b i * b i := by unfold sgA; split <;> omega
theorem sgA_abs (b : Nat → Int) (i : Nat) : (sgA b i).natAbs = 1 := by unfold sgA; split <;> rfl
theorem col_help {i : Nat} (hi : i < h) : colF h n A b (n + i) = unit i := by
  funext x
  unfold colF unit
  rw [if_neg (by omega), if_pos (by omega)]
  by_cases q : x = i
  · rw [if_pos q, if_pos (by omega)]
  · rw [if_neg q, if_neg (by omega)]
theorem put_unit (v : Vec) {i : Nat} (hi : i < h) : D h (put i v unit) = v i := by
  have e : D h (put i v unit) = D h (put i (fun x => sumN h fun k => v k * unit k x) unit) := D_congr fun y hy x hx => by
    unfold put
    split
    · show v x = sumN h fun k => v k * unit k x
      rw [sumN_one (i := x) hx fun k _ hn => by unfold unit; rw [if_neg (fun z => hn z.symm)]; exact Int.mul_zero _]
      unfold unit; rw [if_pos rfl, Int.mul_one]
    · rfl
  rw [e, D_sum _ hi, sumN_one (i := i) hi fun k hk hn => by
    rw [D_eq _ hi hk (fun z => hn z.symm) (by rw [put_at, put_ne _ _ hn])]
    exact Int.mul_zero _]
  rw [put_self, D_unit, Int.mul_one]
theorem t0_lt {i j : Nat} (hi : i < h) : t0F h n A b i j = colF h n A b j i := by unfold t0F; rw [if_neg (by omega)]
theorem t0_TI : TI h (n + h + 1) (colF h n A b) (c1F h n) (fun i => colF h n A b (n + i)) (fun i => c1F h n (n + i)) 1 1 (t0F h n A b) where
  eps := rfl
  dpos := by decide
  dD := by
    rw [D_congr (c := unit) fun i hi x _ => by rw [col_help hi], D_unit]; rfl
  tD := fun i hi j hj => by
    rw [t0_lt hi, Int.one_mul, ← put_unit (colF h n A b j) hi]
    refine D_congr fun k hk x _ => ?_
    unfold put
    split
    · rfl
    · show unit k x = colF h n A b (n + k) x
      rw [col_help hk]
  rel := fun j hj x hx => by
    rw [Int.one_mul, sumN_one (i := x) hx fun k hk hn => by
      rw [col_help hk]; unfold unit; rw [if_neg (fun z => hn z.symm)]; exact Int.mul_zero _]
    rw [col_help hx, t0_lt hx]; unfold unit; rw [if_pos rfl, Int.mul_one]
  z := fun j hj => by
    have e : (sumN h fun i => c1F h n (n + i) * t0F h n A b i j) = sumN h fun k => colF h n A b j k := sumN_congr fun k hk => by
      rw [t0_lt hk]; unfold c1F; rw [if_neg (by omega), if_pos (by omega), Int.one_mul]
    rw [e]
    unfold t0F c1F
    rw [if_pos rfl]
    by_cases q : j < n
    · rw [if_pos q, if_pos q]; omega
    · rw [if_neg q, if_neg q]
      by_cases q2 : j < n + h
      · rw [if_pos q2, if_pos q2]
        have : (sumN h fun k => colF h n A b j k) = 1 := by
          obtain ⟨i, rfl⟩ : ∃ i, j = n + i := ⟨j - n, by omega⟩
          have hi : i < h := by omega
          rw [col_help hi, sumN_one (i := i) hi fun k _ hn => by unfold unit; rw [if_neg hn]]
          unfold unit; rw [if_pos rfl]
        omega
      · rw [if_neg q2, if_neg q2]; omega
theorem s0_inv : PInv h n (n + h) (colF h n A b) (c1F h n) (s0F h n A b) where
  nl := by omega
  T := ⟨1, t0_TI⟩
  Ll := fun i hi => by show n + i < n + h; omega
  feas := fun i hi => by
    show 0 ≤ t0F h n A b i (n + h)
    rw [t0_lt hi]
    unfold colF
    rw [if_neg (by omega), if_neg (by omega)]
    exact sgA_b b i
/-- the first part always ends with no cost below 0 -/
theorem phase1_end {s : St} (P : PInv h n (n + h) (colF h n A b) (c1F h n) s) (e : nextS h n (n + h) s = none) : ∀ j, j < n → 0 ≤ s.t h j := by
  unfold nextS at e
  cases e1 : enterF (s.t h) n with
  | none => exact enterF_ok.2 e1
  | some col =>
    rw [e1] at e
    simp only at e
    cases e2 : leaveF s.t s.L col (n + h) h with
    | some r => rw [e2] at e; cases e
    | none =>
      obtain ⟨h1, h2, h3⟩ := enterF_ok.1 col e1
      have lv := (leaveF_ok h).1 e2
      obtain ⟨ep, T⟩ := P.T
      have z := T.z col (by omega)
      have c0 : c1F h n col = 0 := by unfold c1F; rw [if_pos h1]
      have nn : (sumN h fun i => c1F h n (s.L i) * s.t i col) ≤ 0 := by
        have : 0 ≤ sumN h fun i => - (c1F h n (s.L i) * s.t i col) := sumN_nonneg fun k hk => by
          have a1 := lv k hk
          have a2 : 0 ≤ c1F h n (s.L k) := by unfold c1F; split; omega; split <;> omega
          have := Int.mul_nonpos_of_nonneg_of_nonpos a2 a1
          omega
        rw [sumN_neg] at this
        omega
      rw [c0] at z
      have : s.t h col = 0 - (sumN h fun i => c1F h n (s.L i) * s.t i col) := by rw [z]; simp
      omega
/-- some columns and the right side, weighed -/
theorem obj_of {s : St} {c : Nat → Int} {ep : Int} (T : TI h (n + h + 1) (colF h n A b) c (fun i => colF h n A b (s.L i)) (fun i => c (s.L i)) ep s.d s.t) (y : Nat → Int) (k : Int) (hc : c (n + h) = 0) (hy : ∀ i, i < h → (sumN n fun j => A i j * y j) = k * b i) :
    (sumN n fun j => s.t h j * y j) - k * s.t h (n + h) = s.d * sumN n fun j => c j * y j := by
  let x : Nat → Int := fun j => if j < n then y j else if j < n + h then 0 else - k
  have split : ∀ g : Nat → Int, (sumN (n + h + 1) fun j => g j * x j) = (sumN n fun j => g j * y j) - k * g (n + h) := fun g => by
    have e : ∀ m, m ≤ h → (sumN (n + m) fun j => g j * x j) = sumN n fun j => g j * y j := fun m => by
      induction m with
      | zero => exact fun _ => sumN_congr fun j hj => by show g j * (if j < n then y j else _) = _; rw [if_pos (by omega : j < n)]
      | succ m ih =>
        intro hm
        show (sumN (n + m) fun j => g j * x j) + g (n + m) * x (n + m) = _
        rw [ih (by omega)]
        show _ + g (n + m) * (if n + m < n then y (n + m) else if n + m < n + h then 0 else - k) = _
        rw [if_neg (by omega), if_pos (by omega)]
        omega
    show (sumN (n + h) fun j => g j * x j) + g (n + h) * x (n + h) = _
    rw [e h (Nat.le_refl h)]
    show _ + g (n + h) * (if n + h < n then y (n + h) else if n + h < n + h then 0 else - k) = _
    rw [if_neg (by omega), if_neg (by omega)]
    grind
  have o := T.obj (n := n + h + 1) x (Nat.le_refl _) (fun i hi => by
    rw [split fun j => colF h n A b j i]
    have e1 : (sumN n fun j => colF h n A b j i * y j) = sgA b i * (k * b i) := by
      rw [← hy i hi, ← sumN_mul]
      exact sumN_congr fun j hj => by unfold colF; rw [if_pos hj]; grind
    rw [e1]
    unfold colF
    rw [if_neg (by omega), if_neg (by omega)]
    grind)
  rw [split fun j => s.t h j, split c, hc] at o
  rw [o]
  simp
theorem phase1_none {s : St} (P : PInv h n (n + h) (colF h n A b) (c1F h n) s) (e : nextS h n (n + h) s = none) (z : s.t h (n + h) < 0) (y : Nat → Int) (k : Int) (hk : 0 < k) (y0 : ∀ j, j < n → 0 ≤ y j) (hy : ∀ i, i < h → (sumN n fun j => A i j * y j) = k * b i) : False := by
  obtain ⟨ep, T⟩ := P.T
  have o := obj_of T y k (by unfold c1F; rw [if_neg (by omega), if_neg (by omega)]) hy
  have e0 : (sumN n fun j => c1F h n j * y j) = 0 := sumN_zero fun j hj => by unfold c1F; rw [if_pos hj]; exact Int.zero_mul _
  rw [e0, Int.mul_zero] at o
  have p := phase1_end P e
  have q : 0 ≤ sumN n fun j => s.t h j * y j := sumN_nonneg fun j hj => Int.mul_nonneg (p j hj) (y0 j hj)
  have w : k * s.t h (n + h) < 0 := Int.mul_neg_of_pos_of_neg hk z
  omega
theorem phase1_help {s : St} (P : PInv h n (n + h) (colF h n A b) (c1F h n) s) (z : ¬ s.t h (n + h) < 0) : ∀ i, i < h → n ≤ s.L i → s.t i (n + h) = 0 := fun i hi hl => by
  obtain ⟨ep, T⟩ := P.T
  have e := T.z (n + h) (by omega)
  have c0 : c1F h n (n + h) = 0 := by unfold c1F; rw [if_neg (by omega), if_neg (by omega)]
  rw [c0, Int.mul_zero] at e
  have pos : ∀ k, k < h → 0 ≤ c1F h n (s.L k) * s.t k (n + h) := fun k hk => Int.mul_nonneg (by unfold c1F; split; omega; split <;> omega) (P.feas k hk)
  rw [sumN_take _ hi] at e
  have r : 0 ≤ sumN h fun k => if k = i then 0 else c1F h n (s.L k) * s.t k (n + h) := sumN_nonneg fun k hk => by split; omega; exact pos k hk
  have ci : c1F h n (s.L i) = 1 := by have := P.Ll i hi; unfold c1F; rw [if_neg (by omega), if_pos this]
  rw [ci] at e
  have := P.feas i hi
  omega
/-! helpers put out -/
/-- what helpers still lead is 0 -/
def HZ (h n l : Nat) (s : St) : Prop := ∀ i, i < h → n ≤ s.L i → s.t i l = 0
def HN (n p : Nat) (s : St) : Prop := ∀ i, i < p → n ≤ s.L i → ∀ j, j < n → s.t i j = 0
def nzF (n : Nat) (z : Nat → Int) : List Nat := (List.range n).filter fun j => decide (z j ≠ 0)
def hoF (n p : Nat) (s : St) : St := if n ≤ s.L p then
    match nzF n (s.t p) with
    | [] => s
    | col :: _ => piv ⟨if s.t p col < 0 then negT p s.t else s.t, s.L, s.d⟩ p col
  else s
def hoN (n : Nat) (s : St) : Nat → St
  | 0 => s
  | p + 1 => hoF n p (hoN n s p)
theorem nz_nil {n : Nat} {z : Nat → Int} (e : nzF n z = []) : ∀ j, j < n → z j = 0 := fun j hj => by
  refine Classical.byContradiction fun q => ?_
  have : j ∈ nzF n z := List.mem_filter.mpr ⟨List.mem_range.mpr hj, decide_eq_true q⟩
  rw [e] at this
  cases this
theorem nz_cons {n : Nat} {z : Nat → Int} {col : Nat} {r : List Nat} (e : nzF n z = col :: r) : col < n ∧ z col ≠ 0 := by
  have : col ∈ nzF n z := by rw [e]; exact List.mem_cons_self
  obtain ⟨h1, h2⟩ := List.mem_filter.mp this
  exact ⟨List.mem_range.mp h1, of_decide_eq_true h2⟩
theorem putI_putI (i : Nat) (u v : Int) (b : Nat → Int) : putI i u (putI i v b) = putI i u b := by
  funext j; unfold putI; split <;> rfl
theorem hoF_ok {l p : Nat} {a : Nat → Vec} {c : Nat → Int} {s : St} (P : PInv h n l a c s) (Z : HZ h n l s) (N : HN n p s) (hp : p < h) : PInv h n l a c (hoF n p s) ∧ HZ h n l (hoF n p s) ∧ HN n (p + 1) (hoF n p s) := by
  unfold hoF
  by_cases q : n ≤ s.L p
  · rw [if_pos q]
    cases e : nzF n (s.t p) with
    | nil =>
      refine ⟨P, Z, fun i hi hl j hj => ?_⟩
      by_cases w : i = p
      · subst w; exact nz_nil e j hj
      · exact N i (by omega) hl j hj
    | cons col r =>
      obtain ⟨hc, nz⟩ := nz_cons e
      have nl := P.nl
      obtain ⟨ep, T⟩ := P.T
      have zp := Z p hp q
      -- the table with the row's sign made right
      have key : ∃ ep' bb cc, TI h (l + 1) a c bb cc ep' s.d (if s.t p col < 0 then negT p s.t else s.t) ∧ put p (a col) bb = (fun i => a (if i = p then col else s.L i)) ∧ putI p (c col) cc = (fun i => c (if i = p then col else s.L i)) := by
        by_cases w : s.t p col < 0
        · rw [if_pos w]
          refine ⟨_, _, _, T.neg hp, ?_, ?_⟩
          · rw [put_put, put_comp]
          · rw [putI_putI, putI_comp]
        · rw [if_neg w]
          exact ⟨_, _, _, T, put_comp _ _ _ _, putI_comp _ _ _ _⟩
      have tp : 0 < (if s.t p col < 0 then negT p s.t else s.t) p col := by
        by_cases w : s.t p col < 0
        · rw [if_pos w]; unfold negT; rw [if_pos rfl]; omega
        · rw [if_neg w]; omega
      have to : ∀ i j, i ≠ p → (if s.t p col < 0 then negT p s.t else s.t) i j = s.t i j := fun i j hn => by
        split
        · unfold negT; rw [if_neg hn]
        · rfl
      have tl : (if s.t p col < 0 then negT p s.t else s.t) p l = 0 := by
        split
        · unfold negT; rw [if_pos rfl, zp]; rfl
        · exact zp
      show PInv h n l a c (piv ⟨if s.t p col < 0 then negT p s.t else s.t, s.L, s.d⟩ p col) ∧ HZ h n l (piv ⟨if s.t p col < 0 then negT p s.t else s.t, s.L, s.d⟩ p col) ∧ HN n (p + 1) (piv ⟨if s.t p col < 0 then negT p s.t else s.t, s.L, s.d⟩ p col)
      generalize (if s.t p col < 0 then negT p s.t else s.t) = tt at key tp to tl
      obtain ⟨ep', bb, cc, T', e1, e2⟩ := key
      have S := T'.step hp (by omega : col < l + 1) tp
      rw [e1, e2] at S
      have dp := T'.dpos
      have zero : ∀ i j, i < h → j < l + 1 → i ≠ p → tt i j * tt p col = 0 → tt i col * tt p j = 0 → stepT s.d p col tt i j = 0 := fun i j hi hj hn x1 x2 => by
        unfold stepT
        rw [if_neg hn, x1, x2]
        simp
      refine ⟨⟨nl, ⟨ep', S⟩, fun i hi => ?_, fun i hi => ?_⟩, fun i hi hl => ?_, fun i hi hl j hj => ?_⟩
      · show (if i = p then col else s.L i) < l
        split
        · omega
        · exact P.Ll i hi
      · show 0 ≤ stepT s.d p col tt i l
        by_cases w : i = p
        · unfold stepT; rw [if_pos w, tl]; exact Int.le_refl _
        · have m := T'.mul_step hp (by omega : col < l + 1) (by omega : i ≤ h) (by omega : l < l + 1) w
          rw [tl, to i l w, Int.mul_zero, Int.sub_zero] at m
          have : 0 ≤ s.d * stepT s.d p col tt i l := by
            rw [m]; exact Int.mul_nonneg (P.feas i hi) (by omega)
          refine Classical.byContradiction fun z => ?_
          have : s.d * stepT s.d p col tt i l < 0 := Int.mul_neg_of_pos_of_neg dp (by omega)
          omega
      · have hl' : n ≤ if i = p then col else s.L i := hl
        by_cases w : i = p
        · rw [if_pos w] at hl'; omega
        · rw [if_neg w] at hl'
          exact zero i l hi (by omega) w (by rw [to i l w, Z i hi hl', Int.zero_mul]) (by rw [tl, Int.mul_zero])
      · have hl' : n ≤ if i = p then col else s.L i := hl
        by_cases w : i = p
        · rw [if_pos w] at hl'; omega
        · rw [if_neg w] at hl'
          have z1 := N i (by omega) hl' j hj
          have z2 := N i (by omega) hl' col hc
          exact zero i j (by omega) (by omega) w (by rw [to i j w, z1, Int.zero_mul]) (by rw [to i col w, z2, Int.zero_mul])
  · rw [if_neg q]
    refine ⟨P, Z, fun i hi hl j hj => ?_⟩
    by_cases w : i = p
    · subst w; exact absurd hl q
    · exact N i (by omega) hl j hj
theorem hoN_ok {l : Nat} {a : Nat → Vec} {c : Nat → Int} {s : St} (P : PInv h n l a c s) (Z : HZ h n l s) : ∀ p, p ≤ h → PInv h n l a c (hoN n s p) ∧ HZ h n l (hoN n s p) ∧ HN n p (hoN n s p)
  | 0, _ => ⟨P, Z, fun i hi => absurd hi (Nat.not_lt_zero i)⟩
  | p + 1, hp => let ⟨h1, h2, h3⟩ := hoN_ok P Z p (by omega); hoF_ok h1 h2 h3 (by omega)
/-! the second part -/
def cstT (h : Nat) (c : Nat → Int) (s : St) : St := ⟨fun i j => if i = h then s.d * c j - sumN h (fun k => c (s.L k) * s.t k j) else s.t i j, s.L, s.d⟩
theorem cst_inv {l : Nat} {a : Nat → Vec} {c c' : Nat → Int} {s : St} (P : PInv h n l a c' s) : PInv h n l a c (cstT h c s) := by
  obtain ⟨ep, T⟩ := P.T
  have lt : ∀ i j, i < h → (cstT h c s).t i j = s.t i j := fun i j hi => by show (if i = h then _ else _) = _; rw [if_neg (by omega)]
  refine ⟨P.nl, ⟨ep, T.eps, T.dpos, T.dD, fun i hi j hj => ?_, fun j hj x hx => ?_, fun j hj => ?_⟩, P.Ll, fun i hi => ?_⟩
  · rw [lt i j hi]; exact T.tD i hi j hj
  · show s.d * a j x = _
    rw [T.rel j hj x hx]
    exact sumN_congr fun k hk => by rw [lt k j hk]; rfl
  · show (if h = h then s.d * c j - sumN h (fun k => c (s.L k) * s.t k j) else s.t h j) = s.d * c j - _
    rw [if_pos rfl]
    congr 1
    exact sumN_congr fun k hk => by rw [lt k j hk]; rfl
  · rw [lt i l hi]; exact P.feas i hi
/-- helpers that still lead are 0 throughout -/
theorem next_HH {l : Nat} {a : Nat → Vec} {c : Nat → Int} {s s' : St} (P : PInv h n l a c s) (Z : HZ h n l s) (N : HN n h s) (e : nextS h n l s = some s') : HZ h n l s' ∧ HN n h s' := by
  obtain ⟨r, col, rfl, e1, e2⟩ := nextS_some e
  obtain ⟨h1, h2, h3⟩ := enterF_ok.1 col e1
  obtain ⟨g1, g2, g3⟩ := (leaveF_ok h).2 r e2
  have old : ∀ i, i < h → n ≤ (piv s r col).L i → i ≠ r ∧ n ≤ s.L i := fun i hi hl => by
    have hl' : n ≤ if i = r then col else s.L i := hl
    by_cases w : i = r
    · rw [if_pos w] at hl'; omega
    · rw [if_neg w] at hl'; exact ⟨w, hl'⟩
  refine ⟨fun i hi hl => ?_, fun i hi hl j hj => ?_⟩
  · obtain ⟨w, q⟩ := old i hi hl
    show stepT s.d r col s.t i l = 0
    unfold stepT
    rw [if_neg w, Z i hi q, N i hi q col h1]
    simp
  · obtain ⟨w, q⟩ := old i hi hl
    show stepT s.d r col s.t i j = 0
    unfold stepT
    rw [if_neg w, N i hi q j hj, N i hi q col h1]
    simp
theorem inj_of {l : Nat} {a : Nat → Vec} {c : Nat → Int} {s : St} (P : PInv h n l a c s) {i k : Nat} (hi : i < h) (hk : k < h) (e : s.L i = s.L k) : i = k := by
  refine Classical.byContradiction fun ne => ?_
  obtain ⟨ep, T⟩ := P.T
  have b1 := T.basic hi hk (j := s.L i) (by have := P.Ll i hi; omega) rfl
  have b2 := T.basic hk hk (j := s.L k) (by have := P.Ll k hk; omega) rfl
  rw [if_neg (fun z => ne z.symm)] at b1
  rw [if_pos rfl, ← e, b1] at b2
  have := T.dpos
  omega
/-- the numbers that a table tells, by one of its columns -/
def valF (h : Nat) (s : St) (f : Nat → Int) (j : Nat) : Int := sumN h fun i => if s.L i = j then f i else 0
theorem valF_at {l : Nat} {a : Nat → Vec} {c : Nat → Int} {s : St} (P : PInv h n l a c s) (f : Nat → Int) {i : Nat} (hi : i < h) : valF h s f (s.L i) = f i := by
  unfold valF
  rw [sumN_one hi fun k hk hn => if_neg fun z => hn (inj_of P hk hi z), if_pos rfl]
theorem valF_no {s : St} (f : Nat → Int) {j : Nat} (q : ∀ i, i < h → s.L i ≠ j) : valF h s f j = 0 := sumN_zero fun i hi => if_neg (q i hi)
theorem valF_nn {s : St} {f : Nat → Int} (q : ∀ i, i < h → 0 ≤ f i) (j : Nat) : 0 ≤ valF h s f j := sumN_nonneg fun i hi => by split; exact q i hi; exact Int.le_refl _
theorem valF_sum {s : St} (f g : Nat → Int) (hf : ∀ i, i < h → n ≤ s.L i → f i = 0) : (sumN n fun j => g j * valF h s f j) = sumN h fun i => g (s.L i) * f i := by
  have e : (sumN n fun j => g j * valF h s f j) = sumN n fun j => sumN h fun i => g j * (if s.L i = j then f i else 0) := sumN_congr fun j _ => by unfold valF; rw [sumN_mul]
  rw [e, sumN_swap]
  refine sumN_congr fun i hi => ?_
  by_cases q : n ≤ s.L i
  · rw [hf i hi q, Int.mul_zero]
    exact sumN_zero fun j hj => by split <;> exact Int.mul_zero _
  · rw [sumN_one (i := s.L i) (by omega) fun k _ hn => by rw [if_neg (fun z => hn z.symm)]; exact Int.mul_zero _, if_pos rfl]
theorem col_A {i j : Nat} (hj : j < n) : A i j = sgA b i * colF h n A b j i := by
  unfold colF
  rw [if_pos hj]
  have := sgA_sq b i
  grind
/-- what the values keep -/
theorem val_keeps {s : St} {c : Nat → Int} (P : PInv h n (n + h) (colF h n A b) c s) (Z : HZ h n (n + h) s) {i : Nat} (hi : i < h) : (sumN n fun j => A i j * valF h s (fun k => s.t k (n + h)) j) = s.d * b i := by
  obtain ⟨ep, T⟩ := P.T
  rw [valF_sum (fun k => s.t k (n + h)) (fun j => A i j) Z]
  have r := T.rel (n + h) (by omega) i hi
  have e1 : colF h n A b (n + h) i = sgA b i * b i := by unfold colF; rw [if_neg (by omega), if_neg (by omega)]
  rw [e1] at r
  have e2 : (sumN h fun k => A i (s.L k) * s.t k (n + h)) = sgA b i * sumN h fun k => s.t k (n + h) * colF h n A b (s.L k) i := by
    rw [← sumN_mul]
    refine sumN_congr fun k hk => ?_
    by_cases q : n ≤ s.L k
    · rw [Z k hk q]; simp
    · rw [col_A (A := A) (i := i) (h := h) (b := b) (by omega : s.L k < n)]; grind
  rw [e2, ← r]
  have := sgA_sq b i
  grind
/-- the end: least -/
theorem val_least {s : St} {c : Nat → Int} (P : PInv h n (n + h) (colF h n A b) c s) (Z : HZ h n (n + h) s) (hc : c (n + h) = 0) (en : ∀ j, j < n → 0 ≤ s.t h j) (y : Nat → Int) (k : Int) (y0 : ∀ j, j < n → 0 ≤ y j) (hy : ∀ i, i < h → (sumN n fun j => A i j * y j) = k * b i) :
    k * (sumN n fun j => c j * valF h s (fun k => s.t k (n + h)) j) ≤ s.d * sumN n fun j => c j * y j := by
  obtain ⟨ep, T⟩ := P.T
  have o := obj_of T y k hc hy
  have z := T.z (n + h) (by omega)
  rw [hc, Int.mul_zero] at z
  rw [valF_sum (fun k => s.t k (n + h)) c Z]
  have q : 0 ≤ sumN n fun j => s.t h j * y j := sumN_nonneg fun j hj => Int.mul_nonneg (en j hj) (y0 j hj)
  rw [z] at o
  have : k * (0 - sumN h fun i => c (s.L i) * s.t i (n + h)) = - (k * sumN h fun i => c (s.L i) * s.t i (n + h)) := by grind
  rw [this] at o
  omega
/-- the end: a ray -/
theorem val_ray {s : St} {c : Nat → Int} {col : Nat} (P : PInv h n (n + h) (colF h n A b) c s) (N : HN n h s) (hc : col < n) (z : s.t h col < 0) (lv : ∀ i, i < h → s.t i col ≤ 0) :
    ∃ y : Nat → Int, (∀ j, j < n → 0 ≤ y j) ∧ (∀ i, i < h → (sumN n fun j => A i j * y j) = 0) ∧ (sumN n fun j => c j * y j) < 0 := by
  obtain ⟨ep, T⟩ := P.T
  have dp := T.dpos
  have Nz : ∀ i, i < h → n ≤ s.L i → (fun k => - s.t k col) i = 0 := fun i hi q => by show - s.t i col = 0; rw [N i hi q col hc]; rfl
  have sp : ∀ g : Nat → Int, (sumN n fun j => g j * (valF h s (fun k => - s.t k col) j + if j = col then s.d else 0)) = g col * s.d - sumN h fun i => g (s.L i) * s.t i col := fun g => by
    have e : (sumN n fun j => g j * (valF h s (fun k => - s.t k col) j + if j = col then s.d else 0)) = (sumN n fun j => g j * valF h s (fun k => - s.t k col) j) + sumN n fun j => g j * (if j = col then s.d else 0) := by
      rw [← sumN_add]; exact sumN_congr fun j _ => Int.mul_add _ _ _
    rw [e, valF_sum _ g Nz, sumN_one (i := col) hc fun k _ hn => by rw [if_neg hn]; exact Int.mul_zero _, if_pos rfl]
    have : (sumN h fun i => g (s.L i) * - s.t i col) = - sumN h fun i => g (s.L i) * s.t i col := by
      rw [← sumN_neg]; exact sumN_congr fun i _ => Int.mul_neg _ _
    rw [this]
    omega
  refine ⟨fun j => valF h s (fun k => - s.t k col) j + if j = col then s.d else 0, fun j _ => ?_, fun i hi => ?_, ?_⟩
  · have := valF_nn (h := h) (s := s) (f := fun k => - s.t k col) (fun i hi => by have := lv i hi; show 0 ≤ - s.t i col; omega) j
    show 0 ≤ valF h s (fun k => - s.t k col) j + if j = col then s.d else 0
    split <;> omega
  · show (sumN n fun j => A i j * (valF h s (fun k => - s.t k col) j + if j = col then s.d else 0)) = 0
    rw [sp fun j => A i j]
    have r := T.rel col (by omega) i hi
    have e2 : (sumN h fun k => A i (s.L k) * s.t k col) = sgA b i * sumN h fun k => s.t k col * colF h n A b (s.L k) i := by
      rw [← sumN_mul]
      refine sumN_congr fun k hk => ?_
      by_cases q : n ≤ s.L k
      · rw [N k hk q col hc]; simp
      · rw [col_A (A := A) (i := i) (h := h) (b := b) (by omega : s.L k < n)]; grind
    rw [e2, ← r, col_A (A := A) (i := i) (h := h) (b := b) hc]
    grind
  · show (sumN n fun j => c j * (valF h s (fun k => - s.t k col) j + if j = col then s.d else 0)) < 0
    rw [sp c]
    have := T.z col (by omega)
    rw [this, Int.mul_comm] at z
    exact z
/-- two columns that are each other's opposite do not both lead -/
theorem val_opp {s : St} {c : Nat → Int} (P : PInv h n (n + h) (colF h n A b) c s) {j j' : Nat} (hj : j < n) (hj' : j' < n) (ne : j ≠ j') (op : ∀ i, i < h → A i j' = - A i j) (f : Nat → Int) : valF h s f j = 0 ∨ valF h s f j' = 0 := by
  by_cases q : ∃ i, i < h ∧ s.L i = j
  · by_cases q' : ∃ i, i < h ∧ s.L i = j'
    · obtain ⟨i, hi, e⟩ := q
      obtain ⟨i', hi', e'⟩ := q'
      exfalso
      obtain ⟨ep, T⟩ := P.T
      have b1 := T.basic hi hi (j := j) (by omega) (by rw [e])
      rw [if_pos rfl] at b1
      have ni : i ≠ i' := fun z => ne (by rw [← e, ← e', z])
      have b2 := T.basic hi' hi (j := j') (by omega) (by rw [e'])
      rw [if_neg ni] at b2
      have t1 := T.tD i hi j (by omega)
      have t2 := T.tD i hi j' (by omega)
      have : D h (put i (colF h n A b j') fun k => colF h n A b (s.L k)) = -1 * D h (put i (colF h n A b j) fun k => colF h n A b (s.L k)) := by
        rw [← D_scale (-1) hi]
        refine D_congr fun k hk x hx => ?_
        unfold put
        split
        · unfold colF
          show (if j' < n then sgA b x * A x j' else _) = -1 * (if j < n then sgA b x * A x j else _)
          rw [if_pos hj', if_pos hj, op x hx]
          grind
        · rfl
      rw [this, b2] at t2
      rw [b1] at t1
      have := T.dpos
      have : s.d = 0 := by rw [t1]; grind
      omega
    · exact .inr (valF_no f fun i hi z => q' ⟨i, hi, z⟩)
  · exact .inl (valF_no f fun i hi z => q ⟨i, hi, z⟩)
end
end SV
namespace SV
/-! sizes of what the descent meets -/
structure Szd (h l : Nat) (a : Nat → Vec) (c : Nat → Int) (k : Nat) : Prop where
  ex : ∃ M C, 1 ≤ M ∧ (∀ j, j ≤ l → ∀ x, x < h → (a j x).natAbs ≤ M) ∧ (∀ j, j ≤ l → (c j).natAbs ≤ C) ∧ fact h * M ^ h < 2 ^ k ∧ h * (M * (fact h * M ^ h)) < 2 ^ k ∧ fact h * M ^ h * C + h * (C * (h * (M * (fact h * M ^ h)))) < 2 ^ k
section
variable {h n l k : Nat} {a : Nat → Vec} {c : Nat → Int} {s s' : St}
theorem Szd.bd (Z : Szd h l a c k) (P : PInv h n l a c s) : 0 < s.d ∧ s.d.natAbs < 2 ^ k ∧ ∀ i, i ≤ h → ∀ j, j ≤ l → (s.t i j).natAbs < 2 ^ k := by
  obtain ⟨M, C, hM, ha, hc, b1, b2, b3⟩ := Z.ex
  obtain ⟨ep, T⟩ := P.T
  have q := T.bnd (M := M) (Mv := M) hM (fun i hi x hx => ha _ (by have := P.Ll i hi; omega) x hx) (fun j hj x hx => ha j (by omega) x hx)
  have z := T.bndz q.1 (W := h * (M * (fact h * M ^ h))) q.2 (C := C) (fun j hj => hc j (by omega)) (fun i hi => hc _ (by have := P.Ll i hi; omega))
  refine ⟨T.dpos, Nat.lt_of_le_of_lt q.1 b1, fun i hi j hj => ?_⟩
  by_cases e : i = h
  · subst e; exact Nat.lt_of_le_of_lt (z j (by omega)) b3
  · exact Nat.lt_of_le_of_lt (q.2 i (by omega) j (by omega)) b2
/-- what the descent reaches -/
inductive Rch (h n l : Nat) : St → St → Prop where
  | refl (s : St) : Rch h n l s s
  | step {s s1 s2 : St} (e : nextS h n l s = some s1) (r : Rch h n l s1 s2) : Rch h n l s s2
theorem Rch.inv (r : Rch h n l s s') : PInv h n l a c s → PInv h n l a c s' := by
  induction r with
  | refl s => exact fun P => P
  | step e _ ih => exact fun P => ih (P.next e)
theorem Rch.hh (r : Rch h n l s s') : PInv h n l a c s → HZ h n l s → HN n h s → HZ h n l s' ∧ HN n h s' := by
  induction r with
  | refl s => exact fun _ z w => ⟨z, w⟩
  | step e _ ih =>
    intro P z w
    obtain ⟨z1, w1⟩ := next_HH P z w e
    exact ih (P.next e) z1 w1
theorem Rch.snoc {s s1 s2 : St} (r : Rch h n l s s1) (e : nextS h n l s1 = some s2) : Rch h n l s s2 := by
  induction r with
  | refl s => exact .step e (.refl _)
  | step e1 _ ih => exact .step e1 (ih e)
/-- the values as they are stored, row by row -/
def valP (s : St) (f : Nat → Int) (p j : Nat) : Int := sumN p fun i => if s.L i = j then f i else 0
theorem valP_step (P : PInv h n l a c s) (f : Nat → Int) {p : Nat} (hp : p < h) (j : Nat) : valP s f (p + 1) j = if j = s.L p then f p else valP s f p j := by
  unfold valP
  simp only [sumN]
  by_cases q : j = s.L p
  · rw [if_pos q, if_pos q.symm, sumN_zero fun i hi => if_neg fun z => ?_]
    · omega
    · have := inj_of P (by omega : i < h) hp (by rw [z, q])
      omega
  · rw [if_neg q, if_neg (Ne.symm q)]
    omega
theorem valF_abs (P : PInv h n l a c s) {f : Nat → Int} {B : Nat} (hB : 0 < B) (hf : ∀ i, i < h → (f i).natAbs < B) (j : Nat) : (valF h s f j).natAbs < B := by
  by_cases q : ∃ i, i < h ∧ s.L i = j
  · obtain ⟨i, hi, rfl⟩ := q
    rw [valF_at P f hi]
    exact hf i hi
  · rw [valF_no f fun i hi z => q ⟨i, hi, z⟩]
    exact hB
end
end SV
namespace SV
/-! fractions in lowest terms -/
theorem rat_dv (q : Rat) : q = (q.num : Rat) / ((q.den : Int) : Rat) := by
  have := Rat.mkRat_self q
  rw [Rat.mkRat_eq_div] at this
  rw [Rat.intCast_natCast]
  exact this.symm
theorem den_ne (q : Rat) : ((q.den : Int) : Rat) ≠ 0 := by
  have := q.den_nz
  intro h
  rw [Rat.intCast_natCast] at h
  exact this (by exact_mod_cast h)
theorem icast_ne {i : Int} (h : i ≠ 0) : (i : Rat) ≠ 0 := fun z => h (by exact_mod_cast z)
theorem dv_sub (a b : Rat) : Rat.divInt (a.num * b.den - b.num * a.den) (a.den * b.den) = a - b := by
  have h1 := den_ne a
  have h2 := den_ne b
  have e1 := rat_dv a
  have e2 := rat_dv b
  rw [Rat.divInt_eq_div, Rat.intCast_sub, Rat.intCast_mul, Rat.intCast_mul, Rat.intCast_mul]
  grind
theorem dv_add (a b : Rat) : Rat.divInt (a.num * b.den + b.num * a.den) (a.den * b.den) = a + b := by
  have h1 := den_ne a
  have h2 := den_ne b
  have e1 := rat_dv a
  have e2 := rat_dv b
  rw [Rat.divInt_eq_div, Rat.intCast_add, Rat.intCast_mul, Rat.intCast_mul, Rat.intCast_mul]
  grind
theorem dv_mul (a b : Rat) : Rat.divInt (a.num * b.num) (a.den * b.den) = a * b := by
  have h1 := den_ne a
  have h2 := den_ne b
  have e1 := rat_dv a
  have e2 := rat_dv b
  rw [Rat.divInt_eq_div, Rat.intCast_mul, Rat.intCast_mul]
  grind
/-- sizes in bits -/
def Sz (k : Nat) (q : Rat) : Prop := q.num.natAbs < 2 ^ k ∧ q.den < 2 ^ k
theorem Sz.mono {j k : Nat} {q : Rat} (h : Sz j q) (l : j ≤ k) : Sz k q := ⟨Nat.lt_of_lt_of_le h.1 (Nat.pow_le_pow_right (by decide) l), Nat.lt_of_lt_of_le h.2 (Nat.pow_le_pow_right (by decide) l)⟩
/-- a common denominator and a bound -/
def Bq (N M : Nat) (q : Rat) : Prop := q.den ∣ N ∧ -(M : Rat) ≤ q ∧ q ≤ M
theorem den_dvd {q : Rat} {N : Nat} : q.den ∣ N ↔ ∃ z : Int, q * N = z := by
  constructor
  · rintro ⟨k, rfl⟩
    refine ⟨q.num * k, ?_⟩
    have h1 := den_ne q
    have e1 := rat_dv q
    rw [Rat.intCast_mul, Rat.intCast_natCast]
    rw [Rat.intCast_natCast] at h1 e1
    have : ((q.den * k : Nat) : Rat) = (q.den : Rat) * (k : Rat) := by exact_mod_cast rfl
    rw [this]
    grind
  · rintro ⟨z, h⟩
    have h1 := den_ne q
    have e1 := rat_dv q
    have e : (q.num * (N : Int) : Int) = z * (q.den : Int) := by
      have : ((q.num * (N : Int) : Int) : Rat) = ((z * (q.den : Int) : Int) : Rat) := by
        rw [Rat.intCast_mul, Rat.intCast_mul, ← h, Rat.intCast_natCast N]
        grind
      exact_mod_cast this
    have d : (q.den : Int) ∣ q.num * (N : Int) := ⟨z, by rw [e, Int.mul_comm]⟩
    have d2 : q.den ∣ q.num.natAbs * N := by
      have := Int.natAbs_dvd_natAbs.mpr d
      rw [Int.natAbs_mul, Int.natAbs_natCast, Int.natAbs_natCast] at this
      exact this
    exact (Nat.Coprime.symm q.reduced).dvd_of_dvd_mul_left d2
theorem Bq.add {N M M' : Nat} {a b : Rat} (h : Bq N M a) (k : Bq N M' b) : Bq N (M + M') (a + b) := by
  obtain ⟨z, hz⟩ := den_dvd.mp h.1
  obtain ⟨y, hy⟩ := den_dvd.mp k.1
  have e : ((M + M' : Nat) : Rat) = (M : Rat) + (M' : Rat) := by exact_mod_cast rfl
  obtain ⟨_, h1, h2⟩ := h
  obtain ⟨_, k1, k2⟩ := k
  refine ⟨den_dvd.mpr ⟨z + y, ?_⟩, ?_, ?_⟩
  · rw [Rat.intCast_add, ← hz, ← hy]; grind
  · rw [e]; grind
  · rw [e]; grind
theorem Bq.neg {N M : Nat} {a : Rat} (h : Bq N M a) : Bq N M (-a) := by
  obtain ⟨h0, h1, h2⟩ := h
  exact ⟨by rw [Rat.neg_den]; exact h0, by grind, by grind⟩
theorem Bq.sub {N M M' : Nat} {a b : Rat} (h : Bq N M a) (k : Bq N M' b) : Bq N (M + M') (a - b) := by
  rw [Rat.sub_eq_add_neg]
  exact h.add k.neg
theorem Bq.mono {N M N' M' : Nat} {a : Rat} (h : Bq N M a) (d : N ∣ N') (l : M ≤ M') : Bq N' M' a := by
  obtain ⟨h0, h1, h2⟩ := h
  have e : (M : Rat) ≤ (M' : Rat) := by exact_mod_cast l
  exact ⟨Nat.dvd_trans h0 d, by grind, by grind⟩
theorem Bq.mul {N M N' M' : Nat} {a b : Rat} (h : Bq N M a) (k : Bq N' M' b) : Bq (N * N') (M * M') (a * b) := by
  obtain ⟨z, hz⟩ := den_dvd.mp h.1
  obtain ⟨y, hy⟩ := den_dvd.mp k.1
  have e : ((M * M' : Nat) : Rat) = (M : Rat) * (M' : Rat) := by exact_mod_cast rfl
  have e2 : ((N * N' : Nat) : Rat) = (N : Rat) * (N' : Rat) := by exact_mod_cast rfl
  obtain ⟨_, h1, h2⟩ := h
  obtain ⟨_, k1, k2⟩ := k
  have p1 : 0 ≤ ((M : Rat) - a) * ((M' : Rat) - b) := Rat.mul_nonneg (by grind) (by grind)
  have p2 : 0 ≤ ((M : Rat) + a) * ((M' : Rat) + b) := Rat.mul_nonneg (by grind) (by grind)
  have p3 : 0 ≤ ((M : Rat) - a) * ((M' : Rat) + b) := Rat.mul_nonneg (by grind) (by grind)
  have p4 : 0 ≤ ((M : Rat) + a) * ((M' : Rat) - b) := Rat.mul_nonneg (by grind) (by grind)
  refine ⟨den_dvd.mpr ⟨z * y, ?_⟩, ?_, ?_⟩
  · rw [Rat.intCast_mul, ← hz, ← hy, e2]; grind
  · rw [e]; grind
  · rw [e]; grind
theorem Bq.sz {N M k : Nat} {a : Rat} (h : Bq N M a) (hN : 0 < N) (h1 : N < 2 ^ k) (h2 : M * N < 2 ^ k) : Sz k a := by
  obtain ⟨h0, h3, h4⟩ := h
  have hd := Nat.le_of_dvd hN h0
  refine ⟨?_, Nat.lt_of_le_of_lt hd h1⟩
  have dp := a.den_pos
  have e := rat_dv a
  have ne := den_ne a
  have en : (a.num : Rat) = a * ((a.den : Int) : Rat) := by grind
  have dpos : (0 : Rat) ≤ ((a.den : Int) : Rat) := by exact_mod_cast Nat.zero_le _
  have u1 : a * ((a.den : Int) : Rat) ≤ (M : Rat) * ((a.den : Int) : Rat) := Rat.mul_le_mul_of_nonneg_right h4 dpos
  have u2 : -(M : Rat) * ((a.den : Int) : Rat) ≤ a * ((a.den : Int) : Rat) := Rat.mul_le_mul_of_nonneg_right h3 dpos
  rw [← en] at u1 u2
  have w1 : a.num ≤ (M : Int) * (a.den : Int) := by
    have : (a.num : Rat) ≤ (((M : Int) * (a.den : Int) : Int) : Rat) := by rw [Rat.intCast_mul, Rat.intCast_natCast M]; exact u1
    exact_mod_cast this
  have w2 : -((M : Int) * (a.den : Int)) ≤ a.num := by
    have : ((-((M : Int) * (a.den : Int)) : Int) : Rat) ≤ (a.num : Rat) := by rw [Rat.intCast_neg, Rat.intCast_mul, Rat.intCast_natCast M]; grind
    exact_mod_cast this
  have w3 : (M : Int) * (a.den : Int) ≤ (M : Int) * (N : Int) := Int.mul_le_mul_of_nonneg_left (by exact_mod_cast hd) (by omega)
  have w4 : ((M * N : Nat) : Int) = (M : Int) * (N : Int) := by exact_mod_cast rfl
  omega
theorem Sz.of_dv {k : Nat} {n d : Int} (hd : d ≠ 0) (h1 : n.natAbs < 2 ^ k) (h2 : d.natAbs < 2 ^ k) : Sz k (Rat.divInt n d) := by
  constructor
  · rw [Rat.num_divInt]
    refine Nat.lt_of_le_of_lt ?_ h1
    have : (d.sign * n / (d.gcd n : Int)).natAbs ≤ (d.sign * n).natAbs := by
      rcases Int.natAbs_ediv_le_natAbs (d.sign * n) (d.gcd n : Int) with h
      exact h
    refine Nat.le_trans this ?_
    rw [Int.natAbs_mul, Int.natAbs_sign, if_neg hd]
    omega
  · rw [Rat.den_divInt, if_neg hd]
    exact Nat.lt_of_le_of_lt (Nat.div_le_self _ _) h2
end SV
namespace SV
def gcdL (ns : List Int) : Nat := ns.foldl (fun g n => Nat.gcd g n.natAbs) 0
theorem gcdL_take {ns : List Int} {i : Nat} {n : Int} (h : ns[i]? = some n) : gcdL (ns.take (i + 1)) = Nat.gcd (gcdL (ns.take i)) n.natAbs := by
  unfold gcdL
  rw [List.take_add_one, h, List.foldl_append]
  rfl
theorem gcdL_two (n d : Int) : gcdL ([n] ++ [d]) = Int.gcd d n := by
  unfold gcdL
  show Nat.gcd (Nat.gcd 0 n.natAbs) d.natAbs = _
  rw [Nat.gcd_zero_left, Nat.gcd_comm]
  rfl
theorem gcdL_sg {s n d : Int} (hs : s = 1 ∨ s = -1) : gcdL ([s * n] ++ [s * d]) = Int.gcd d n := by
  rw [gcdL_two]
  rcases hs with rfl | rfl
  · rw [Int.one_mul, Int.one_mul]
  · rw [Int.neg_one_mul, Int.neg_one_mul, Int.gcd_neg, Int.neg_gcd]
theorem gcd_pos' {n d : Int} (hd : d ≠ 0) : 0 < Int.gcd d n := Int.gcd_pos_of_ne_zero_left _ hd
theorem gcd_lt {n d : Int} {k : Nat} (hd : d ≠ 0) (h : d.natAbs < 2 ^ k) : Int.gcd d n < 2 ^ k :=
  Nat.lt_of_le_of_lt (Nat.le_of_dvd (Int.natAbs_pos.mpr hd) (Nat.gcd_dvd_left _ _)) h
theorem dv_num {s n d : Int} (hs : s = 1 ∧ 0 < d ∨ s = -1 ∧ d < 0) : s * n / (Int.gcd d n : Int) = (Rat.divInt n d).num ∧ s * d / (Int.gcd d n : Int) = ((Rat.divInt n d).den : Int) := by
  rw [Rat.num_divInt, Rat.den_divInt]
  rcases hs with ⟨rfl, h⟩ | ⟨rfl, h⟩
  · rw [Int.sign_eq_one_of_pos h, if_neg (by omega)]
    refine ⟨rfl, ?_⟩
    rw [Int.one_mul, Int.natCast_ediv, show (d.natAbs : Int) = d by omega]
  · rw [Int.sign_eq_neg_one_of_neg h, if_neg (by omega)]
    refine ⟨rfl, ?_⟩
    rw [Int.natCast_ediv, show (d.natAbs : Int) = -1 * d by omega]
/-- the least common denominator -/
def lcmL (qs : List Rat) : Nat := qs.foldl (fun l q => Nat.lcm l q.den) 1
theorem lcmL_take {qs : List Rat} {i : Nat} {q : Rat} (h : qs[i]? = some q) : lcmL (qs.take (i + 1)) = Nat.lcm (lcmL (qs.take i)) q.den := by
  unfold lcmL
  rw [List.take_add_one, h, List.foldl_append]
  rfl
theorem foldl_lcm_dvd (f : Nat) : ∀ qs : List Rat, f ∣ qs.foldl (fun l q => Nat.lcm l q.den) f
  | [] => Nat.dvd_refl f
  | q :: qs => Nat.dvd_trans (Nat.dvd_lcm_left f q.den) (foldl_lcm_dvd (Nat.lcm f q.den) qs)
theorem foldl_lcm_pos : ∀ (qs : List Rat) {f : Nat}, 0 < f → 0 < qs.foldl (fun l q => Nat.lcm l q.den) f
  | [], f, h => h
  | q :: qs, f, h => foldl_lcm_pos qs (Nat.lcm_pos h q.den_pos)
theorem lcmL_pos (qs : List Rat) : 0 < lcmL qs := foldl_lcm_pos qs Nat.one_pos
theorem lcmL_take_dvd (qs : List Rat) (i : Nat) : lcmL (qs.take i) ∣ lcmL qs := by
  have e : lcmL qs = (qs.drop i).foldl (fun l q => Nat.lcm l q.den) (lcmL (qs.take i)) := by
    unfold lcmL
    rw [← List.foldl_append, List.take_append_drop]
  rw [e]
  exact foldl_lcm_dvd _ _
theorem lcmL_dvd {qs : List Rat} {q : Rat} (h : q ∈ qs) : q.den ∣ lcmL qs := by
  obtain ⟨i, hi⟩ := List.getElem?_of_mem h
  refine Nat.dvd_trans ?_ (lcmL_take_dvd qs (i + 1))
  rw [lcmL_take hi]
  exact Nat.dvd_lcm_right _ _
theorem lcmL_le {qs : List Rat} (i : Nat) : lcmL (qs.take i) ≤ lcmL qs := Nat.le_of_dvd (lcmL_pos qs) (lcmL_take_dvd qs i)
theorem foldl_lcm_least {N : Nat} : ∀ {qs : List Rat} {f : Nat}, f ∣ N → (∀ q, q ∈ qs → q.den ∣ N) → qs.foldl (fun l q => Nat.lcm l q.den) f ∣ N
  | [], _, h, _ => h
  | q :: qs, f, h, k => foldl_lcm_least (qs := qs) (f := Nat.lcm f q.den) (Nat.lcm_dvd h (k q (by simp))) fun p hp => k p (by simp [hp])
theorem lcmL_least {qs : List Rat} {N : Nat} (h : ∀ q, q ∈ qs → q.den ∣ N) : lcmL qs ∣ N := foldl_lcm_least (Nat.one_dvd N) h
/-- a fraction over a multiple of its denominator -/
def ovr (L : Nat) (q : Rat) : Int := q.num * ((L : Int) / (q.den : Int))
theorem ovr_eq {L : Nat} {q : Rat} (h : q.den ∣ L) : ((ovr L q : Int) : Rat) = q * (L : Rat) := by
  obtain ⟨k, rfl⟩ := h
  unfold ovr
  have h1 := den_ne q
  have e1 := rat_dv q
  have h0 : (q.den : Int) ≠ 0 := by exact_mod_cast q.den_nz
  have : (((q.den * k : Nat) : Int) / (q.den : Int)) = (k : Int) := by
    rw [Int.natCast_mul, Int.mul_ediv_cancel_left _ h0]
  rw [this, Rat.intCast_mul, Rat.intCast_natCast]
  have e2 : ((q.den * k : Nat) : Rat) = (q.den : Rat) * (k : Rat) := by exact_mod_cast rfl
  rw [e2]
  rw [Rat.intCast_natCast] at h1 e1
  grind
end SV
namespace SV
theorem gcdL_red (a : Rat) : gcdL [a.num, ((a.den : Nat) : Int)] = 1 := by
  have h := gcdL_two a.num ((a.den : Nat) : Int)
  rw [show gcdL [a.num, ((a.den : Nat) : Int)] = gcdL ([a.num] ++ [((a.den : Nat) : Int)]) from rfl, h, Int.gcd_comm]
  exact a.reduced
end SV
namespace SV
theorem Sz.mul {j k n : Nat} {a b : Rat} (h : Sz j a) (h2 : Sz k b) (l : j + k ≤ n) : Sz n (a * b) := by
  rw [← dv_mul]
  refine Sz.mono (j := j + k) (Sz.of_dv ?_ ?_ ?_) l
  · exact Int.mul_ne_zero (by exact_mod_cast a.den_nz) (by exact_mod_cast b.den_nz)
  · rw [Int.natAbs_mul, Nat.pow_add]
    exact Nat.mul_lt_mul'' h.1 h2.1
  · rw [Int.natAbs_mul, Nat.pow_add]
    exact Nat.mul_lt_mul'' h.2 h2.2
theorem Sz.add {j k n : Nat} {a b : Rat} (h : Sz j a) (h2 : Sz k b) (l : j + k + 1 ≤ n) : Sz n (a + b) := by
  rw [← dv_add]
  have e : 2 ^ (j + k + 1) = 2 ^ j * 2 ^ k + 2 ^ j * 2 ^ k := by rw [Nat.pow_succ, Nat.pow_add]; omega
  refine Sz.mono (j := j + k + 1) (Sz.of_dv ?_ ?_ ?_) l
  · exact Int.mul_ne_zero (by exact_mod_cast a.den_nz) (by exact_mod_cast b.den_nz)
  · have h3 : (a.num * (b.den : Int)).natAbs < 2 ^ j * 2 ^ k := by rw [Int.natAbs_mul]; exact Nat.mul_lt_mul'' h.1 h2.2
    have h4 : (b.num * (a.den : Int)).natAbs < 2 ^ j * 2 ^ k := by rw [Int.natAbs_mul, Nat.mul_comm]; exact Nat.mul_lt_mul'' h.2 h2.1
    rw [e]
    omega
  · have : ((a.den : Int) * (b.den : Int)).natAbs < 2 ^ j * 2 ^ k := by rw [Int.natAbs_mul]; exact Nat.mul_lt_mul'' h.2 h2.2
    rw [e]
    omega
theorem Sz.neg {k : Nat} {a : Rat} (h : Sz k a) : Sz k (-a) := ⟨by rw [Rat.neg_num, Int.natAbs_neg]; exact h.1, by rw [Rat.neg_den]; exact h.2⟩
theorem Sz.sub {j k n : Nat} {a b : Rat} (h : Sz j a) (h2 : Sz k b) (l : j + k + 1 ≤ n) : Sz n (a - b) := by
  rw [Rat.sub_eq_add_neg]
  exact h.add h2.neg l
/-! vectors -/
structure V3 where
  x : Rat
  y : Rat
  z : Rat
deriving DecidableEq
structure Pin where
  at_ : V3
  al : V3
  lo : Rat
  hi : Rat
def V3.cross (p e : V3) : V3 := ⟨p.y * e.z - p.z * e.y, p.z * e.x - p.x * e.z, p.x * e.y - p.y * e.x⟩
def V3.add (p e : V3) : V3 := ⟨p.x + e.x, p.y + e.y, p.z + e.z⟩
def V3.smul (p : V3) (k : Rat) : V3 := ⟨p.x * k, p.y * k, p.z * k⟩
def V3.zero : V3 := ⟨0, 0, 0⟩
def V3.all (P : Rat → Prop) (v : V3) : Prop := P v.x ∧ P v.y ∧ P v.z
abbrev V3.li (v : V3) : List Rat := [v.x, v.y, v.z]
/-- the row of a push along al through at -/
abbrev row6 (p e : V3) : List Rat := [e.x, e.y, e.z, (p.cross e).x, (p.cross e).y, (p.cross e).z]
abbrev Pin.row (p : Pin) : List Rat := row6 p.at_ p.al
theorem V3.all.mono {P R : Rat → Prop} {v : V3} (h : v.all P) (f : ∀ q, P q → R q) : v.all R := ⟨f _ h.1, f _ h.2.1, f _ h.2.2⟩
theorem cross_sz {j k n : Nat} {p e : V3} (h : p.all (Sz j)) (h2 : e.all (Sz k)) (l : 2 * (j + k) + 1 ≤ n) : (p.cross e).all (Sz n) := by
  obtain ⟨a, b, c⟩ := h
  obtain ⟨d, f, g⟩ := h2
  exact ⟨(b.mul g (Nat.le_refl _)).sub (c.mul f (Nat.le_refl _)) (by omega), (c.mul d (Nat.le_refl _)).sub (a.mul g (Nat.le_refl _)) (by omega), (a.mul f (Nat.le_refl _)).sub (b.mul d (Nat.le_refl _)) (by omega)⟩
end SV
namespace SV
structure Pin.ok (p : Pin) : Prop where
  al : p.al ≠ V3.zero
  sa : p.at_.all (Sz 1000)
  se : p.al.all (Sz 1000)
  sl : Sz 4000 p.lo
  sh : Sz 4000 p.hi
  le : p.lo ≤ p.hi
end SV
namespace SV
/-! stairs -/
abbrev rg {α : Type} (w : Nat) (v : Nat → α) : List α := (List.range w).map v
theorem mem_rg {α : Type} {w : Nat} {v : Nat → α} {x : α} : x ∈ rg w v ↔ ∃ j, j < w ∧ v j = x := by
  simp [rg]
/-! common divisors of lists -/
theorem foldl_gcd_dvd : ∀ (ns : List Int) (f : Nat), ns.foldl (fun g n => Nat.gcd g n.natAbs) f ∣ f ∧ ∀ n, n ∈ ns → ns.foldl (fun g n => Nat.gcd g n.natAbs) f ∣ n.natAbs
  | [], f => ⟨Nat.dvd_refl f, fun n h => nomatch h⟩
  | m :: ns, f => by
    obtain ⟨h1, h2⟩ := foldl_gcd_dvd ns (Nat.gcd f m.natAbs)
    refine ⟨Nat.dvd_trans h1 (Nat.gcd_dvd_left _ _), fun n hn => ?_⟩
    rcases List.mem_cons.mp hn with rfl | hn
    · exact Nat.dvd_trans h1 (Nat.gcd_dvd_right _ _)
    · exact h2 n hn
theorem gcdL_dvd {ns : List Int} {n : Int} (h : n ∈ ns) : (gcdL ns : Int) ∣ n := Int.ofNat_dvd_left.mpr ((foldl_gcd_dvd ns 0).2 n h)
theorem foldl_gcd_most {d : Nat} : ∀ {ns : List Int} {f : Nat}, d ∣ f → (∀ n, n ∈ ns → d ∣ n.natAbs) → d ∣ ns.foldl (fun g n => Nat.gcd g n.natAbs) f
  | [], _, h, _ => h
  | m :: ns, f, h, k => foldl_gcd_most (ns := ns) (f := Nat.gcd f m.natAbs) (Nat.dvd_gcd h (k m (by simp))) fun n hn => k n (by simp [hn])
theorem gcdL_most {ns : List Int} {d : Nat} (h : ∀ n, n ∈ ns → (d : Int) ∣ n) : d ∣ gcdL ns := foldl_gcd_most (Nat.dvd_zero d) fun n hn => Int.ofNat_dvd_left.mp (h n hn)
theorem gcdL_zero {ns : List Int} (h : gcdL ns = 0) : ∀ n, n ∈ ns → n = 0 := fun n hn => by
  have := gcdL_dvd hn
  rw [h] at this
  exact Int.zero_dvd.mp this
theorem foldl_gcd_mul (d : Nat) : ∀ (ns : List Int) (f : Nat), (ns.map fun n => (d : Int) * n).foldl (fun g n => Nat.gcd g n.natAbs) (d * f) = d * ns.foldl (fun g n => Nat.gcd g n.natAbs) f
  | [], f => rfl
  | n :: ns, f => by
    show ((ns.map fun n => (d : Int) * n).foldl (fun g n => Nat.gcd g n.natAbs) (Nat.gcd (d * f) ((d : Int) * n).natAbs)) = d * ns.foldl (fun g n => Nat.gcd g n.natAbs) (Nat.gcd f n.natAbs)
    rw [Int.natAbs_mul, Int.natAbs_natCast, Nat.gcd_mul_left, foldl_gcd_mul d ns]
theorem gcdL_mul (d : Nat) (ns : List Int) : gcdL (ns.map fun n => (d : Int) * n) = d * gcdL ns := foldl_gcd_mul d ns 0
/-! rows without their common divisor -/
def lowR (ns : List Int) : List Int := if gcdL ns < 2 then ns else ns.map fun n => n / (gcdL ns : Int)
def lowV (w : Nat) (v : Nat → Int) : Nat → Int := fun j => if gcdL (rg w v) < 2 then v j else v j / (gcdL (rg w v) : Int)
theorem lowR_rg (w : Nat) (v : Nat → Int) : lowR (rg w v) = rg w (lowV w v) := by
  unfold lowR lowV
  split
  · rfl
  · unfold rg; rw [List.map_map]; rfl
def Prim (w : Nat) (v : Nat → Int) : Prop := gcdL (rg w v) = 1
theorem lowV_ok (w : Nat) (v : Nat → Int) : ∃ g : Int, 0 < g ∧ (∀ j, j < w → v j = g * lowV w v j) ∧ ((∀ j, j < w → lowV w v j = 0) ∨ Prim w (lowV w v)) := by
  by_cases h : gcdL (rg w v) < 2
  · have e : lowV w v = v := by funext j; unfold lowV; rw [if_pos h]
    refine ⟨1, by decide, fun j _ => by rw [e, Int.one_mul], ?_⟩
    rw [e]
    by_cases h0 : gcdL (rg w v) = 0
    · exact .inl fun j hj => gcdL_zero h0 _ (mem_rg.mpr ⟨j, hj, rfl⟩)
    · exact .inr (by unfold Prim; omega)
  · have eq : ∀ j, j < w → v j = (gcdL (rg w v) : Int) * lowV w v j := fun j hj => by
      unfold lowV
      rw [if_neg h, Int.mul_ediv_cancel' (gcdL_dvd (mem_rg.mpr ⟨j, hj, rfl⟩))]
    refine ⟨gcdL (rg w v), by omega, eq, .inr ?_⟩
    have e2 : rg w v = (rg w (lowV w v)).map fun n => (gcdL (rg w v) : Int) * n := by
      unfold rg
      rw [List.map_map]
      exact List.map_congr_left fun j hj => eq j (List.mem_range.mp hj)
    have e3 : gcdL (rg w v) = gcdL (rg w v) * gcdL (rg w (lowV w v)) := by
      have := gcdL_mul (gcdL (rg w v)) (rg w (lowV w v))
      rw [← e2] at this
      exact this
    unfold Prim
    have : gcdL (rg w v) * 1 = gcdL (rg w v) * gcdL (rg w (lowV w v)) := by omega
    exact (Nat.eq_of_mul_eq_mul_left (by omega) this).symm
theorem lowV_abs {w : Nat} {v : Nat → Int} {j : Nat} (hj : j < w) : (lowV w v j).natAbs ≤ (v j).natAbs := by
  obtain ⟨g, hg, e, _⟩ := lowV_ok w v
  have := e j hj
  rw [this, Int.natAbs_mul]
  exact Nat.le_mul_of_pos_left _ (by omega)
theorem prim_dvd {w : Nat} {v : Nat → Int} (h : Prim w v) {g d : Int} (k : ∀ j, j < w → g ∣ d * v j) : g ∣ d := by
  have h1 : g.natAbs ∣ gcdL ((rg w v).map fun n => ((d.natAbs : Nat) : Int) * n) := gcdL_most fun n hn => by
    obtain ⟨m, hm, rfl⟩ := List.mem_map.mp hn
    obtain ⟨j, hj, rfl⟩ := mem_rg.mp hm
    have := k j hj
    rw [Int.natAbs_dvd]
    rcases Int.natAbs_eq d with e | e
    · rw [e] at this; exact this
    · rw [e, Int.neg_mul] at this; exact Int.dvd_neg.mp this
  rw [gcdL_mul, h, Nat.mul_one] at h1
  exact Int.natAbs_dvd_natAbs.mp h1
/-- one row cleared by another -/
def clV (w : Nat) (v s : Nat → Int) (pl : Nat) : Nat → Int := if v pl = 0 then v else lowV w fun j => (if 0 < s pl then 1 else -1) * (v j * s pl - s j * v pl)
structure Fn (h w : Nat) (A : Nat → Nat → Int) (S : Nat → Prop) (v : Nat → Int) (p : Int) (m : Nat → Int) : Prop where
  pos : 0 < p
  eq : ∀ j, j < w → p * v j = sumN h fun x => m x * A x j
  out : ∀ x, x < h → ¬ S x → m x = 0
section
variable {h w : Nat} {A : Nat → Nat → Int}
theorem fn_low {S : Nat → Prop} {v : Nat → Int} {p : Int} {m : Nat → Int} (F : Fn h w A S v p m) : ∃ q, Fn h w A S (lowV w v) q m := by
  obtain ⟨g, hg, e, _⟩ := lowV_ok w v
  refine ⟨p * g, Int.mul_pos F.pos hg, fun j hj => ?_, F.out⟩
  rw [← F.eq j hj, e j hj, Int.mul_assoc]
theorem clear_ok {S S' : Nat → Prop} {v s m n : Nat → Int} {p q : Int} {pl : Nat} (F : Fn h w A S v p m) (G : Fn h w A S' s q n) (hS : ∀ x, S' x → S x) (hpl : pl < w) (hs : s pl ≠ 0) :
    ∃ p' m' c, Fn h w A S (clV w v s pl) p' m' ∧ 0 < c ∧ (∀ x, x < h → ¬ S' x → m' x = c * m x) ∧ clV w v s pl pl = 0 ∧ (∀ j, j < w → s j = 0 → v j = 0 → clV w v s pl j = 0) ∧ (∀ j, j < w → s j = 0 → v j ≠ 0 → clV w v s pl j ≠ 0) ∧
      (((∀ j, j < w → v j = 0) ∨ Prim w v) → ((∀ j, j < w → clV w v s pl j = 0) ∨ Prim w (clV w v s pl))) := by
  unfold clV
  by_cases z : v pl = 0
  · rw [if_pos z]
    exact ⟨p, m, 1, F, by decide, fun x _ _ => by rw [Int.one_mul], z, fun _ _ _ h => h, fun _ _ _ h => h, fun h => h⟩
  · rw [if_neg z]
    have sgp : 0 < (if 0 < s pl then (1 : Int) else -1) * s pl := by
      split
      · omega
      · omega
    generalize (if 0 < s pl then (1 : Int) else -1) = sg at sgp
    have sg0 : sg ≠ 0 := fun z => by rw [z] at sgp; simp at sgp
    obtain ⟨g, hg, e, pr⟩ := lowV_ok w fun j => sg * (v j * s pl - s j * v pl)
    have zero : ∀ j, j < w → sg * (v j * s pl - s j * v pl) = 0 → lowV w (fun j => sg * (v j * s pl - s j * v pl)) j = 0 := fun j hj q => by
      have := e j hj
      rw [q] at this
      rcases Int.mul_eq_zero.mp this.symm with z | z
      · omega
      · exact z
    refine ⟨p * q * g, fun x => sg * s pl * q * m x - sg * v pl * p * n x, sg * s pl * q, ⟨Int.mul_pos (Int.mul_pos F.pos G.pos) hg, fun j hj => ?_, fun x hx hn => ?_⟩, Int.mul_pos sgp G.pos, fun x hx hn => ?_, ?_, fun j hj h1 h2 => ?_, fun j hj h1 h2 h3 => ?_, fun _ => pr⟩
    · have e1 : (sumN h fun x => (sg * s pl * q * m x - sg * v pl * p * n x) * A x j) = sg * s pl * q * (sumN h fun x => m x * A x j) - sg * v pl * p * sumN h fun x => n x * A x j := by
        rw [← sumN_mul, ← sumN_mul, ← sumN_sub]
        exact sumN_congr fun x _ => by grind
      rw [e1, ← F.eq j hj, ← G.eq j hj]
      have := e j hj
      grind
    · show sg * s pl * q * m x - sg * v pl * p * n x = 0
      rw [F.out x hx hn, G.out x hx fun z => hn (hS x z)]
      simp
    · show sg * s pl * q * m x - sg * v pl * p * n x = _
      rw [G.out x hx hn]
      simp
    · exact zero pl hpl (by rw [Int.mul_comm (s pl)]; simp)
    · exact zero j hj (by rw [h1, h2]; simp)
    · have := e j hj
      rw [h3, h1] at this
      simp only [Int.mul_zero, Int.zero_mul, Int.sub_zero] at this
      rcases Int.mul_eq_zero.mp this with z | z
      · exact sg0 z
      · rcases Int.mul_eq_zero.mp z with z | z
        · exact h2 z
        · exact hs z
theorem clV_abs {v s : Nat → Int} {pl e u : Nat} (hpl : pl < w) (hv : ∀ j, j < w → (v j).natAbs < 2 ^ e) (hs : ∀ j, j < w → (s j).natAbs < 2 ^ u) : ∀ j, j < w → (clV w v s pl j).natAbs < 2 ^ (e + u + 1) := fun j hj => by
  unfold clV
  split
  · exact Nat.lt_of_lt_of_le (hv j hj) (Nat.pow_le_pow_right (by decide) (by omega))
  · refine Nat.lt_of_le_of_lt (lowV_abs hj) ?_
    have h1 : (v j * s pl).natAbs < 2 ^ e * 2 ^ u := by rw [Int.natAbs_mul]; exact Nat.mul_lt_mul'' (hv j hj) (hs pl hpl)
    have h2 : (s j * v pl).natAbs < 2 ^ e * 2 ^ u := by rw [Int.natAbs_mul, Nat.mul_comm]; exact Nat.mul_lt_mul'' (hv pl hpl) (hs j hj)
    rw [Nat.pow_succ, Nat.pow_add, Int.natAbs_mul]
    have : (if 0 < s pl then (1 : Int) else -1).natAbs = 1 := by split <;> rfl
    rw [this, Nat.one_mul]
    omega
def colA (A : Nat → Nat → Int) (j : Nat) : Vec := fun x => A x j
structure TT (h w : Nat) (A : Nat → Nat → Int) (I : List Nat) (L : Nat → Nat) (b : Nat → Vec) (ep d : Int) (t : Nat → Nat → Int) : Prop where
  T : TI h w (colA A) (fun _ => 0) b (fun _ => 0) ep d t
  bI : ∀ i, i ∈ I → b i = colA A (L i)
  bU : ∀ i, i < h → i ∉ I → b i = unit i
theorem cramer {I : List Nat} {L : Nat → Nat} {b : Nat → Vec} {ep d : Int} {t : Nat → Nat → Int} (X : TT h w A I L b ep d t) (m : Nat → Int) {j : Nat} (hj : j < w) :
    d * (sumN h fun x => m x * A x j) = sumN h fun i => t i j * (if i ∈ I then sumN h fun x => m x * A x (L i) else m i) := by
  have e1 : d * (sumN h fun x => m x * A x j) = sumN h fun x => sumN h fun i => m x * (t i j * b i x) := by
    rw [← sumN_mul]
    refine sumN_congr fun x hx => ?_
    have := X.T.rel j hj x hx
    rw [sumN_mul, ← this]
    show d * (m x * A x j) = m x * (d * A x j)
    grind
  rw [e1, sumN_swap]
  refine sumN_congr fun i hi => ?_
  have e2 : (sumN h fun x => m x * (t i j * b i x)) = t i j * sumN h fun x => m x * b i x := by
    rw [← sumN_mul]; exact sumN_congr fun x _ => by grind
  rw [e2]
  congr 1
  by_cases q : i ∈ I
  · rw [if_pos q, X.bI i q]; rfl
  · rw [if_neg q, X.bU i hi q, sumN_one hi fun k _ hn => by unfold unit; rw [if_neg hn]; exact Int.mul_zero _]
    unfold unit; rw [if_pos rfl, Int.mul_one]
theorem cramer1 {I : List Nat} {L : Nat → Nat} {b : Nat → Vec} {ep d : Int} {t : Nat → Nat → Int} (X : TT h w A I L b ep d t) (m : Nat → Int) {i j : Nat} (hj : j < w) (hi : i < h) (z : ∀ x, x < h → x ≠ i → (if x ∈ I then sumN h fun y => m y * A y (L x) else m x) = 0) :
    d * (sumN h fun x => m x * A x j) = t i j * (if i ∈ I then sumN h fun x => m x * A x (L i) else m i) := by
  rw [cramer X m hj, sumN_one hi fun x hx hn => by rw [z x hx hn, Int.mul_zero]]
structure SI (h w : Nat) (A : Nat → Nat → Int) (k : Nat) (I : List Nat) (L : Nat → Nat) (f : Nat → Nat → Int) : Prop where
  kh : k ≤ h
  nd : I.Nodup
  Ik : ∀ i, i ∈ I → i < k
  Lw : ∀ i, i ∈ I → L i < w
  fn : ∀ i, i ∈ I → ∃ p m, Fn h w A (fun x => x ∈ I) (f i) p m
  f0 : ∀ i, i ∈ I → ∀ i', i' ∈ I → i' ≠ i → f i (L i') = 0
  fL : ∀ i, i ∈ I → f i (L i) ≠ 0
  fb : ∀ i, i ∈ I → ∀ j, j < L i → f i j = 0
  pr : ∀ i, i ∈ I → Prim w (f i)
  Z : ∀ i, i < k → i ∉ I → ∃ m : Nat → Int, m i ≠ 0 ∧ (∀ x, x < h → x ∉ I → x ≠ i → m x = 0) ∧ ∀ j, j < w → (sumN h fun x => m x * A x j) = 0
  T : ∃ b ep d t, TT h w A I L b ep d t
theorem SI.zero : SI h w A 0 [] (fun _ => 0) (fun _ _ => 0) where
  kh := Nat.zero_le _
  nd := List.nodup_nil
  Ik := fun i hi => nomatch hi
  Lw := fun i hi => nomatch hi
  fn := fun i hi => nomatch hi
  f0 := fun i hi => nomatch hi
  fL := fun i hi => nomatch hi
  fb := fun i hi => nomatch hi
  pr := fun i hi => nomatch hi
  Z := fun i hi => absurd hi (Nat.not_lt_zero i)
  T := ⟨unit, 1, 1, fun i j => if i < h then A i j else 0, ⟨rfl, by decide, by rw [D_unit]; rfl, fun i hi j hj => by rw [Int.one_mul, put_unit _ hi, if_pos hi]; rfl,
    fun j hj x hx => by
      rw [Int.one_mul, sumN_one (i := x) hx fun k _ hn => (by have q : unit k x = 0 := if_neg (fun z => hn z.symm); show _ * unit k x = 0; rw [q, Int.mul_zero])]
      unfold unit; rw [if_pos rfl, if_pos hx, Int.mul_one]; rfl,
    fun j hj => by
      rw [if_neg (by omega), sumN_zero fun k _ => Int.zero_mul _]; rfl⟩, fun i hi => (nomatch hi), fun i _ _ => rfl⟩
/-- the row's numbers by the table -/
theorem SI.prop {k : Nat} {I : List Nat} {L : Nat → Nat} {f : Nat → Nat → Int} (S : SI h w A k I L f) {b : Nat → Vec} {ep d : Int} {t : Nat → Nat → Int} (X : TT h w A I L b ep d t) {i : Nat} (hi : i ∈ I) {j : Nat} (hj : j < w) : d * f i j = t i j * f i (L i) := by
  obtain ⟨p, m, F⟩ := S.fn i hi
  have hih : i < h := Nat.lt_of_lt_of_le (S.Ik i hi) S.kh
  have c := cramer1 X m hj hih fun x hx hn => by
    by_cases q : x ∈ I
    · rw [if_pos q, ← F.eq _ (S.Lw x q), S.f0 i hi x q hn]; simp
    · rw [if_neg q, F.out x hx q]
  rw [if_pos hi, ← F.eq j hj, ← F.eq _ (S.Lw i hi)] at c
  have pp := F.pos
  have : p * (d * f i j) = p * (t i j * f i (L i)) := by grind
  exact Int.eq_of_mul_eq_mul_left (by omega) this
theorem SI.abs {k : Nat} {I : List Nat} {L : Nat → Nat} {f : Nat → Nat → Int} (S : SI h w A k I L f) {M : Nat} (hM : 1 ≤ M) (hA : ∀ x, x < h → ∀ j, j < w → (A x j).natAbs ≤ M) {i : Nat} (hi : i ∈ I) {j : Nat} (hj : j < w) : (f i j).natAbs ≤ h * (M * (fact h * M ^ h)) := by
  obtain ⟨b, ep, d, t, X⟩ := S.T
  have hih : i < h := Nat.lt_of_lt_of_le (S.Ik i hi) S.kh
  have bn := (X.T.bnd (M := M) (Mv := M) hM (fun x hx y hy => by
    by_cases q : x ∈ I
    · rw [X.bI x q]; exact hA y hy _ (S.Lw x q)
    · rw [X.bU x hx q]; unfold unit; split
      · exact hM
      · exact Nat.zero_le _) (fun j hj y hy => hA y hy j hj)).2 i hih j hj
  refine Nat.le_trans ?_ bn
  have dv : f i (L i) ∣ d := prim_dvd (S.pr i hi) fun j hj => ⟨t i j, by rw [S.prop X hi hj, Int.mul_comm]⟩
  obtain ⟨c, rfl⟩ := dv
  have e := S.prop X hi hj
  have dp := X.T.dpos
  have fl := S.fL i hi
  have e2 : f i (L i) * (c * f i j) = f i (L i) * t i j := by grind
  have e3 := Int.eq_of_mul_eq_mul_left fl e2
  have c0 : c ≠ 0 := fun z => by rw [z] at dp; simp at dp
  rw [← e3, Int.natAbs_mul]
  exact Nat.le_mul_of_pos_left _ (by omega)
/-- the row that is being brought -/
structure Lf (h w : Nat) (A : Nat → Nat → Int) (k : Nat) (I : List Nat) (L : Nat → Nat) (n : Nat) (v : Nat → Int) : Prop where
  fn : ∃ p m, Fn h w A (fun x => x ∈ I ∨ x = k) v p m ∧ 0 < m k
  z : ∀ i, i ∈ I.take n → v (L i) = 0
  pr : (∀ j, j < w → v j = 0) ∨ Prim w v
theorem Lf.zero {k : Nat} {I : List Nat} {L : Nat → Nat} (hk : k < h) : Lf h w A k I L 0 (lowV w (A k)) where
  fn := by
    have F : Fn h w A (fun x => x ∈ I ∨ x = k) (A k) 1 (unit k) := ⟨by decide, fun j hj => by
      rw [Int.one_mul, sumN_one hk fun x _ hn => by unfold unit; rw [if_neg hn]; exact Int.zero_mul _]
      unfold unit; rw [if_pos rfl, Int.one_mul], fun x _ hn => by unfold unit; rw [if_neg fun z => hn (.inr z)]⟩
    obtain ⟨q, F⟩ := fn_low F
    exact ⟨q, _, F, by unfold unit; rw [if_pos rfl]; decide⟩
  z := fun i hi => by simp at hi
  pr := (lowV_ok w (A k)).choose_spec.2.2
theorem Lf.step {k n i : Nat} {I : List Nat} {L : Nat → Nat} {f : Nat → Nat → Int} {v : Nat → Int} (S : SI h w A k I L f) (hk : k < h) (X : Lf h w A k I L n v) (hn : I[n]? = some i) : Lf h w A k I L (n + 1) (clV w v (f i) (L i)) := by
  have hi : i ∈ I := List.mem_of_getElem? hn
  obtain ⟨p, m, F, mk⟩ := X.fn
  obtain ⟨q, n', G⟩ := S.fn i hi
  obtain ⟨p', m', c, F', hc, hm, h1, h2, h3, h4⟩ := clear_ok F G (fun x hx => .inl hx) (S.Lw i hi) (S.fL i hi)
  refine ⟨⟨p', m', F', ?_⟩, fun i' hi' => ?_, h4 X.pr⟩
  · rw [hm k hk (fun z => by have := S.Ik k z; omega)]
    exact Int.mul_pos hc mk
  · rw [List.take_add_one, hn] at hi'
    rcases List.mem_append.mp hi' with z | z
    · have hI := List.mem_of_mem_take z
      by_cases e : i' = i
      · rw [e]; exact h1
      · exact h2 _ (S.Lw i' hI) (S.f0 i hi i' hI e) (X.z i' z)
    · simp at z
      rw [z]; exact h1
theorem SI.skip {k : Nat} {I : List Nat} {L : Nat → Nat} {f : Nat → Nat → Int} {v : Nat → Int} (S : SI h w A k I L f) (hk : k < h) (X : Lf h w A k I L I.length v) (hz : ∀ j, j < w → v j = 0) : SI h w A (k + 1) I L f where
  kh := hk
  nd := S.nd
  Ik := fun i hi => Nat.lt_succ_of_lt (S.Ik i hi)
  Lw := S.Lw
  fn := S.fn
  f0 := S.f0
  fL := S.fL
  fb := S.fb
  pr := S.pr
  T := S.T
  Z := fun i hi hn => by
    by_cases e : i = k
    · subst e
      obtain ⟨p, m, F, mk⟩ := X.fn
      exact ⟨m, by omega, fun x hx h1 h2 => F.out x hx fun z => z.elim h1 h2, fun j hj => by rw [← F.eq j hj, hz j hj, Int.mul_zero]⟩
    · exact S.Z i (by omega) hn
def putN (k pl : Nat) (L : Nat → Nat) : Nat → Nat := fun i => if i = k then pl else L i
def putF (w k pl : Nat) (v : Nat → Int) (f : Nat → Nat → Int) : Nat → Nat → Int := fun i => if i = k then v else clV w (f i) v pl
theorem SI.add {k pl : Nat} {I : List Nat} {L : Nat → Nat} {f : Nat → Nat → Int} {v : Nat → Int} (S : SI h w A k I L f) (hk : k < h) (X : Lf h w A k I L I.length v) (hpl : pl < w) (hv : v pl ≠ 0) (hb : ∀ j, j < pl → v j = 0) :
    SI h w A (k + 1) (I ++ [k]) (putN k pl L) (putF w k pl v f) := by
  have kI : k ∉ I := fun z => by have := S.Ik k z; omega
  have hz : ∀ i, i ∈ I → v (L i) = 0 := fun i hi => X.z i (by rw [List.take_length]; exact hi)
  have ne : ∀ i, i ∈ I → i ≠ k := fun i hi z => kI (z ▸ hi)
  have eL : ∀ i, i ∈ I → putN k pl L i = L i := fun i hi => if_neg (ne i hi)
  have eLk : putN k pl L k = pl := if_pos rfl
  have eF : ∀ i, i ∈ I → putF w k pl v f i = clV w (f i) v pl := fun i hi => if_neg (ne i hi)
  have eFk : putF w k pl v f k = v := if_pos rfl
  have mem : ∀ {i}, i ∈ I ++ [k] → i ∈ I ∨ i = k := fun {i} h => by simpa using h
  obtain ⟨p, m, F, mk⟩ := X.fn
  have Fk : Fn h w A (fun x => x ∈ I ++ [k]) v p m := ⟨F.pos, F.eq, fun x hx hn => F.out x hx fun z => hn (by simpa using z)⟩
  have key : ∀ i, i ∈ I → ∃ p' m', Fn h w A (fun x => x ∈ I ++ [k]) (clV w (f i) v pl) p' m' ∧ clV w (f i) v pl pl = 0 ∧ (∀ j, j < w → v j = 0 → f i j = 0 → clV w (f i) v pl j = 0) ∧ (∀ j, j < w → v j = 0 → f i j ≠ 0 → clV w (f i) v pl j ≠ 0) ∧ ((∀ j, j < w → clV w (f i) v pl j = 0) ∨ Prim w (clV w (f i) v pl)) := fun i hi => by
    obtain ⟨q, n, G⟩ := S.fn i hi
    have G' : Fn h w A (fun x => x ∈ I ++ [k]) (f i) q n := ⟨G.pos, G.eq, fun x hx hn => G.out x hx fun z => hn (List.mem_append_left _ z)⟩
    obtain ⟨p', m', c, F', _, _, h1, h2, h3, h4⟩ := clear_ok G' Fk (fun x hx => hx) hpl hv
    exact ⟨p', m', F', h1, h2, h3, h4 (.inr (S.pr i hi))⟩
  refine ⟨hk, ?_, fun i hi => ?_, fun i hi => ?_, fun i hi => ?_, fun i hi i' hi' hn => ?_, fun i hi => ?_, fun i hi j hj => ?_, fun i hi => ?_, fun i hi hn => ?_, ?_⟩
  · rw [List.nodup_append]
    refine ⟨S.nd, by simp, fun a ha b hb => ?_⟩
    simp at hb
    subst hb
    exact fun z => kI (z ▸ ha)
  · rcases mem hi with z | z
    · have := S.Ik i z; omega
    · omega
  · rcases mem hi with z | z
    · rw [eL i z]; exact S.Lw i z
    · rw [z, eLk]; exact hpl
  · rcases mem hi with z | z
    · obtain ⟨p', m', F', _⟩ := key i z
      rw [eF i z]; exact ⟨p', m', F'⟩
    · rw [z, eFk]; exact ⟨p, m, Fk⟩
  · rcases mem hi with z | z
    · obtain ⟨p', m', _, h1, h2, _⟩ := key i z
      rw [eF i z]
      rcases mem hi' with y | y
      · rw [eL i' y]; exact h2 _ (S.Lw i' y) (hz i' y) (S.f0 i z i' y hn)
      · rw [y, eLk]; exact h1
    · rcases mem hi' with y | y
      · rw [z, eFk, eL i' y]; exact hz i' y
      · exact absurd (y.trans z.symm) hn
  · rcases mem hi with z | z
    · obtain ⟨p', m', _, h1, h2, h3, _⟩ := key i z
      rw [eF i z, eL i z]
      exact h3 _ (S.Lw i z) (hz i z) (S.fL i z)
    · rw [z, eFk, eLk]; exact hv
  · rcases mem hi with z | z
    · rw [eL i z] at hj
      rw [eF i z]
      have hjw : j < w := Nat.lt_trans hj (S.Lw i z)
      by_cases q : f i pl = 0
      · unfold clV; rw [if_pos q]; exact S.fb i z j hj
      · obtain ⟨p', m', _, h1, h2, _⟩ := key i z
        refine h2 j hjw (hb j ?_) (S.fb i z j hj)
        refine Classical.byContradiction fun y => ?_
        exact q (S.fb i z pl (by omega))
    · rw [z, eLk] at hj
      rw [z, eFk]; exact hb j hj
  · rcases mem hi with z | z
    · obtain ⟨p', m', _, h1, h2, h3, h4⟩ := key i z
      rw [eF i z]
      rcases h4 with y | y
      · exact absurd (y _ (S.Lw i z)) (h3 _ (S.Lw i z) (hz i z) (S.fL i z))
      · exact y
    · rw [z, eFk]
      rcases X.pr with y | y
      · exact absurd (y pl hpl) hv
      · exact y
  · have hnI : i ∉ I := fun z => hn (List.mem_append_left _ z)
    have hnk : i ≠ k := fun z => hn (by simp [z])
    obtain ⟨m, h1, h2, h3⟩ := S.Z i (by omega) hnI
    exact ⟨m, h1, fun x hx hxn hxi => h2 x hx (fun z => hxn (List.mem_append_left _ z)) hxi, h3⟩
  · obtain ⟨b, ep, d, t, Y⟩ := S.T
    have c := cramer1 Y m hpl hk fun x hx hn => by
      by_cases q : x ∈ I
      · rw [if_pos q, ← F.eq _ (S.Lw x q), hz x q]; simp
      · rw [if_neg q, F.out x hx fun z => z.elim q hn]
    rw [if_neg kI, ← F.eq pl hpl] at c
    have dp := Y.T.dpos
    have pp := F.pos
    have tk : t k pl ≠ 0 := fun z => by
      rw [z] at c
      have : d * (p * v pl) = 0 := by rw [c]; simp
      rcases Int.mul_eq_zero.mp this with y | y
      · omega
      · rcases Int.mul_eq_zero.mp y with y | y
        · omega
        · exact hv y
    have z0 : ∀ x, putI k (0 : Int) (fun _ => 0) = x ↔ (fun _ => (0 : Int)) = x := fun x => by
      have : putI k (0 : Int) (fun _ => 0) = fun _ => 0 := by funext y; unfold putI; split <;> rfl
      rw [this]
    have done : ∀ {ep' t' b'}, TI h w (colA A) (fun _ => 0) b' (fun _ => 0) ep' d t' → put k (colA A pl) b' = put k (colA A pl) b → 0 < t' k pl → ∃ b ep d t, TT h w A (I ++ [k]) (putN k pl L) b ep d t := fun {ep' t' b'} T' eb tp => by
      have St := T'.step hk hpl tp
      have e0 : putI k ((fun _ => (0 : Int)) pl) (fun _ => (0 : Int)) = fun _ => 0 := by funext y; unfold putI; split <;> rfl
      rw [e0, eb] at St
      refine ⟨_, _, _, _, St, fun i hi => ?_, fun i hi hn => ?_⟩
      · rcases mem hi with z | z
        · rw [put_ne _ _ (ne i z), eL i z]; exact Y.bI i z
        · rw [z, put_at, eLk]
      · have hnk : i ≠ k := fun z => hn (by simp [z])
        rw [put_ne _ _ hnk]
        exact Y.bU i hi fun z => hn (List.mem_append_left _ z)
    by_cases q : 0 < t k pl
    · exact done Y.T rfl q
    · have N := Y.T.neg hk
      have e0 : putI k (-((fun _ => (0 : Int)) k)) (fun _ => (0 : Int)) = fun _ => 0 := by funext y; unfold putI; split <;> rfl
      rw [e0] at N
      refine done N (put_put _ _ _ _) ?_
      unfold negT
      rw [if_pos rfl]
      omega
end
end SV
namespace SV
/-! sums of fractions -/
def sumQ : Nat → (Nat → Rat) → Rat
  | 0, _ => 0
  | n + 1, f => sumQ n f + f n
theorem sumQ_congr {n : Nat} {f g : Nat → Rat} (h : ∀ k, k < n → f k = g k) : sumQ n f = sumQ n g := by
  induction n with
  | zero => rfl
  | succ n ih => simp only [sumQ]; rw [ih fun k hk => h k (by omega), h n (by omega)]
theorem sumQ_zero {n : Nat} {f : Nat → Rat} (h : ∀ k, k < n → f k = 0) : sumQ n f = 0 := by
  induction n with
  | zero => rfl
  | succ n ih => simp only [sumQ]; rw [ih fun k hk => h k (by omega), h n (by omega)]; grind
theorem sumQ_add (n : Nat) (f g : Nat → Rat) : sumQ n (fun k => f k + g k) = sumQ n f + sumQ n g := by
  induction n with
  | zero => simp only [sumQ]; grind
  | succ n ih => simp only [sumQ]; rw [ih]; grind
theorem sumQ_sub (n : Nat) (f g : Nat → Rat) : sumQ n (fun k => f k - g k) = sumQ n f - sumQ n g := by
  induction n with
  | zero => simp only [sumQ]; grind
  | succ n ih => simp only [sumQ]; rw [ih]; grind
theorem sumQ_neg (n : Nat) (f : Nat → Rat) : sumQ n (fun k => - f k) = - sumQ n f := by
  induction n with
  | zero => simp only [sumQ]; grind
  | succ n ih => simp only [sumQ]; rw [ih]; grind
theorem sumQ_mul (n : Nat) (a : Rat) (f : Nat → Rat) : sumQ n (fun k => a * f k) = a * sumQ n f := by
  induction n with
  | zero => simp only [sumQ]; grind
  | succ n ih => simp only [sumQ]; rw [ih]; grind
theorem sumQ_mulR (n : Nat) (a : Rat) (f : Nat → Rat) : sumQ n (fun k => f k * a) = sumQ n f * a := by
  induction n with
  | zero => simp only [sumQ]; grind
  | succ n ih => simp only [sumQ]; rw [ih]; grind
theorem sumQ_swap (n m : Nat) (f : Nat → Nat → Rat) : sumQ n (fun i => sumQ m (fun j => f i j)) = sumQ m (fun j => sumQ n (fun i => f i j)) := by
  induction n with
  | zero => simp only [sumQ]; exact (sumQ_zero fun _ _ => rfl).symm
  | succ n ih => simp only [sumQ]; rw [ih, ← sumQ_add]
theorem sumQ_one {n i : Nat} {f : Nat → Rat} (hi : i < n) (h : ∀ k, k < n → k ≠ i → f k = 0) : sumQ n f = f i := by
  induction n with
  | zero => omega
  | succ n ih =>
    simp only [sumQ]
    by_cases e : i = n
    · subst e
      rw [sumQ_zero fun k hk => h k (by omega) (by omega)]; grind
    · rw [ih (by omega) fun k hk hn => h k (by omega) hn, h n (by omega) (by omega)]; grind
theorem sumQ_nonneg {n : Nat} {f : Nat → Rat} (h : ∀ k, k < n → 0 ≤ f k) : 0 ≤ sumQ n f := by
  induction n with
  | zero => exact Rat.le_refl
  | succ n ih =>
    simp only [sumQ]
    have h1 := ih fun k hk => h k (by omega)
    have h2 := h n (by omega)
    grind
theorem sumQ_le {n : Nat} {f g : Nat → Rat} (h : ∀ k, k < n → f k ≤ g k) : sumQ n f ≤ sumQ n g := by
  induction n with
  | zero => exact Rat.le_refl
  | succ n ih =>
    simp only [sumQ]
    have h1 := ih fun k hk => h k (by omega)
    have h2 := h n (by omega)
    grind
theorem sumN_cast (n : Nat) (f : Nat → Int) : ((sumN n f : Int) : Rat) = sumQ n fun k => ((f k : Int) : Rat) := by
  induction n with
  | zero => rfl
  | succ n ih => simp only [sumN, sumQ]; rw [Rat.intCast_add, ih]
theorem sum_rg (n : Nat) (f : Nat → Rat) : ((List.range n).map f).sum = sumQ n f := by
  induction n with
  | zero => rfl
  | succ n ih => rw [List.range_succ, List.map_append, List.sum_append, ih]; simp [sumQ, Rat.add_zero]
theorem sum_rgI (n : Nat) (f : Nat → Int) : ((List.range n).map f).sum = sumN n f := by
  induction n with
  | zero => rfl
  | succ n ih => rw [List.range_succ, List.map_append, List.sum_append, ih]; simp [sumN]
end SV
namespace SV
/-! what the stairs tell -/
section
variable {h n : Nat} {A : Nat → Nat → Int} {k : Nat} {I : List Nat} {L : Nat → Nat} {f : Nat → Nat → Int}
/-- the last column leads: it is no sum of the others -/
theorem SI.no (S : SI h (n + 1) A k I L f) {i : Nat} (hi : i ∈ I) (hL : L i = n) (x : Nat → Rat) (e : ∀ y, y < h → ((A y n : Int) : Rat) = sumQ n fun j => ((A y j : Int) : Rat) * x j) : False := by
  obtain ⟨p, m, F⟩ := S.fn i hi
  have c : ∀ j, j < n + 1 → ((p * f i j : Int) : Rat) = sumQ h fun y => (m y : Rat) * ((A y j : Int) : Rat) := fun j hj => by
    rw [F.eq j hj, sumN_cast]
    exact sumQ_congr fun y _ => by rw [Rat.intCast_mul]
  have z : ((p * f i n : Int) : Rat) = 0 := by
    rw [c n (by omega), sumQ_congr fun y hy => by rw [e y hy, ← sumQ_mul], sumQ_swap]
    refine sumQ_zero fun j hj => ?_
    have := c j (by omega)
    rw [S.fb i hi j (by omega), Int.mul_zero] at this
    have e2 : (sumQ h fun i => (m i : Rat) * (((A i j : Int) : Rat) * x j)) = x j * sumQ h fun y => (m y : Rat) * ((A y j : Int) : Rat) := by
      rw [← sumQ_mul]; exact sumQ_congr fun y _ => by grind
    rw [e2, ← this]
    simp
  have fl := S.fL i hi
  rw [hL] at fl
  have pp := F.pos
  have : p * f i n = 0 := by exact_mod_cast z
  rcases Int.mul_eq_zero.mp this with q | q
  · omega
  · exact fl q
theorem SI.inj (S : SI h (n + 1) A k I L f) {i i' : Nat} (hi : i ∈ I) (hi' : i' ∈ I) (e : L i = L i') : i = i' := by
  refine Classical.byContradiction fun q => ?_
  have := S.f0 i hi i' hi' (fun z => q z.symm)
  rw [← e] at this
  exact S.fL i hi this
/-- the shares as they are stored -/
def valJ (h : Nat) (L : Nat → Nat) (q : Nat → Rat) (J : List Nat) (j : Nat) : Rat := sumQ h fun i => if i ∈ J ∧ L i = j then q i else 0
theorem valJ_nil {q : Nat → Rat} (j : Nat) : valJ h L q [] j = 0 := sumQ_zero fun i _ => by simp
theorem valJ_snoc {q : Nat → Rat} {J : List Nat} {i : Nat} (hi : i < h) (hn : ∀ i', i' ∈ J → L i' ≠ L i) (j : Nat) : valJ h L q (J ++ [i]) j = if j = L i then q i else valJ h L q J j := by
  unfold valJ
  by_cases e : j = L i
  · rw [if_pos e, sumQ_one hi fun i' _ hne => if_neg fun z => ?_, if_pos ⟨by simp, e.symm⟩]
    obtain ⟨z1, z2⟩ := z
    rcases List.mem_append.mp z1 with y | y
    · exact hn i' y (by rw [z2, e])
    · simp at y; exact hne y
  · rw [if_neg e]
    refine sumQ_congr fun i' _ => ?_
    by_cases q : i' ∈ J ∧ L i' = j
    · rw [if_pos q, if_pos ⟨List.mem_append_left _ q.1, q.2⟩]
    · rw [if_neg q, if_neg fun z => ?_]
      rcases List.mem_append.mp z.1 with y | y
      · exact q ⟨y, z.2⟩
      · simp at y; subst y; exact e z.2.symm
theorem valJ_sum {q : Nat → Rat} {J : List Nat} (hL : ∀ i, i ∈ J → L i < n) (g : Nat → Rat) : (sumQ n fun j => g j * valJ h L q J j) = sumQ h fun i => if i ∈ J then g (L i) * q i else 0 := by
  have e : (sumQ n fun j => g j * valJ h L q J j) = sumQ n fun j => sumQ h fun i => g j * (if i ∈ J ∧ L i = j then q i else 0) := sumQ_congr fun j _ => by unfold valJ; rw [sumQ_mul]
  rw [e, sumQ_swap]
  refine sumQ_congr fun i _ => ?_
  by_cases z : i ∈ J
  · rw [if_pos z, sumQ_one (hL i z) fun j _ hn => by rw [if_neg fun y => hn y.2.symm]; exact Rat.mul_zero _, if_pos ⟨z, rfl⟩]
  · rw [if_neg z]
    exact sumQ_zero fun j _ => by rw [if_neg fun y => z y.1]; exact Rat.mul_zero _
theorem SI.yes (S : SI h (n + 1) A h I L f) {J : List Nat} (hJ : ∀ i, i ∈ J ↔ i ∈ I) (hL : ∀ i, i ∈ I → L i < n) {y : Nat} (hy : y < h) :
    (sumQ n fun j => ((A y j : Int) : Rat) * valJ h L (fun i => Rat.divInt (f i n) (f i (L i))) J j) = ((A y n : Int) : Rat) := by
  rw [valJ_sum (fun i hi => hL i ((hJ i).mp hi))]
  obtain ⟨b, ep, d, t, X⟩ := S.T
  have dp := X.T.dpos
  have r := X.T.rel n (by omega) y hy
  have d0 : ((d : Int) : Rat) ≠ 0 := icast_ne (by omega)
  have e1 : ((d : Int) : Rat) * (sumQ h fun i => if i ∈ J then ((A y (L i) : Int) : Rat) * Rat.divInt (f i n) (f i (L i)) else 0) = ((d : Int) : Rat) * ((A y n : Int) : Rat) := by
    have e2 : ((d : Int) : Rat) * ((A y n : Int) : Rat) = ((d * colA A n y : Int) : Rat) := by rw [Rat.intCast_mul]; rfl
    rw [e2, r, sumN_cast, ← sumQ_mul]
    refine sumQ_congr fun i hi => ?_
    by_cases z : i ∈ I
    · rw [if_pos ((hJ i).mpr z), X.bI i z, Rat.intCast_mul]
      have pr := S.prop X z (j := n) (by omega)
      have fl := icast_ne (S.fL i z)
      have pq : ((d : Int) : Rat) * ((f i n : Int) : Rat) = ((t i n : Int) : Rat) * ((f i (L i) : Int) : Rat) := by exact_mod_cast pr
      show _ = ((t i n : Int) : Rat) * ((A y (L i) : Int) : Rat)
      rw [Rat.divInt_eq_div]
      grind
    · rw [if_neg fun w => z ((hJ i).mp w)]
      obtain ⟨m, m0, m1, m2⟩ := S.Z i hi z
      have c := cramer1 X m (i := i) (j := n) (by omega) hi fun x hx hn => by
        by_cases w : x ∈ I
        · rw [if_pos w]; exact m2 _ (by have := hL x w; omega)
        · rw [if_neg w]; exact m1 x hx w hn
      rw [if_neg z, m2 n (by omega), Int.mul_zero] at c
      have t0 : t i n = 0 := by
        rcases Int.mul_eq_zero.mp c.symm with w | w
        · exact w
        · exact absurd w m0
      rw [t0]
      simp
  exact (by
    have : ((d : Int) : Rat) * ((sumQ h fun i => if i ∈ J then ((A y (L i) : Int) : Rat) * Rat.divInt (f i n) (f i (L i)) else 0) - ((A y n : Int) : Rat)) = 0 := by grind
    rcases Rat.mul_eq_zero.mp this with w | w
    · exact absurd w d0
    · grind)
end
end SV
namespace SV
/-! spans and ranks -/
inductive Spn (w : Nat) (R : List (Nat → Int)) : (Nat → Rat) → Prop where
  | zero {v : Nat → Rat} (h : ∀ j, j < w → v j = 0) : Spn w R v
  | add {v u : Nat → Rat} {r : Nat → Int} (c : Rat) (hr : r ∈ R) (hu : Spn w R u) (e : ∀ j, j < w → v j = u j + c * ((r j : Int) : Rat)) : Spn w R v
section
variable {w : Nat} {R R' : List (Nat → Int)} {u v : Nat → Rat}
theorem Spn.ext (h : Spn w R u) (e : ∀ j, j < w → v j = u j) : Spn w R v := by
  cases h with
  | zero h => exact .zero fun j hj => by rw [e j hj, h j hj]
  | add c hr hu e2 => exact .add c hr hu fun j hj => by rw [e j hj, e2 j hj]
theorem Spn.plus (h : Spn w R u) (k : Spn w R v) (c : Rat) : Spn w R fun j => v j + c * u j := by
  induction h generalizing v with
  | zero h => exact k.ext fun j hj => by rw [h j hj]; grind
  | add a hr hu e ih =>
    refine .add (c * a) hr (ih k) fun j hj => ?_
    rw [e j hj]; grind
theorem Spn.row {r : Nat → Int} (h : r ∈ R) : Spn w R fun j => ((r j : Int) : Rat) := .add 1 h (.zero (v := fun _ => 0) fun _ _ => rfl) fun j _ => by grind
theorem Spn.into (h : Spn w R u) (k : ∀ r, r ∈ R → Spn w R' fun j => ((r j : Int) : Rat)) : Spn w R' u := by
  induction h with
  | zero h => exact .zero h
  | add c hr hu e ih => exact ((k _ hr).plus ih c).ext e
theorem Spn.at0 (h : Spn w R u) {k : Nat} (hk : k < w) (z : ∀ r, r ∈ R → r k = 0) : u k = 0 := by
  induction h with
  | zero h => exact h k hk
  | add c hr hu e ih => rw [e k hk, ih, z _ hr]; grind
/-- one step -/
def rkS (k : Nat) (R : List (Nat → Int)) : List (Nat → Int) :=
  match R.filter fun v => decide (v k ≠ 0) with
  | [] => R
  | f :: rest => (R.filter fun v => decide (v k = 0)) ++ rest.map fun v j => v j * f k - f j * v k
def rkB (k : Nat) (R : List (Nat → Int)) : Nat := match R.filter fun v => decide (v k ≠ 0) with
  | [] => 0
  | _ :: _ => 1
theorem rkS_ok {k : Nat} (hk : k < w) : (Spn w (rkS k R) v ↔ Spn w R v ∧ v k = 0) ∧ ((rkB k R = 0 ∧ ∀ u, Spn w R u → u k = 0) ∨ (rkB k R = 1 ∧ ∃ u, Spn w R u ∧ u k ≠ 0)) := by
  unfold rkS rkB
  cases e : R.filter fun v => decide (v k ≠ 0) with
  | nil =>
    have z : ∀ r, r ∈ R → r k = 0 := fun r hr => by
      refine Classical.byContradiction fun q => ?_
      have : r ∈ R.filter fun v => decide (v k ≠ 0) := List.mem_filter.mpr ⟨hr, decide_eq_true q⟩
      rw [e] at this
      cases this
    exact ⟨⟨fun h => ⟨h, h.at0 hk z⟩, fun h => h.1⟩, .inl ⟨rfl, fun u hu => hu.at0 hk z⟩⟩
  | cons f rest =>
    have lead : ∀ r, r ∈ f :: rest → r ∈ R ∧ r k ≠ 0 := fun r hr => by
      rw [← e] at hr
      obtain ⟨h1, h2⟩ := List.mem_filter.mp hr
      exact ⟨h1, of_decide_eq_true h2⟩
    obtain ⟨fR, fk⟩ := lead f (by simp)
    have fq : ((f k : Int) : Rat) ≠ 0 := icast_ne fk
    refine ⟨⟨fun h => ⟨h.into fun r hr => ?_, h.at0 hk fun r hr => ?_⟩, fun h => ?_⟩, .inr ⟨rfl, _, Spn.row fR, fq⟩⟩
    · rcases List.mem_append.mp hr with y | y
      · exact Spn.row (List.mem_filter.mp y).1
      · obtain ⟨x, hx, rfl⟩ := List.mem_map.mp y
        have h1 := lead x (by simp [hx])
        refine (((Spn.row (w := w) fR).plus ((Spn.row (w := w) h1.1).plus (.zero (v := fun _ => 0) fun _ _ => rfl) ((f k : Int) : Rat)) (-((x k : Int) : Rat)))).ext fun j _ => ?_
        rw [Rat.intCast_sub, Rat.intCast_mul, Rat.intCast_mul]
        grind
    · rcases List.mem_append.mp hr with y | y
      · exact of_decide_eq_true (List.mem_filter.mp y).2
      · obtain ⟨x, hx, rfl⟩ := List.mem_map.mp y
        show x k * f k - f k * x k = 0
        rw [Int.mul_comm]; omega
    · obtain ⟨h, z⟩ := h
      have key : ∃ c : Rat, Spn w ((R.filter fun v => decide (v k = 0)) ++ rest.map fun v j => v j * f k - f j * v k) fun j => v j + c * ((f j : Int) : Rat) := by
        clear z
        induction h with
        | zero h => exact ⟨0, .zero fun j hj => by rw [h j hj]; grind⟩
        | @add v u r a hr hu e2 ih =>
          obtain ⟨c, ih⟩ := ih
          by_cases q : r k = 0
          · refine ⟨c, .add a (List.mem_append_left _ (List.mem_filter.mpr ⟨hr, decide_eq_true q⟩)) ih fun j hj => ?_⟩
            rw [e2 j hj]; grind
          · have hl : r ∈ f :: rest := by rw [← e]; exact List.mem_filter.mpr ⟨hr, decide_eq_true q⟩
            rcases List.mem_cons.mp hl with rfl | hl
            · exact ⟨c - a, ih.ext fun j hj => by rw [e2 j hj]; grind⟩
            · refine ⟨c - a * ((r k : Int) : Rat) / ((f k : Int) : Rat), .add (a / ((f k : Int) : Rat)) (List.mem_append_right _ (List.mem_map.mpr ⟨r, hl, rfl⟩)) ih fun j hj => ?_⟩
              rw [e2 j hj, Rat.intCast_sub, Rat.intCast_mul, Rat.intCast_mul]
              grind
      obtain ⟨c, key⟩ := key
      have c0 := key.at0 hk fun r hr => by
        rcases List.mem_append.mp hr with y | y
        · exact of_decide_eq_true (List.mem_filter.mp y).2
        · obtain ⟨x, hx, rfl⟩ := List.mem_map.mp y
          show x k * f k - f k * x k = 0
          rw [Int.mul_comm]; omega
      have c1 : c = 0 := by
        have : c * ((f k : Int) : Rat) = 0 := by rw [z] at c0; grind
        rcases Rat.mul_eq_zero.mp this with y | y
        · exact y
        · exact absurd y fq
      rw [c1] at key
      exact key.ext fun j _ => by grind
def rkR (R : List (Nat → Int)) : Nat → List (Nat → Int)
  | 0 => R
  | k + 1 => rkS k (rkR R k)
def rkN (R : List (Nat → Int)) : Nat → Nat
  | 0 => 0
  | k + 1 => rkN R k + rkB k (rkR R k)
theorem rkR_ok : ∀ (k : Nat), k ≤ w → ∀ v, (Spn w (rkR R k) v ↔ Spn w R v ∧ ∀ j, j < k → v j = 0)
  | 0, _, v => ⟨fun h => ⟨h, fun j hj => absurd hj (Nat.not_lt_zero j)⟩, fun h => h.1⟩
  | k + 1, hk, v => by
    show Spn w (rkS k (rkR R k)) v ↔ _
    rw [(rkS_ok (by omega)).1, rkR_ok k (by omega) v]
    constructor
    · rintro ⟨⟨h1, h2⟩, h3⟩
      refine ⟨h1, fun j hj => ?_⟩
      by_cases q : j = k
      · rw [q]; exact h3
      · exact h2 j (by omega)
    · rintro ⟨h1, h2⟩
      exact ⟨⟨h1, fun j hj => h2 j (by omega)⟩, h2 k (by omega)⟩
def Piv (w : Nat) (R : List (Nat → Int)) (k : Nat) : Prop := ∃ v, Spn w R v ∧ (∀ j, j < k → v j = 0) ∧ v k ≠ 0
theorem rkB_ok {k : Nat} (hk : k < w) : (rkB k (rkR R k) = 0 ∧ ¬ Piv w R k) ∨ (rkB k (rkR R k) = 1 ∧ Piv w R k) := by
  rcases (rkS_ok (R := rkR R k) (v := fun _ => 0) hk).2 with ⟨h1, h2⟩ | ⟨h1, u, h2, h3⟩
  · exact .inl ⟨h1, fun ⟨v, hv, z, nz⟩ => nz (h2 v ((rkR_ok k (by omega) v).mpr ⟨hv, z⟩))⟩
  · obtain ⟨h4, h5⟩ := (rkR_ok k (by omega) u).mp h2
    exact .inr ⟨h1, u, h4, h5, h3⟩
theorem rk_same (h : ∀ v, Spn w R v ↔ Spn w R' v) : ∀ k, k ≤ w → rkN R k = rkN R' k
  | 0, _ => rfl
  | k + 1, hk => by
    show rkN R k + rkB k (rkR R k) = rkN R' k + rkB k (rkR R' k)
    rw [rk_same h k (by omega)]
    have p : Piv w R k ↔ Piv w R' k := ⟨fun ⟨v, hv, z⟩ => ⟨v, (h v).mp hv, z⟩, fun ⟨v, hv, z⟩ => ⟨v, (h v).mpr hv, z⟩⟩
    rcases rkB_ok (R := R) (by omega : k < w) with ⟨a1, a2⟩ | ⟨a1, a2⟩ <;> rcases rkB_ok (R := R') (by omega : k < w) with ⟨b1, b2⟩ | ⟨b1, b2⟩
    · omega
    · exact absurd (p.mpr b2) a2
    · exact absurd (p.mp a2) b2
    · omega
theorem rk_le (h : ∀ v, Spn w R v → Spn w R' v) : ∀ k, k ≤ w → rkN R k ≤ rkN R' k ∧ (rkN R k = rkN R' k → ∀ j, j < k → Piv w R' j → Piv w R j)
  | 0, _ => ⟨Nat.le_refl _, fun _ j hj => absurd hj (Nat.not_lt_zero j)⟩
  | k + 1, hk => by
    obtain ⟨i1, i2⟩ := rk_le h k (by omega)
    have p : Piv w R k → Piv w R' k := fun ⟨v, hv, z⟩ => ⟨v, h v hv, z⟩
    have q : rkB k (rkR R k) ≤ rkB k (rkR R' k) ∧ (rkB k (rkR R k) = rkB k (rkR R' k) → Piv w R' k → Piv w R k) := by
      rcases rkB_ok (R := R) (by omega : k < w) with ⟨a1, a2⟩ | ⟨a1, a2⟩ <;> rcases rkB_ok (R := R') (by omega : k < w) with ⟨b1, b2⟩ | ⟨b1, b2⟩
      · exact ⟨by omega, fun _ z => absurd z b2⟩
      · exact ⟨by omega, fun z => by omega⟩
      · exact absurd (p a2) b2
      · exact ⟨by omega, fun _ _ => a2⟩
    refine ⟨Nat.add_le_add i1 q.1, fun e j hj => ?_⟩
    have e' : rkN R k + rkB k (rkR R k) = rkN R' k + rkB k (rkR R' k) := e
    by_cases y : j = k
    · subst y; exact q.2 (by omega)
    · exact i2 (by omega) j (by omega)
/-- one more row counts just if it is none of the span -/
theorem rk_more {g : Nat → Int} : rkN R w < rkN (R ++ [g]) w ↔ ¬ Spn w R fun j => ((g j : Int) : Rat) := by
  have up : ∀ v, Spn w R v → Spn w (R ++ [g]) v := fun v h => h.into fun r hr => Spn.row (List.mem_append_left _ hr)
  constructor
  · intro h z
    have := rk_same (w := w) (R := R) (R' := R ++ [g]) (fun v => ⟨up v, fun h => h.into fun r hr => by
      rcases List.mem_append.mp hr with y | y
      · exact Spn.row y
      · simp at y; subst y; exact z⟩) w (Nat.le_refl _)
    omega
  · intro z
    obtain ⟨h1, h2⟩ := rk_le up w (Nat.le_refl _)
    refine Classical.byContradiction fun q => ?_
    have pv := h2 (by omega)
    refine z ?_
    have key : ∀ k, k ≤ w → ∃ u, Spn w R u ∧ ∀ j, j < k → ((g j : Int) : Rat) + u j = 0 := fun k => by
      induction k with
      | zero => exact fun _ => ⟨fun _ => 0, .zero fun _ _ => rfl, fun j hj => absurd hj (Nat.not_lt_zero j)⟩
      | succ k ih =>
        intro hk
        obtain ⟨u, hu, e⟩ := ih (by omega)
        by_cases y : ((g k : Int) : Rat) + u k = 0
        · refine ⟨u, hu, fun j hj => ?_⟩
          by_cases x : j = k
          · rw [x]; exact y
          · exact e j (by omega)
        · have P : Piv w (R ++ [g]) k := ⟨fun j => ((g j : Int) : Rat) + u j, ((up u hu).plus (Spn.row (r := g) (List.mem_append_right _ (by simp))) 1).ext fun j _ => by grind, e, y⟩
          obtain ⟨x, hx, x0, xk⟩ := pv k (by omega) P
          refine ⟨fun j => u j + (-(((g k : Int) : Rat) + u k) / x k) * x j, hx.plus hu _, fun j hj => ?_⟩
          by_cases y : j = k
          · subst y
            show ((g j : Int) : Rat) + (u j + (-(((g j : Int) : Rat) + u j) / x j) * x j) = 0
            grind
          · show ((g j : Int) : Rat) + (u j + (-(((g k : Int) : Rat) + u k) / x k) * x j) = 0
            rw [x0 j (by omega)]
            have := e j (by omega)
            grind
    obtain ⟨u, hu, e⟩ := key w (Nat.le_refl _)
    refine (hu.plus (.zero (v := fun _ => 0) fun _ _ => rfl) (-1)).ext fun j hj => ?_
    have := e j hj
    grind
end
/-! spans by numbered rows -/
theorem spn_iff {w n : Nat} {r : Nat → Nat → Int} {v : Nat → Rat} : Spn w ((List.range n).map r) v ↔ ∃ x : Nat → Rat, ∀ j, j < w → v j = sumQ n fun i => ((r i j : Int) : Rat) * x i := by
  constructor
  · intro h
    induction h with
    | zero h => exact ⟨fun _ => 0, fun j hj => by rw [h j hj, sumQ_zero fun _ _ => Rat.mul_zero _]⟩
    | @add v u r' c hr hu e ih =>
      obtain ⟨x, hx⟩ := ih
      obtain ⟨i, hi, rfl⟩ := List.mem_map.mp hr
      have hi := List.mem_range.mp hi
      refine ⟨fun k => x k + if k = i then c else 0, fun j hj => ?_⟩
      rw [e j hj, hx j hj]
      have : (sumQ n fun k => ((r k j : Int) : Rat) * (x k + if k = i then c else 0)) = (sumQ n fun k => ((r k j : Int) : Rat) * x k) + sumQ n fun k => ((r k j : Int) : Rat) * if k = i then c else 0 := by
        rw [← sumQ_add]; exact sumQ_congr fun k _ => by grind
      have o : (sumQ n fun k => ((r k j : Int) : Rat) * if k = i then c else 0) = ((r i j : Int) : Rat) * c := by
        rw [sumQ_one hi fun k _ hn => by rw [if_neg hn]; exact Rat.mul_zero _, if_pos rfl]
      rw [this, o]
      grind
  · rintro ⟨x, hx⟩
    have key : ∀ m, m ≤ n → Spn w ((List.range n).map r) fun j => sumQ m fun i => ((r i j : Int) : Rat) * x i := fun m => by
      induction m with
      | zero => exact fun _ => .zero fun j _ => rfl
      | succ m ih => exact fun hm => .add (x m) (List.mem_map.mpr ⟨m, List.mem_range.mpr (by omega), rfl⟩) (ih (by omega)) fun j _ => by simp only [sumQ]; grind
    exact (key n (Nat.le_refl n)).ext hx
/-! sizes -/
theorem rkS_abs {w k e : Nat} {R : List (Nat → Int)} (hk : k < w) (h : ∀ r, r ∈ R → ∀ j, j < w → (r j).natAbs < 2 ^ e) : ∀ r, r ∈ rkS k R → ∀ j, j < w → (r j).natAbs < 2 ^ (2 * e + 1) := by
  have m1 : 2 ^ e ≤ 2 ^ (2 * e + 1) := Nat.pow_le_pow_right (by decide) (by omega)
  unfold rkS
  split
  · intro r hr j hj
    exact Nat.lt_of_lt_of_le (h r hr j hj) m1
  · rename_i f rest q
    have lead : ∀ r, r ∈ f :: rest → r ∈ R := fun r hr => by rw [← q] at hr; exact (List.mem_filter.mp hr).1
    intro r hr j hj
    rcases List.mem_append.mp hr with y | y
    · exact Nat.lt_of_lt_of_le (h r (List.mem_filter.mp y).1 j hj) m1
    · obtain ⟨x, hx, rfl⟩ := List.mem_map.mp y
      have hf := h f (lead f (by simp))
      have hx := h x (lead x (by simp [hx]))
      have h1 : (x j * f k).natAbs < 2 ^ e * 2 ^ e := by rw [Int.natAbs_mul]; exact Nat.mul_lt_mul'' (hx j hj) (hf k hk)
      have h2 : (f j * x k).natAbs < 2 ^ e * 2 ^ e := by rw [Int.natAbs_mul]; exact Nat.mul_lt_mul'' (hf j hj) (hx k hk)
      show (x j * f k - f j * x k).natAbs < _
      rw [show 2 * e + 1 = e + e + 1 by omega, Nat.pow_succ, Nat.pow_add]
      omega
end SV
set_option exponentiation.threshold 20000
namespace SV
/-! the lines that shares_for brings to stairs -/
def qsL (rs : List (List Rat)) (wd : List Rat) (y : Nat) : List Rat := (rs.map fun r => r.getD y 0) ++ [wd.getD y 0]
theorem qs_len (rs : List (List Rat)) (wd : List Rat) (y : Nat) : (qsL rs wd y).length = rs.length + 1 := by simp [qsL]
def lineA (rs : List (List Rat)) (wd : List Rat) (y : Nat) : Nat → Int := lowV (rs.length + 1) fun j => ovr (lcmL (qsL rs wd y)) ((qsL rs wd y).getD j 0)
/-- how large the rows' numbers may be -/
abbrev Rb (q : Rat) : Prop := Bq (12 ^ 12) (2 ^ 40) q
structure Rows (rs : List (List Rat)) (wd : List Rat) : Prop where
  n : rs.length ≤ 12
  len : ∀ r, r ∈ rs → r.length = 6
  wl : wd.length = 6
  rb : ∀ r, r ∈ rs → ∀ q, q ∈ r → Rb q
  wb : ∀ q, q ∈ wd → Rb q
section
variable {rs : List (List Rat)} {wd : List Rat}
theorem getD_mem {α : Type} {l : List α} {i : Nat} {d : α} (h : i < l.length) : l.getD i d ∈ l := by
  rw [List.getD_eq_getElem?_getD, List.getElem?_eq_getElem h]
  exact List.getElem_mem h
theorem Rows.qs (R : Rows rs wd) {y : Nat} (hy : y < 6) {q : Rat} (h : q ∈ qsL rs wd y) : Rb q := by
  unfold qsL at h
  rcases List.mem_append.mp h with z | z
  · obtain ⟨r, hr, rfl⟩ := List.mem_map.mp z
    exact R.rb r hr _ (getD_mem (by rw [R.len r hr]; exact hy))
  · rw [List.mem_singleton.mp z]
    exact R.wb _ (getD_mem (by rw [R.wl]; exact hy))
theorem lcm_dvd {qs : List Rat} (h : ∀ q, q ∈ qs → Rb q) : lcmL qs ∣ 12 ^ 12 := lcmL_least fun q hq => (h q hq).1
theorem lcm_le {qs : List Rat} (h : ∀ q, q ∈ qs → Rb q) : lcmL qs ≤ 12 ^ 12 := Nat.le_of_dvd (by decide) (lcm_dvd h)
theorem ovr_le {L : Nat} {q : Rat} (h : Rb q) (d : q.den ∣ L) (l : L ≤ 12 ^ 12) : (ovr L q).natAbs ≤ 2 ^ 84 := by
  have e := ovr_eq d
  obtain ⟨_, h1, h2⟩ := h
  have L0 : (0 : Rat) ≤ (L : Rat) := by exact_mod_cast Nat.zero_le L
  have u1 : q * (L : Rat) ≤ ((2 ^ 40 : Nat) : Rat) * (L : Rat) := Rat.mul_le_mul_of_nonneg_right h2 L0
  have u2 : -((2 ^ 40 : Nat) : Rat) * (L : Rat) ≤ q * (L : Rat) := Rat.mul_le_mul_of_nonneg_right h1 L0
  rw [← e] at u1 u2
  have w1 : ovr L q ≤ ((2 ^ 40 : Nat) : Int) * (L : Int) := by
    have : ((ovr L q : Int) : Rat) ≤ ((((2 ^ 40 : Nat) : Int) * (L : Int) : Int) : Rat) := by rw [Rat.intCast_mul, Rat.intCast_natCast, Rat.intCast_natCast]; exact u1
    exact_mod_cast this
  have w2 : -(((2 ^ 40 : Nat) : Int) * (L : Int)) ≤ ovr L q := by
    have : ((-(((2 ^ 40 : Nat) : Int) * (L : Int)) : Int) : Rat) ≤ ((ovr L q : Int) : Rat) := by rw [Rat.intCast_neg, Rat.intCast_mul, Rat.intCast_natCast, Rat.intCast_natCast]; grind
    exact_mod_cast this
  have w3 : ((2 ^ 40 : Nat) : Int) * (L : Int) ≤ ((2 ^ 40 : Nat) : Int) * ((12 ^ 12 : Nat) : Int) := Int.mul_le_mul_of_nonneg_left (by exact_mod_cast l) (by omega)
  have w4 : ((2 ^ 40 : Nat) : Int) * ((12 ^ 12 : Nat) : Int) ≤ ((2 ^ 84 : Nat) : Int) := by decide
  omega
theorem Rows.line (R : Rows rs wd) {y : Nat} (hy : y < 6) {j : Nat} (hj : j < rs.length + 1) : (lineA rs wd y j).natAbs ≤ 2 ^ 90 := by
  unfold lineA
  refine Nat.le_trans (lowV_abs hj) ?_
  have hm : (qsL rs wd y).getD j 0 ∈ qsL rs wd y := getD_mem (by rw [qs_len]; exact hj)
  exact Nat.le_trans (ovr_le (R.qs hy hm) (lcmL_dvd hm) (lcm_le fun q hq => R.qs hy hq)) (by decide)
theorem Bq.rbsz {q : Rat} (h : Rb q) : Sz 90 q := h.sz (by decide) (by decide) (by decide)
theorem Rows.lcm6 (R : Rows rs wd) {y : Nat} (hy : y < 6) : lcmL (qsL rs wd y) < 2 ^ 6000 := Nat.lt_of_le_of_lt (lcm_le fun q hq => R.qs hy hq) (Nat.lt_of_lt_of_le (by decide : 12 ^ 12 < 2 ^ 44) (Nat.pow_le_pow_right (by decide) (by decide)))
theorem Rows.num6 (R : Rows rs wd) {y : Nat} (hy : y < 6) : ∀ q, q ∈ qsL rs wd y → q.num.natAbs < 2 ^ 6000 := fun q hq => Nat.lt_of_lt_of_le (Bq.rbsz (R.qs hy hq)).1 (Nat.pow_le_pow_right (by decide) (by decide))
theorem Rows.ov6 (R : Rows rs wd) {y : Nat} (hy : y < 6) : ∀ j, j < (qsL rs wd y).length → (ovr (lcmL (qsL rs wd y)) ((qsL rs wd y).getD j 0)).natAbs < 2 ^ 9000 := fun j hj => Nat.lt_of_le_of_lt (ovr_le (R.qs hy (getD_mem hj)) (lcmL_dvd (getD_mem hj)) (lcm_le fun q hq => R.qs hy hq)) (Nat.pow_lt_pow_right (by decide) (by decide))
/-- a line is a multiple of what is asked -/
theorem line_eq (rs : List (List Rat)) (wd : List Rat) (y : Nat) : ∃ g : Rat, g ≠ 0 ∧ ∀ j, j < rs.length + 1 → ((lineA rs wd y j : Int) : Rat) * g = (qsL rs wd y).getD j 0 := by
  obtain ⟨g, hg, e, _⟩ := lowV_ok (rs.length + 1) fun j => ovr (lcmL (qsL rs wd y)) ((qsL rs wd y).getD j 0)
  have L0 : ((lcmL (qsL rs wd y) : Nat) : Rat) ≠ 0 := by
    have := lcmL_pos (qsL rs wd y)
    intro z
    have : lcmL (qsL rs wd y) = 0 := by exact_mod_cast z
    omega
  have g0 := icast_ne (i := g) (by omega)
  refine ⟨(g : Rat) / (lcmL (qsL rs wd y) : Rat), ?_, fun j hj => ?_⟩
  · intro z
    have : (g : Rat) = 0 := by
      have : (g : Rat) / (lcmL (qsL rs wd y) : Rat) * (lcmL (qsL rs wd y) : Rat) = (g : Rat) := by grind
      rw [z] at this
      grind
    exact g0 this
  · have h1 := e j hj
    have h2 := ovr_eq (lcmL_dvd (getD_mem (l := qsL rs wd y) (i := j) (d := 0) (by rw [qs_len]; exact hj)))
    have h3 : ((ovr (lcmL (qsL rs wd y)) ((qsL rs wd y).getD j 0) : Int) : Rat) = (g : Rat) * ((lineA rs wd y j : Int) : Rat) := by
      rw [← Rat.intCast_mul]
      exact congrArg _ h1
    rw [h2] at h3
    grind
theorem qs_at {y j : Nat} (hj : j < rs.length) : (qsL rs wd y).getD j 0 = (rs.getD j []).getD y 0 := by
  unfold qsL
  rw [List.getD_eq_getElem?_getD, List.getElem?_append_left (by simpa using hj), List.getElem?_map, List.getElem?_eq_getElem hj, List.getD_eq_getElem?_getD (l := rs), List.getElem?_eq_getElem hj]
  rfl
theorem qs_last {y : Nat} : (qsL rs wd y).getD rs.length 0 = wd.getD y 0 := by
  unfold qsL
  rw [List.getD_eq_getElem?_getD, List.getElem?_append_right (by simp)]
  simp
/-- shares of what is asked among the rows -/
def Sh (rs : List (List Rat)) (wd : List Rat) (x : Nat → Rat) : Prop := ∀ y, y < 6 → wd.getD y 0 = sumQ rs.length fun j => (rs.getD j []).getD y 0 * x j
theorem sh_line {x : Nat → Rat} {y : Nat} : wd.getD y 0 = (sumQ rs.length fun j => (rs.getD j []).getD y 0 * x j) ↔ ((lineA rs wd y rs.length : Int) : Rat) = sumQ rs.length fun j => ((lineA rs wd y j : Int) : Rat) * x j := by
  obtain ⟨g, g0, e⟩ := line_eq rs wd y
  have e1 := e rs.length (by omega)
  rw [qs_last] at e1
  have e2 : (sumQ rs.length fun j => (rs.getD j []).getD y 0 * x j) = g * sumQ rs.length fun j => ((lineA rs wd y j : Int) : Rat) * x j := by
    rw [← sumQ_mul]
    refine sumQ_congr fun j hj => ?_
    rw [← qs_at (wd := wd) hj, ← e j (by omega)]
    grind
  rw [e2, ← e1]
  constructor
  · intro h
    have : g * (((lineA rs wd y rs.length : Int) : Rat) - sumQ rs.length fun j => ((lineA rs wd y j : Int) : Rat) * x j) = 0 := by grind
    rcases Rat.mul_eq_zero.mp this with z | z
    · exact absurd z g0
    · grind
  · intro h
    rw [h]; grind
variable {I J : List Nat} {L : Nat → Nat} {f : Nat → Nat → Int}
theorem sh_no (S : SI 6 (rs.length + 1) (lineA rs wd) 6 I L f) {i : Nat} (hi : i ∈ I) (hL : L i = rs.length) (x : Nat → Rat) (h : Sh rs wd x) : False :=
  S.no hi hL x fun y hy => sh_line.mp (h y hy)
abbrev qF (n : Nat) (L : Nat → Nat) (f : Nat → Nat → Int) : Nat → Rat := fun i => Rat.divInt (f i n) (f i (L i))
theorem sh_yes (S : SI 6 (rs.length + 1) (lineA rs wd) 6 I L f) (hJ : ∀ i, i ∈ J ↔ i ∈ I) (hL : ∀ i, i ∈ J → L i < rs.length) : Sh rs wd (valJ 6 L (qF rs.length L f) J) := fun y hy =>
  sh_line.mpr (S.yes hJ (fun i hi => hL i ((hJ i).mpr hi)) hy).symm
theorem fB' : 6 * (2 ^ 90 * (fact 6 * (2 ^ 90) ^ 6)) < 2 ^ 650 := by decide +kernel
theorem sh_sz (R : Rows rs wd) (S : SI 6 (rs.length + 1) (lineA rs wd) 6 I L f) (hJ : ∀ i, i ∈ J → i ∈ I) (inj : ∀ i i', i ∈ J → i' ∈ J → L i = L i' → i = i') (j : Nat) : Sz 650 (valJ 6 L (qF rs.length L f) J j) := by
  have fb : ∀ i, i ∈ I → ∀ j, j < rs.length + 1 → (f i j).natAbs < 2 ^ 650 := fun i hi j hj => Nat.lt_of_le_of_lt (S.abs (M := 2 ^ 90) (Nat.two_pow_pos _) (fun x hx j hj => R.line hx hj) hi hj) fB'
  by_cases q : ∃ i, i ∈ J ∧ L i = j
  · obtain ⟨i, hi, rfl⟩ := q
    have hI := hJ i hi
    have h6 : i < 6 := Nat.lt_of_lt_of_le (S.Ik i hI) S.kh
    have : valJ 6 L (qF rs.length L f) J (L i) = qF rs.length L f i := by
      unfold valJ
      rw [sumQ_one h6 fun k _ hn => if_neg fun z => hn (inj k i z.1 hi z.2), if_pos ⟨hi, rfl⟩]
    rw [this]
    exact Sz.of_dv (S.fL i hI) (fb i hI _ (by omega)) (fb i hI _ (S.Lw i hI))
  · have : valJ 6 L (qF rs.length L f) J j = 0 := by
      unfold valJ
      exact sumQ_zero fun i _ => if_neg fun z => q ⟨i, z⟩
    rw [this]
    exact ⟨Nat.two_pow_pos _, Nat.one_lt_two_pow (by decide)⟩
end
end SV
namespace SV
/-! gauges: the whole numbers' task and the fractions -/
theorem sumQ_pair (n : Nat) (f : Nat → Rat) : sumQ (2 * n) f = sumQ n fun a => f (2 * a) + f (2 * a + 1) := by
  induction n with
  | zero => rfl
  | succ n ih =>
    rw [show 2 * (n + 1) = 2 * n + 1 + 1 by omega]
    simp only [sumQ]
    rw [ih]
    grind
theorem sumQ_le1 {n : Nat} {f : Nat → Rat} {a : Nat} (h : ∀ k, k < n → 0 ≤ f k) (ha : a < n) : f a ≤ sumQ n f := by
  induction n with
  | zero => omega
  | succ n ih =>
    simp only [sumQ]
    have h2 := h n (by omega)
    have h1 : 0 ≤ sumQ n f := sumQ_nonneg fun k hk => h k (by omega)
    by_cases e : a = n
    · subst e; grind
    · have := ih (fun k hk => h k (by omega)) (by omega); grind
def p0 : Pin := ⟨V3.zero, V3.zero, 0, 0⟩
def pA (ps : List Pin) (a : Nat) : Pin := ps.getD a p0
def scA (ps : List Pin) (a : Nat) : Nat := lcmL (pA ps a).row
def rwA (ps : List Pin) (a i : Nat) : Rat := (pA ps a).row.getD i 0
def mA (ps : List Pin) (i j : Nat) : Int := if j % 2 = 0 then ovr (scA ps (j / 2)) (rwA ps (j / 2) i) else -ovr (scA ps (j / 2)) (rwA ps (j / 2) i)
def prA (ps : List Pin) (j : Nat) : Rat := if j % 2 = 0 then (((scA ps (j / 2) : Nat) : Int) : Rat) * (pA ps (j / 2)).hi else ((-((scA ps (j / 2) : Nat) : Int) : Int) : Rat) * (pA ps (j / 2)).lo
def coinA (ps : List Pin) : Nat := lcmL (rg (2 * ps.length) (prA ps))
def cA (ps : List Pin) (j : Nat) : Int := ovr (coinA ps) (prA ps j)
def bA (wd : List Rat) (i : Nat) : Int := ovr (lcmL wd) (wd.getD i 0)
/-- the greatest that some shares allow -/
def worth (ps : List Pin) (x : Nat → Rat) : Rat := sumQ ps.length fun a => x a * (if 0 < x a then (pA ps a).hi else (pA ps a).lo)
abbrev rowsOf (ps : List Pin) : List (List Rat) := ps.map fun p => p.row
/-- a move that fits -/
def Fits (ps : List Pin) (m : Nat → Rat) : Prop := ∀ a, a < ps.length → (pA ps a).lo ≤ (sumQ 6 fun i => rwA ps a i * m i) ∧ (sumQ 6 fun i => rwA ps a i * m i) ≤ (pA ps a).hi
structure GOk (ps : List Pin) (wd : List Rat) : Prop where
  n : ps.length ≤ 8
  wl : wd.length = 6
  rb : ∀ p, p ∈ ps → ∀ q, q ∈ p.row → Rb q
  sl : ∀ p, p ∈ ps → Sz 60 p.lo ∧ Sz 60 p.hi
  wb : ∀ q, q ∈ wd → Rb q
section
variable {ps : List Pin} {wd : List Rat}
theorem pA_mem {a : Nat} (h : a < ps.length) : pA ps a ∈ ps := getD_mem h
theorem row_len (p : Pin) : p.row.length = 6 := rfl
theorem rw_mem {a i : Nat} (hi : i < 6) : rwA ps a i ∈ (pA ps a).row := getD_mem (by rw [row_len]; exact hi)
theorem m_even (a i : Nat) : mA ps i (2 * a) = ovr (scA ps a) (rwA ps a i) := by
  unfold mA
  rw [if_pos (by omega), show 2 * a / 2 = a by omega]
theorem m_odd (a i : Nat) : mA ps i (2 * a + 1) = -ovr (scA ps a) (rwA ps a i) := by
  unfold mA
  rw [if_neg (by omega), show (2 * a + 1) / 2 = a by omega]
theorem p_even (a : Nat) : prA ps (2 * a) = (((scA ps a : Nat) : Int) : Rat) * (pA ps a).hi := by
  unfold prA
  rw [if_pos (by omega), show 2 * a / 2 = a by omega]
theorem p_odd (a : Nat) : prA ps (2 * a + 1) = ((-((scA ps a : Nat) : Int) : Int) : Rat) * (pA ps a).lo := by
  unfold prA
  rw [if_neg (by omega), show (2 * a + 1) / 2 = a by omega]
theorem m_eq {a i : Nat} (hi : i < 6) : ((mA ps i (2 * a) : Int) : Rat) = rwA ps a i * (scA ps a : Rat) := by
  rw [m_even]
  exact ovr_eq (lcmL_dvd (rw_mem hi))
theorem m_eq' {a i : Nat} (hi : i < 6) : ((mA ps i (2 * a + 1) : Int) : Rat) = -(rwA ps a i * (scA ps a : Rat)) := by
  have := ovr_eq (lcmL_dvd (rw_mem (ps := ps) (a := a) hi))
  rw [m_odd, Rat.intCast_neg]
  exact congrArg (fun q => -q) this
theorem sc_pos (a : Nat) : (0 : Rat) < (scA ps a : Rat) := by exact_mod_cast lcmL_pos _
theorem coin_pos : (0 : Rat) < (coinA ps : Rat) := by exact_mod_cast lcmL_pos _
theorem size_pos : (0 : Rat) < (lcmL wd : Rat) := by exact_mod_cast lcmL_pos _
theorem c_eq {j : Nat} (hj : j < 2 * ps.length) : ((cA ps j : Int) : Rat) = prA ps j * (coinA ps : Rat) := ovr_eq (lcmL_dvd (mem_rg.mpr ⟨j, hj, rfl⟩))
theorem b_eq (wl : wd.length = 6) {i : Nat} (hi : i < 6) : ((bA wd i : Int) : Rat) = wd.getD i 0 * (lcmL wd : Rat) := ovr_eq (lcmL_dvd (getD_mem (by rw [wl]; exact hi)))
/-- the equations' left sides -/
theorem m_sum {i : Nat} (hi : i < 6) (y : Nat → Int) : ((sumN (2 * ps.length) fun j => mA ps i j * y j : Int) : Rat) = sumQ ps.length fun a => rwA ps a i * ((scA ps a : Rat) * ((y (2 * a) : Rat) - (y (2 * a + 1) : Rat))) := by
  rw [sumN_cast, sumQ_pair]
  refine sumQ_congr fun a _ => ?_
  rw [Rat.intCast_mul, Rat.intCast_mul, m_eq hi, m_eq' hi]
  grind
theorem c_sum (y : Nat → Int) : ((sumN (2 * ps.length) fun j => cA ps j * y j : Int) : Rat) = (coinA ps : Rat) * sumQ ps.length fun a => (scA ps a : Rat) * ((pA ps a).hi * (y (2 * a) : Rat) - (pA ps a).lo * (y (2 * a + 1) : Rat)) := by
  rw [sumN_cast, sumQ_pair, ← sumQ_mul]
  refine sumQ_congr fun a ha => ?_
  rw [Rat.intCast_mul, Rat.intCast_mul, c_eq (by omega), c_eq (by omega), p_even, p_odd, Rat.intCast_neg, Rat.intCast_natCast]
  grind
theorem rows_at {a i : Nat} (ha : a < ps.length) : ((rowsOf ps).getD a []).getD i 0 = rwA ps a i := by
  unfold rwA pA rowsOf
  rw [List.getD_eq_getElem?_getD (l := ps.map _), List.getElem?_map, List.getD_eq_getElem?_getD (l := ps), List.getElem?_eq_getElem ha]
  rfl
theorem sh_iff {x : Nat → Rat} : Sh (rowsOf ps) wd x ↔ ∀ i, i < 6 → wd.getD i 0 = sumQ ps.length fun a => rwA ps a i * x a := by
  unfold Sh
  rw [List.length_map]
  constructor
  · intro h i hi
    rw [h i hi]
    exact sumQ_congr fun a ha => by rw [rows_at ha]
  · intro h i hi
    rw [h i hi]
    exact sumQ_congr fun a ha => by rw [rows_at ha]
/-- no numbers fall for ever -/
theorem no_ray {m : Nat → Rat} (F : Fits ps m) (y : Nat → Int) (y0 : ∀ j, j < 2 * ps.length → 0 ≤ y j) (hy : ∀ i, i < 6 → (sumN (2 * ps.length) fun j => mA ps i j * y j) = 0) : 0 ≤ sumN (2 * ps.length) fun j => cA ps j * y j := by
  have e : (0 : Rat) ≤ ((sumN (2 * ps.length) fun j => cA ps j * y j : Int) : Rat) := by
    rw [c_sum]
    refine Rat.mul_nonneg (Rat.le_of_lt coin_pos) ?_
    have z : (sumQ ps.length fun a => (scA ps a : Rat) * ((sumQ 6 fun i => rwA ps a i * m i) * ((y (2 * a) : Rat) - (y (2 * a + 1) : Rat)))) = 0 := by
      have e1 : (sumQ ps.length fun a => (scA ps a : Rat) * ((sumQ 6 fun i => rwA ps a i * m i) * ((y (2 * a) : Rat) - (y (2 * a + 1) : Rat)))) = sumQ ps.length fun a => sumQ 6 fun i => m i * (rwA ps a i * ((scA ps a : Rat) * ((y (2 * a) : Rat) - (y (2 * a + 1) : Rat)))) := sumQ_congr fun a _ => by
        rw [← sumQ_mulR, ← sumQ_mul]
        exact sumQ_congr fun i _ => by grind
      rw [e1, sumQ_swap]
      refine sumQ_zero fun i hi => ?_
      rw [sumQ_mul, ← m_sum hi, hy i hi]
      exact Rat.mul_zero _
    rw [← z]
    refine sumQ_le fun a ha => ?_
    obtain ⟨f1, f2⟩ := F a ha
    have s := sc_pos (ps := ps) a
    have u0 : (0 : Rat) ≤ (y (2 * a) : Rat) := by exact_mod_cast y0 _ (by omega)
    have u1 : (0 : Rat) ≤ (y (2 * a + 1) : Rat) := by exact_mod_cast y0 _ (by omega)
    have g1 := Rat.mul_le_mul_of_nonneg_right f2 u0
    have g2 := Rat.mul_le_mul_of_nonneg_right f1 u1
    refine Rat.mul_le_mul_of_nonneg_left ?_ (Rat.le_of_lt s)
    grind
  exact_mod_cast e
/-- shares as whole numbers of the task -/
theorem to_task {x : Nat → Rat} (G : GOk ps wd) (h : Sh (rowsOf ps) wd x) : ∃ (y : Nat → Int) (k : Int), 0 < k ∧ (∀ j, j < 2 * ps.length → 0 ≤ y j) ∧ (∀ i, i < 6 → (sumN (2 * ps.length) fun j => mA ps i j * y j) = k * bA wd i) ∧
    ((sumN (2 * ps.length) fun j => cA ps j * y j : Int) : Rat) = (coinA ps : Rat) * ((k : Rat) * ((lcmL wd : Rat) * worth ps x)) := by
  let z : Nat → Rat := fun a => x a * (lcmL wd : Rat) / (scA ps a : Rat)
  let k : Nat := lcmL (rg ps.length z)
  have kz : ∀ a, a < ps.length → ((ovr k (z a) : Int) : Rat) = z a * (k : Rat) := fun a ha => ovr_eq (lcmL_dvd (mem_rg.mpr ⟨a, ha, rfl⟩))
  have kp : 0 < k := lcmL_pos _
  have kq : (0 : Rat) < (k : Rat) := by exact_mod_cast kp
  have sz : ∀ a, (scA ps a : Rat) * z a = x a * (lcmL wd : Rat) := fun a => by
    have := sc_pos (ps := ps) a
    show (scA ps a : Rat) * (x a * (lcmL wd : Rat) / (scA ps a : Rat)) = _
    grind
  let y : Nat → Int := fun j => if j % 2 = 0 then max (ovr k (z (j / 2))) 0 else max (-ovr k (z (j / 2))) 0
  have y2 : ∀ a, y (2 * a) = max (ovr k (z a)) 0 := fun a => by
    show (if 2 * a % 2 = 0 then max (ovr k (z (2 * a / 2))) 0 else _) = _
    rw [if_pos (by omega), show 2 * a / 2 = a by omega]
  have y3 : ∀ a, y (2 * a + 1) = max (-ovr k (z a)) 0 := fun a => by
    show (if (2 * a + 1) % 2 = 0 then _ else max (-ovr k (z ((2 * a + 1) / 2))) 0) = _
    rw [if_neg (by omega), show (2 * a + 1) / 2 = a by omega]
  have yd : ∀ a, a < ps.length → ((y (2 * a) : Int) : Rat) - ((y (2 * a + 1) : Int) : Rat) = z a * (k : Rat) := fun a ha => by
    rw [← Rat.intCast_sub, y2, y3, ← kz a ha]
    congr 1
    omega
  refine ⟨y, (k : Int), by exact_mod_cast kp, fun j _ => ?_, fun i hi => ?_, ?_⟩
  · show 0 ≤ if j % 2 = 0 then max (ovr k (z (j / 2))) 0 else max (-ovr k (z (j / 2))) 0
    split <;> omega
  · have e : ((sumN (2 * ps.length) fun j => mA ps i j * y j : Int) : Rat) = (((k : Int) * bA wd i : Int) : Rat) := by
      rw [m_sum hi, Rat.intCast_mul, b_eq G.wl hi, sh_iff.mp h i hi, Rat.intCast_natCast]
      have e2 : (k : Rat) * ((sumQ ps.length fun a => rwA ps a i * x a) * (lcmL wd : Rat)) = sumQ ps.length fun a => (k : Rat) * (rwA ps a i * x a * (lcmL wd : Rat)) := by rw [sumQ_mul, sumQ_mulR]
      rw [e2]
      refine sumQ_congr fun a ha => ?_
      rw [yd a ha]
      have := sz a
      grind
    exact_mod_cast e
  · rw [c_sum]
    congr 1
    unfold worth
    rw [← sumQ_mul, ← sumQ_mul, Rat.intCast_natCast]
    refine sumQ_congr fun a ha => ?_
    have s1 := sz a
    have sp := sc_pos (ps := ps) a
    have lp := size_pos (wd := wd)
    have kk := kz a ha
    rw [y2, y3]
    by_cases q : 0 < x a
    · rw [if_pos q]
      have zp : 0 < z a := by
        have : 0 < (scA ps a : Rat) * z a := by rw [s1]; exact Rat.mul_pos q lp
        refine Rat.not_le.mp fun w => ?_
        have := Rat.mul_nonneg (Rat.le_of_lt sp) (show (0 : Rat) ≤ -z a by grind)
        grind
      have op : (0 : Rat) < ((ovr k (z a) : Int) : Rat) := by rw [kk]; exact Rat.mul_pos zp kq
      have oi : 0 < ovr k (z a) := by exact_mod_cast op
      rw [show max (ovr k (z a)) 0 = ovr k (z a) by omega, show max (-ovr k (z a)) 0 = 0 by omega, kk]
      have : ((0 : Int) : Rat) = 0 := rfl
      rw [this]
      grind
    · rw [if_neg q]
      have zp : z a ≤ 0 := by
        refine Rat.not_lt.mp fun w => ?_
        have := Rat.mul_pos sp w
        rw [s1] at this
        have h0 : x a * (lcmL wd : Rat) ≤ 0 := by
          have := Rat.mul_nonneg (show (0 : Rat) ≤ -x a by grind) (Rat.le_of_lt lp)
          grind
        grind
      have op : ((ovr k (z a) : Int) : Rat) ≤ 0 := by
        rw [kk]
        have := Rat.mul_nonneg (show (0 : Rat) ≤ -z a by grind) (Rat.le_of_lt kq)
        grind
      have oi : ovr k (z a) ≤ 0 := by exact_mod_cast op
      rw [show max (ovr k (z a)) 0 = 0 by omega, show max (-ovr k (z a)) 0 = -ovr k (z a) by omega, Rat.intCast_neg, kk]
      have : ((0 : Int) : Rat) = 0 := rfl
      rw [this]
      grind
/-- the shares that the task's numbers tell -/
def shA (ps : List Pin) (wd : List Rat) (d : Int) (v : Nat → Int) (a : Nat) : Rat := Rat.divInt ((v (2 * a) - v (2 * a + 1)) * ((scA ps a : Nat) : Int)) (d * ((lcmL wd : Nat) : Int))
theorem shA_eq {d : Int} {v : Nat → Int} (a : Nat) : shA ps wd d v a = ((v (2 * a) : Rat) - (v (2 * a + 1) : Rat)) * (scA ps a : Rat) / ((d : Rat) * (lcmL wd : Rat)) := by
  unfold shA
  rw [Rat.divInt_eq_div, Rat.intCast_mul, Rat.intCast_mul, Rat.intCast_sub, Rat.intCast_natCast, Rat.intCast_natCast]
theorem shA_mul {d : Int} {v : Nat → Int} (hd : 0 < d) (a : Nat) : shA ps wd d v a * ((d : Rat) * (lcmL wd : Rat)) = ((v (2 * a) : Rat) - (v (2 * a + 1) : Rat)) * (scA ps a : Rat) := by
  have dq : (0 : Rat) < (d : Rat) := by exact_mod_cast hd
  have lp := size_pos (wd := wd)
  have dl := Rat.mul_pos dq lp
  have ne : (d : Rat) * (lcmL wd : Rat) ≠ 0 := by grind
  rw [shA_eq]
  exact Rat.div_mul_cancel ne
theorem sh_of {d : Int} {v : Nat → Int} (G : GOk ps wd) (hd : 0 < d) (hv : ∀ i, i < 6 → (sumN (2 * ps.length) fun j => mA ps i j * v j) = d * bA wd i) : Sh (rowsOf ps) wd (shA ps wd d v) := by
  refine sh_iff.mpr fun i hi => ?_
  have dq : (0 : Rat) < (d : Rat) := by exact_mod_cast hd
  have lp := size_pos (wd := wd)
  have e := m_sum (ps := ps) hi v
  rw [hv i hi, Rat.intCast_mul, b_eq G.wl hi] at e
  have e2 : (sumQ ps.length fun a => rwA ps a i * shA ps wd d v a) * ((d : Rat) * (lcmL wd : Rat)) = sumQ ps.length fun a => rwA ps a i * ((scA ps a : Rat) * ((v (2 * a) : Rat) - (v (2 * a + 1) : Rat))) := by
    rw [← sumQ_mulR]
    refine sumQ_congr fun a _ => ?_
    have := shA_mul (ps := ps) (wd := wd) (v := v) hd a
    grind
  rw [← e] at e2
  have : ((sumQ ps.length fun a => rwA ps a i * shA ps wd d v a) - wd.getD i 0) * ((d : Rat) * (lcmL wd : Rat)) = 0 := by grind
  rcases Rat.mul_eq_zero.mp this with z | z
  · grind
  · rcases Rat.mul_eq_zero.mp z with z | z
    · grind
    · grind
theorem worth_of {d : Int} {v : Nat → Int} (hd : 0 < d) (v0 : ∀ j, j < 2 * ps.length → 0 ≤ v j) (op : ∀ a, a < ps.length → v (2 * a) = 0 ∨ v (2 * a + 1) = 0) :
    ((sumN (2 * ps.length) fun j => cA ps j * v j : Int) : Rat) = (coinA ps : Rat) * ((d : Rat) * ((lcmL wd : Rat) * worth ps (shA ps wd d v))) := by
  have dq : (0 : Rat) < (d : Rat) := by exact_mod_cast hd
  have lp := size_pos (wd := wd)
  rw [c_sum]
  congr 1
  unfold worth
  rw [← sumQ_mul, ← sumQ_mul]
  refine sumQ_congr fun a ha => ?_
  have e : shA ps wd d v a * ((d : Rat) * (lcmL wd : Rat)) = ((v (2 * a) : Rat) - (v (2 * a + 1) : Rat)) * (scA ps a : Rat) := shA_mul hd a
  have sp := sc_pos (ps := ps) a
  have dl := Rat.mul_pos dq lp
  have u0 : (0 : Rat) ≤ (v (2 * a) : Rat) := by exact_mod_cast v0 _ (by omega)
  have u1 : (0 : Rat) ≤ (v (2 * a + 1) : Rat) := by exact_mod_cast v0 _ (by omega)
  generalize shA ps wd d v a = s at *
  rcases op a ha with z | z
  · have z' : ((v (2 * a) : Int) : Rat) = 0 := by rw [z]; rfl
    rw [z'] at e ⊢
    have np : ¬ 0 < s := fun w => by
      have h1 := Rat.mul_pos w dl
      have h2 := Rat.mul_nonneg u1 (Rat.le_of_lt sp)
      grind
    rw [if_neg np]
    grind
  · have z' : ((v (2 * a + 1) : Int) : Rat) = 0 := by rw [z]; rfl
    rw [z'] at e ⊢
    by_cases w : 0 < s
    · rw [if_pos w]; grind
    · rw [if_neg w]
      have h2 := Rat.mul_nonneg u0 (Rat.le_of_lt sp)
      have h3 := Rat.mul_nonneg (show (0 : Rat) ≤ -s by grind) (Rat.le_of_lt dl)
      have h4 : s * ((d : Rat) * (lcmL wd : Rat)) = 0 := by grind
      have h5 : (v (2 * a) : Rat) * (scA ps a : Rat) = 0 := by grind
      have h6 : (v (2 * a) : Rat) = 0 := by
        rcases Rat.mul_eq_zero.mp h5 with y | y
        · exact y
        · grind
      have h7 : s = 0 := by
        rcases Rat.mul_eq_zero.mp h4 with y | y
        · exact y
        · grind
      rw [h6, h7]; grind
end
end SV
namespace SV
/-! sizes of a gauge's task -/
theorem foldl_lcm_le {k : Nat} : ∀ {qs : List Rat} {f a : Nat}, f ≤ 2 ^ a → (∀ q, q ∈ qs → q.den ≤ 2 ^ k) → qs.foldl (fun l q => Nat.lcm l q.den) f ≤ 2 ^ (a + k * qs.length)
  | [], f, a, h, _ => by simpa using h
  | q :: qs, f, a, h, hq => by
    have h1 : Nat.lcm f q.den ≤ 2 ^ (a + k) := by
      rw [Nat.pow_add]
      refine Nat.le_trans ?_ (Nat.mul_le_mul h (hq q (by simp)))
      unfold Nat.lcm
      exact Nat.div_le_self _ _
    have := foldl_lcm_le (qs := qs) h1 fun p hp => hq p (by simp [hp])
    rw [show a + k * (q :: qs).length = a + k + k * qs.length by rw [List.length_cons, Nat.mul_succ]; omega]
    exact this
theorem lcmL_le_pow {k : Nat} {qs : List Rat} (h : ∀ q, q ∈ qs → q.den ≤ 2 ^ k) : lcmL qs ≤ 2 ^ (k * qs.length) := by
  have := foldl_lcm_le (a := 0) (f := 1) (Nat.le_refl _) h
  rw [Nat.zero_add] at this
  exact this
theorem ovr_abs {L : Nat} {q : Rat} : (ovr L q).natAbs ≤ q.num.natAbs * L := by
  unfold ovr
  rw [Int.natAbs_mul]
  refine Nat.mul_le_mul_left _ ?_
  rw [← Int.natCast_ediv, Int.natAbs_natCast]
  exact Nat.div_le_self _ _
theorem den_int_mul {n : Int} {q : Rat} : ((n : Rat) * q).den ∣ q.den := by
  refine den_dvd.mpr ⟨n * q.num, ?_⟩
  have h1 := den_ne q
  have e1 := rat_dv q
  rw [Rat.intCast_natCast] at h1 e1
  rw [Rat.intCast_mul]
  grind
theorem sz_int {n : Int} {k : Nat} (h : n.natAbs < 2 ^ k) (hk : 0 < k) : Sz k (n : Rat) := ⟨by
  show (Rat.num (n : Rat)).natAbs < _
  rw [Rat.num_intCast]; exact h, by rw [Rat.den_intCast]; exact Nat.one_lt_two_pow (by omega)⟩
section
variable {ps : List Pin} {wd : List Rat}
theorem GOk.row (G : GOk ps wd) {a : Nat} (ha : a < ps.length) {q : Rat} (h : q ∈ (pA ps a).row) : Rb q := G.rb _ (pA_mem ha) q h
theorem GOk.sc (G : GOk ps wd) {a : Nat} (ha : a < ps.length) : scA ps a ≤ 12 ^ 12 := lcm_le fun q hq => G.row ha hq
theorem GOk.mA (G : GOk ps wd) {i j : Nat} (hi : i < 6) (hj : j < 2 * ps.length) : (mA ps i j).natAbs ≤ 2 ^ 84 := by
  have ha : j / 2 < ps.length := by omega
  have := ovr_le (G.row ha (rw_mem (ps := ps) (a := j / 2) hi)) (lcmL_dvd (rw_mem hi)) (G.sc ha)
  unfold SV.mA
  split
  · exact this
  · rw [Int.natAbs_neg]; exact this
theorem GOk.bA (G : GOk ps wd) {i : Nat} (hi : i < 6) : (bA wd i).natAbs ≤ 2 ^ 84 := by
  have hm : wd.getD i 0 ∈ wd := getD_mem (by rw [G.wl]; exact hi)
  exact ovr_le (G.wb _ hm) (lcmL_dvd hm) (lcm_le G.wb)
theorem GOk.col (G : GOk ps wd) (j : Nat) {x : Nat} (hx : x < 6) : (colF 6 (2 * ps.length) (SV.mA ps) (SV.bA wd) j x).natAbs ≤ 2 ^ 90 := by
  unfold colF
  have w : (2 : Nat) ^ 84 ≤ 2 ^ 90 := by decide
  split
  · rw [Int.natAbs_mul, sgA_abs, Nat.one_mul]
    exact Nat.le_trans (G.mA hx (by assumption)) w
  · split
    · split
      · decide
      · decide
    · rw [Int.natAbs_mul, sgA_abs, Nat.one_mul]
      exact Nat.le_trans (G.bA hx) w
theorem GOk.den (G : GOk ps wd) {q : Rat} (h : q ∈ rg (2 * ps.length) (prA ps)) : q.den ≤ 2 ^ 60 := by
  obtain ⟨j, hj, rfl⟩ := mem_rg.mp h
  have ha : j / 2 < ps.length := by omega
  have sl := G.sl _ (pA_mem ha)
  unfold prA
  split
  · exact Nat.le_trans (Nat.le_of_dvd (Rat.den_pos _) den_int_mul) (Nat.le_of_lt sl.2.2)
  · exact Nat.le_trans (Nat.le_of_dvd (Rat.den_pos _) den_int_mul) (Nat.le_of_lt sl.1.2)
theorem GOk.coin (G : GOk ps wd) : coinA ps ≤ 2 ^ 960 := by
  refine Nat.le_trans (lcmL_le_pow fun q hq => G.den hq) (Nat.pow_le_pow_right (by decide) ?_)
  have := G.n
  simp [rg]
  omega
theorem GOk.pr (G : GOk ps wd) {j : Nat} (hj : j < 2 * ps.length) : Sz 104 (prA ps j) := by
  have ha : j / 2 < ps.length := by omega
  have sl := G.sl _ (pA_mem ha)
  have sc := G.sc ha
  have s1 : ((scA ps (j / 2) : Nat) : Int).natAbs < 2 ^ 44 := by
    rw [Int.natAbs_natCast]; exact Nat.lt_of_le_of_lt sc (by decide)
  unfold prA
  split
  · exact (sz_int s1 (by decide)).mul sl.2 (by decide)
  · exact (sz_int (by rw [Int.natAbs_neg]; exact s1) (by decide)).mul sl.1 (by decide)
theorem GOk.cA (G : GOk ps wd) {j : Nat} (hj : j < 2 * ps.length) : (cA ps j).natAbs ≤ 2 ^ 1064 := by
  refine Nat.le_trans ovr_abs ?_
  rw [show 2 ^ 1064 = 2 ^ 104 * 2 ^ 960 from by rw [← Nat.pow_add]]
  exact Nat.mul_le_mul (Nat.le_of_lt (G.pr hj).1) G.coin
theorem n1 : fact 6 * (2 ^ 90) ^ 6 < 2 ^ 550 := by decide +kernel
theorem n2 : fact 6 * (2 ^ 90) ^ 6 * 2 ^ 1064 + 6 * (2 ^ 1064 * (6 * (2 ^ 90 * (fact 6 * (2 ^ 90) ^ 6)))) < 2 ^ 8000 := by decide +kernel
theorem n3 : fact 6 * (2 ^ 90) ^ 6 * 1 + 6 * (1 * (6 * (2 ^ 90 * (fact 6 * (2 ^ 90) ^ 6)))) < 2 ^ 8000 := by decide +kernel
theorem lift8 {x k : Nat} (h : x < 2 ^ k) (l : k ≤ 8000) : x < 2 ^ 8000 := Nat.lt_of_lt_of_le h (Nat.pow_le_pow_right (by decide) l)
theorem GOk.szd1 (G : GOk ps wd) : Szd 6 (2 * ps.length + 6) (colF 6 (2 * ps.length) (SV.mA ps) (SV.bA wd)) (c1F 6 (2 * ps.length)) 8000 :=
  ⟨2 ^ 90, 1, Nat.two_pow_pos _, fun j _ x hx => G.col j hx, fun j _ => by unfold c1F; split; decide; split <;> decide, lift8 n1 (by decide), lift8 fB' (by decide), n3⟩
theorem GOk.szd2 (G : GOk ps wd) {c : Nat → Int} (hc : ∀ j, (c j).natAbs ≤ 2 ^ 1064) : Szd 6 (2 * ps.length + 6) (colF 6 (2 * ps.length) (SV.mA ps) (SV.bA wd)) c 8000 :=
  ⟨2 ^ 90, 2 ^ 1064, Nat.two_pow_pos _, fun j _ x hx => G.col j hx, fun j _ => hc j, lift8 n1 (by decide), lift8 fB' (by decide), n2⟩
/-- what the task's end gives -/
structure Best (ps : List Pin) (wd : List Rat) (w : Nat → Rat) : Prop where
  sh : Sh (rowsOf ps) wd w
  opt : ∀ x, Sh (rowsOf ps) wd x → worth ps w ≤ worth ps x
  sz : ∀ a, a < ps.length → Sz 700 (w a)
  wz : Sz 1900 (worth ps w)
section
variable {d : Int} {v : Nat → Int} {s : St} {cc : Nat → Int}
theorem end_bd (G : GOk ps wd) (P : PInv 6 (2 * ps.length) (2 * ps.length + 6) (colF 6 (2 * ps.length) (SV.mA ps) (SV.bA wd)) cc s) (hv : ∀ j, v j = valF 6 s (fun k => s.t k (2 * ps.length + 6)) j) : s.d.natAbs < 2 ^ 550 ∧ ∀ j, (v j).natAbs < 2 ^ 650 := by
  obtain ⟨ep, T⟩ := P.T
  have q := T.bnd (M := 2 ^ 90) (Mv := 2 ^ 90) (Nat.two_pow_pos _) (fun i hi x hx => G.col _ hx) (fun j hj x hx => G.col j hx)
  refine ⟨Nat.lt_of_le_of_lt q.1 n1, fun j => ?_⟩
  rw [hv j]
  exact valF_abs P (Nat.two_pow_pos _) (fun i hi => Nat.lt_of_le_of_lt (q.2 i hi _ (by omega)) fB') j
theorem worth_dv (hd : 0 < d) (v0 : ∀ j, j < 2 * ps.length → 0 ≤ v j) (op : ∀ a, a < ps.length → v (2 * a) = 0 ∨ v (2 * a + 1) = 0) :
    Rat.divInt (sumN (2 * ps.length) fun j => SV.cA ps j * v j) (d * ((lcmL wd : Nat) : Int) * ((coinA ps : Nat) : Int)) = worth ps (shA ps wd d v) := by
  have e := worth_of (wd := wd) hd v0 op
  have dq : (0 : Rat) < (d : Rat) := by exact_mod_cast hd
  have ne : (d : Rat) * (lcmL wd : Rat) * (coinA ps : Rat) ≠ 0 := by
    have := Rat.mul_pos (Rat.mul_pos dq (size_pos (wd := wd))) (coin_pos (ps := ps))
    grind
  rw [Rat.divInt_eq_div, e, Rat.intCast_mul, Rat.intCast_mul, Rat.intCast_natCast, Rat.intCast_natCast]
  have : (coinA ps : Rat) * ((d : Rat) * ((lcmL wd : Rat) * worth ps (shA ps wd d v))) = worth ps (shA ps wd d v) * ((d : Rat) * (lcmL wd : Rat) * (coinA ps : Rat)) := by grind
  rw [this]
  exact Rat.mul_div_cancel ne
theorem best_of (G : GOk ps wd) (hd : 0 < d) (v0 : ∀ j, j < 2 * ps.length → 0 ≤ v j) (hv : ∀ i, i < 6 → (sumN (2 * ps.length) fun j => SV.mA ps i j * v j) = d * SV.bA wd i)
    (opt : ∀ (y : Nat → Int) (k : Int), (∀ j, j < 2 * ps.length → 0 ≤ y j) → (∀ i, i < 6 → (sumN (2 * ps.length) fun j => SV.mA ps i j * y j) = k * SV.bA wd i) → k * (sumN (2 * ps.length) fun j => SV.cA ps j * v j) ≤ d * sumN (2 * ps.length) fun j => SV.cA ps j * y j)
    (opp : ∀ j j', j < 2 * ps.length → j' < 2 * ps.length → j ≠ j' → (∀ i, i < 6 → SV.mA ps i j' = - SV.mA ps i j) → v j = 0 ∨ v j' = 0)
    (ex : ∃ s : St, (∃ cc, PInv 6 (2 * ps.length) (2 * ps.length + 6) (colF 6 (2 * ps.length) (SV.mA ps) (SV.bA wd)) cc s) ∧ d = s.d ∧ ∀ j, v j = valF 6 s (fun k => s.t k (2 * ps.length + 6)) j) :
    Best ps wd (shA ps wd d v) ∧ d.natAbs < 2 ^ 550 ∧ (∀ j, (v j).natAbs < 2 ^ 650) ∧ ∀ a, a < ps.length → v (2 * a) = 0 ∨ v (2 * a + 1) = 0 := by
  obtain ⟨s, ⟨cc, P⟩, ed, ev⟩ := ex
  obtain ⟨b1, b2⟩ := end_bd G P ev
  rw [← ed] at b1
  have op : ∀ a, a < ps.length → v (2 * a) = 0 ∨ v (2 * a + 1) = 0 := fun a ha => opp _ _ (by omega) (by omega) (by omega) fun i hi => by rw [m_odd, m_even]
  have dq : (0 : Rat) < (d : Rat) := by exact_mod_cast hd
  have lp := size_pos (wd := wd)
  have cp := coin_pos (ps := ps)
  refine ⟨⟨sh_of G hd hv, fun x hx => ?_, fun a ha => ?_, ?_⟩, b1, b2, op⟩
  · obtain ⟨y, k, hk, y0, y1, y2⟩ := to_task G hx
    have o := opt y k y0 y1
    have w := worth_of (wd := wd) hd v0 op
    have oq : ((k : Rat)) * ((sumN (2 * ps.length) fun j => SV.cA ps j * v j : Int) : Rat) ≤ (d : Rat) * ((sumN (2 * ps.length) fun j => SV.cA ps j * y j : Int) : Rat) := by exact_mod_cast o
    rw [w, y2] at oq
    have kq : (0 : Rat) < (k : Rat) := by exact_mod_cast hk
    have pos := Rat.mul_pos (Rat.mul_pos kq cp) (Rat.mul_pos dq lp)
    refine Rat.not_lt.mp fun z => ?_
    have := Rat.mul_pos pos (show (0 : Rat) < worth ps (shA ps wd d v) - worth ps x by grind)
    grind
  · have sc := G.sc ha
    have sz : lcmL wd ≤ 12 ^ 12 := lcm_le G.wb
    refine Sz.of_dv (Int.mul_ne_zero (by omega) (by have := lcmL_pos wd; omega)) ?_ ?_
    · rw [Int.natAbs_mul, Int.natAbs_natCast]
      have h1 : (v (2 * a) - v (2 * a + 1)).natAbs < 2 ^ 651 := by
        have := b2 (2 * a)
        have := b2 (2 * a + 1)
        rw [Nat.pow_succ]
        omega
      refine Nat.lt_of_lt_of_le (Nat.mul_lt_mul'' h1 (Nat.lt_of_le_of_lt sc (by decide : 12 ^ 12 < 2 ^ 44))) ?_
      rw [← Nat.pow_add]
      exact Nat.pow_le_pow_right (by decide) (by decide)
    · rw [Int.natAbs_mul, Int.natAbs_natCast]
      refine Nat.lt_of_lt_of_le (Nat.mul_lt_mul'' b1 (Nat.lt_of_le_of_lt sz (by decide : 12 ^ 12 < 2 ^ 44))) ?_
      rw [← Nat.pow_add]
      exact Nat.pow_le_pow_right (by decide) (by decide)
  · rw [← worth_dv (wd := wd) hd v0 op]
    have sz : lcmL wd ≤ 12 ^ 12 := lcm_le G.wb
    have cn := G.coin
    refine Sz.of_dv (Int.mul_ne_zero (Int.mul_ne_zero (by omega) (by have := lcmL_pos wd; omega)) (by have := lcmL_pos (rg (2 * ps.length) (prA ps)); unfold coinA; omega)) ?_ ?_
    · have h1 : (sumN (2 * ps.length) fun j => SV.cA ps j * v j).natAbs ≤ 2 * ps.length * (2 ^ 1064 * 2 ^ 650) := sumN_abs fun j hj => by
        rw [Int.natAbs_mul]
        exact Nat.mul_le_mul (G.cA hj) (Nat.le_of_lt (b2 j))
      refine Nat.lt_of_le_of_lt h1 ?_
      refine Nat.lt_of_le_of_lt (Nat.mul_le_mul_right _ (show 2 * ps.length ≤ 2 ^ 4 by have := G.n; omega)) ?_
      rw [← Nat.pow_add, ← Nat.pow_add]
      exact Nat.pow_lt_pow_right (by decide) (by decide)
    · rw [Int.natAbs_mul, Int.natAbs_mul, Int.natAbs_natCast, Int.natAbs_natCast]
      have h1 := Nat.mul_lt_mul'' b1 (Nat.lt_of_le_of_lt sz (by decide : 12 ^ 12 < 2 ^ 44))
      refine Nat.lt_of_lt_of_le (Nat.mul_lt_mul'' h1 (Nat.lt_of_le_of_lt cn (Nat.pow_lt_pow_right (by decide) (by decide : 960 < 961)))) ?_
      rw [← Nat.pow_add, ← Nat.pow_add]
      exact Nat.pow_le_pow_right (by decide) (by decide)
end
/-- no numbers at all -/
theorem none_of {x : Nat → Rat} (G : GOk ps wd) (h : ∀ (y : Nat → Int) (k : Int), 0 < k → (∀ j, j < 2 * ps.length → 0 ≤ y j) → (∀ i, i < 6 → (sumN (2 * ps.length) fun j => SV.mA ps i j * y j) = k * SV.bA wd i) → False) : ¬ Sh (rowsOf ps) wd x := fun hx => by
  obtain ⟨y, k, hk, y0, y1, _⟩ := to_task G hx
  exact h y k hk y0 y1
end
end SV
namespace SV
/-- one turn of the common part's search -/
structure Eu (up low i one two : Nat) : Prop where
  g : Nat.gcd one two = Nat.gcd up low
  b : two * 2 ^ (i / 2) ≤ low
  c : 0 < i → two < one ∧ one * 2 ^ ((i - 1) / 2) ≤ low
theorem Eu.init (up low : Nat) : Eu up low 0 up low := ⟨rfl, by omega, fun h => by omega⟩
theorem half_mod {a b : Nat} (hb : 0 < b) (h : b ≤ a) : 2 * (a % b) ≤ a := by
  have h1 := Nat.mod_lt a hb
  have h2 := Nat.div_add_mod a b
  have h3 : 0 < a / b := Nat.div_pos h hb
  have h4 : b * 1 ≤ b * (a / b) := Nat.mul_le_mul_left b h3
  omega
theorem Eu.step {up low i one two : Nat} (E : Eu up low i one two) (h : two ≠ 0) : Eu up low (i + 1) two (one % two) := by
  have hp : 0 < two := by omega
  refine ⟨?_, ?_, fun _ => ⟨Nat.mod_lt _ hp, ?_⟩⟩
  · rw [← E.g, Nat.gcd_comm two, ← Nat.gcd_rec, Nat.gcd_comm]
  · rcases Nat.eq_zero_or_pos i with rfl | hi
    · have h1 := Nat.mod_lt one hp
      have h2 := E.b
      simp only [Nat.zero_div, Nat.pow_zero, Nat.mul_one] at h2
      simp
      omega
    · obtain ⟨h1, h2⟩ := E.c hi
      rw [show (i + 1) / 2 = (i - 1) / 2 + 1 by omega, Nat.pow_succ, ← Nat.mul_assoc]
      refine Nat.le_trans ?_ h2
      rw [Nat.mul_right_comm]
      exact Nat.mul_le_mul_right _ (by have := half_mod hp (Nat.le_of_lt h1); omega)
  · rw [show i + 1 - 1 = i by omega]
    exact E.b
theorem Eu.done {up low i one two k : Nat} (E : Eu up low i one two) (h : low < 2 ^ k) (hi : 2 * k ≤ i) : two = 0 := by
  have h1 := E.b
  have h2 : 2 ^ k ≤ 2 ^ (i / 2) := Nat.pow_le_pow_right (by decide) (by omega)
  rcases Nat.eq_zero_or_pos two with h | h3
  · exact h
  · have h4 : 1 * 2 ^ (i / 2) ≤ two * 2 ^ (i / 2) := Nat.mul_le_mul_right _ h3
    omega
theorem abs_nat (i : Int) : (if i < 0 then -i else i) = ((i.natAbs : Nat) : Int) := by split <;> omega
theorem lean_eq {up low : Int} {one : Nat} (h : low ≠ 0) (e : one = Nat.gcd up.natAbs low.natAbs) :
    (0 < low → up / (one : Int) = (Rat.divInt up low).num ∧ low / (one : Int) = ((Rat.divInt up low).den : Int)) ∧ (¬ 0 < low → (0 - up) / (one : Int) = (Rat.divInt up low).num ∧ (0 - low) / (one : Int) = ((Rat.divInt up low).den : Int)) := by
  have eg : one = Int.gcd low up := by rw [e, Nat.gcd_comm]; rfl
  subst eg
  constructor
  · intro h1
    have := dv_num (s := 1) (n := up) (d := low) (.inl ⟨rfl, h1⟩)
    rw [Int.one_mul, Int.one_mul] at this
    exact this
  · intro h1
    have := dv_num (s := -1) (n := up) (d := low) (.inr ⟨rfl, by omega⟩)
    rw [show -1 * up = 0 - up by omega, show -1 * low = 0 - low by omega] at this
    exact this
/-- a sum of products, over one -/
structure Sm (f h : Nat → Rat) (i : Nat) (up low : Int) : Prop where
  z : low ≠ 0
  e : (up : Rat) = sumQ i (fun k => f k * h k) * (low : Rat)
  lb : low.natAbs ≤ 2 ^ (1000 * i)
  ub : up.natAbs ≤ 2 ^ (1001 * i)
theorem Sm.init (f h : Nat → Rat) : Sm f h 0 0 1 := ⟨by decide, by show ((0 : Int) : Rat) = 0 * _; grind, Nat.le_refl _, Nat.zero_le _⟩
theorem Sm.step {f h : Nat → Rat} {i k1 k2 : Nat} {up low : Int} (S : Sm f h i up low) (h1 : Sz k1 (f i)) (h2 : Sz k2 (h i)) (hk : k1 + k2 ≤ 1000) :
    Sm f h (i + 1) (up * (((f i).den : Int) * ((h i).den : Int)) + (f i).num * (h i).num * low) (low * (((f i).den : Int) * ((h i).den : Int))) := by
  have d1 := den_ne (f i)
  have d2 := den_ne (h i)
  have z1 : ((f i).den : Int) ≠ 0 := by exact_mod_cast (f i).den_nz
  have z2 : ((h i).den : Int) ≠ 0 := by exact_mod_cast (h i).den_nz
  have ud : (((f i).den : Int) * ((h i).den : Int)).natAbs ≤ 2 ^ 1000 := by
    rw [Int.natAbs_mul, Int.natAbs_natCast, Int.natAbs_natCast]
    refine Nat.le_trans (Nat.mul_le_mul (Nat.le_of_lt h1.2) (Nat.le_of_lt h2.2)) ?_
    rw [← Nat.pow_add]
    exact Nat.pow_le_pow_right (by decide) hk
  have un : ((f i).num * (h i).num).natAbs ≤ 2 ^ 1000 := by
    rw [Int.natAbs_mul]
    refine Nat.le_trans (Nat.mul_le_mul (Nat.le_of_lt h1.1) (Nat.le_of_lt h2.1)) ?_
    rw [← Nat.pow_add]
    exact Nat.pow_le_pow_right (by decide) hk
  refine ⟨Int.mul_ne_zero S.z (Int.mul_ne_zero z1 z2), ?_, ?_, ?_⟩
  · have e1 := rat_dv (f i)
    have e2 := rat_dv (h i)
    have := S.e
    simp only [sumQ, Rat.intCast_add, Rat.intCast_mul]
    rw [this]
    grind
  · rw [Int.natAbs_mul, show 1000 * (i + 1) = 1000 * i + 1000 by omega, Nat.pow_add]
    exact Nat.mul_le_mul S.lb ud
  · refine Nat.le_trans (Int.natAbs_add_le _ _) ?_
    rw [Int.natAbs_mul up, Int.natAbs_mul (_ * _) low]
    have t1 := Nat.mul_le_mul S.ub ud
    have t2 := Nat.mul_le_mul un S.lb
    rw [← Nat.pow_add] at t1 t2
    have t3 : 2 ^ (1000 + 1000 * i) ≤ 2 ^ (1001 * i + 1000) := Nat.pow_le_pow_right (by decide) (by omega)
    rw [show 1001 * (i + 1) = 1001 * i + 1000 + 1 by omega, Nat.pow_succ]
    omega
theorem Sm.fin {f h : Nat → Rat} {i : Nat} {up low : Int} (S : Sm f h i up low) : Rat.divInt up low = sumQ i fun k => f k * h k := by
  have := icast_ne S.z
  rw [Rat.divInt_eq_div, S.e]
  grind
/-- the product of what is below -/
def denP (q : Nat → Rat) : Nat → Nat
  | 0 => 1
  | i + 1 => denP q i * (q i).den
theorem denP_pos (q : Nat → Rat) : ∀ i, 0 < denP q i
  | 0 => Nat.one_pos
  | i + 1 => Nat.mul_pos (denP_pos q i) (q i).den_pos
theorem denP_dvd {q : Nat → Rat} {i : Nat} : ∀ {n : Nat}, i < n → (q i).den ∣ denP q n
  | 0, h => by omega
  | n + 1, h => by
    show _ ∣ denP q n * (q n).den
    rcases Nat.lt_succ_iff_lt_or_eq.mp h with h | rfl
    · exact Nat.dvd_trans (denP_dvd h) (Nat.dvd_mul_right _ _)
    · exact Nat.dvd_mul_left _ _
theorem denP_le {q : Nat → Rat} {k : Nat} : ∀ {n : Nat}, (∀ i, i < n → Sz k (q i)) → denP q n ≤ 2 ^ (k * n)
  | 0, _ => by show 1 ≤ 2 ^ (k * 0); simp
  | n + 1, h => by
    show denP q n * (q n).den ≤ _
    rw [Nat.mul_succ, Nat.pow_add]
    exact Nat.mul_le_mul (denP_le fun i hi => h i (by omega)) (Nat.le_of_lt (h n (by omega)).2)
/-- a row over one -/
def clr (q : Nat → Rat) (i : Nat) : Int := ovr (denP q 6) (q i)
theorem clr_eq {q : Nat → Rat} {i : Nat} (h : i < 6) : ((clr q i : Int) : Rat) = q i * (denP q 6 : Rat) := ovr_eq (denP_dvd h)
theorem clr_abs {q : Nat → Rat} (h : ∀ i, i < 6 → Sz 90 (q i)) {i : Nat} (hi : i < 6) : (clr q i).natAbs < 2 ^ 640 := by
  refine Nat.lt_of_le_of_lt (ovr_abs) ?_
  refine Nat.lt_of_lt_of_le (Nat.mul_lt_mul_of_lt_of_le (h i hi).1 (denP_le h) (Nat.pow_pos (by decide))) ?_
  rw [← Nat.pow_add]
  exact Nat.pow_le_pow_right (by decide) (by decide)
theorem rk_law {n : Nat} {q : Nat → Nat → Rat} {u : Nat → Rat} : rkN ((List.range n).map fun a => clr (q a)) 6 < rkN ((List.range n).map (fun a => clr (q a)) ++ [clr u]) 6 ↔ ¬ ∃ x : Nat → Rat, ∀ j, j < 6 → u j = sumQ n fun a => q a j * x a := by
  rw [rk_more, spn_iff]
  refine not_congr ⟨fun ⟨x, h⟩ => ?_, fun ⟨x, h⟩ => ?_⟩
  · have up : (0 : Rat) < (denP u 6 : Rat) := by exact_mod_cast denP_pos u 6
    refine ⟨fun a => (denP (q a) 6 : Rat) * x a / (denP u 6 : Rat), fun j hj => ?_⟩
    have e := h j hj
    rw [clr_eq hj] at e
    have e2 : (sumQ n fun a => q a j * ((denP (q a) 6 : Rat) * x a / (denP u 6 : Rat))) = (sumQ n fun a => ((clr (q a) j : Int) : Rat) * x a) * (1 / (denP u 6 : Rat)) := by
      rw [← sumQ_mulR]
      exact sumQ_congr fun a _ => by rw [clr_eq hj]; grind
    rw [e2, ← e]
    grind
  · refine ⟨fun a => x a * (denP u 6 : Rat) / (denP (q a) 6 : Rat), fun j hj => ?_⟩
    rw [clr_eq hj, h j hj, ← sumQ_mulR]
    refine sumQ_congr fun a _ => ?_
    have qp : (0 : Rat) < (denP (q a) 6 : Rat) := by exact_mod_cast denP_pos (q a) 6
    rw [clr_eq hj]
    grind
theorem rkS_len (k : Nat) (R : List (Nat → Int)) : (rkS k R).length ≤ R.length := by
  unfold rkS
  cases h : R.filter fun v => decide (v k ≠ 0) with
  | nil => exact Nat.le_refl _
  | cons f rest =>
    have h1 : (R.filter fun v => decide (v k ≠ 0)).length + (R.filter fun v => decide (v k = 0)).length = R.length := by
      clear h
      induction R with
      | nil => rfl
      | cons v R ih =>
        by_cases z : v k = 0
        · simp [z] at ih ⊢; omega
        · simp [z] at ih ⊢; omega
    rw [h] at h1
    simp only [List.length_append, List.length_map, List.length_cons] at h1 ⊢
    omega
theorem rkR_len (R : List (Nat → Int)) : ∀ i, (rkR R i).length ≤ R.length
  | 0 => Nat.le_refl _
  | i + 1 => Nat.le_trans (rkS_len i _) (rkR_len R i)
theorem rkR_abs {R : List (Nat → Int)} {e : Nat} (h : ∀ r, r ∈ R → ∀ j, j < 6 → (r j).natAbs < 2 ^ e) : ∀ i, i ≤ 6 → ∀ r, r ∈ rkR R i → ∀ j, j < 6 → (r j).natAbs < 2 ^ ((e + 1) * 2 ^ i - 1)
  | 0, _ => fun r hr j hj => Nat.lt_of_lt_of_le (h r hr j hj) (Nat.pow_le_pow_right (by decide) (by simp))
  | i + 1, hi => fun r hr j hj => by
    have e1 : 2 * ((e + 1) * 2 ^ i - 1) + 1 = (e + 1) * 2 ^ (i + 1) - 1 := by
      have : 0 < (e + 1) * 2 ^ i := Nat.mul_pos (by omega) (Nat.pow_pos (by decide))
      rw [Nat.pow_succ, ← Nat.mul_assoc]
      omega
    have := rkS_abs (w := 6) (k := i) (by omega) (rkR_abs h i (by omega)) r hr j hj
    rw [e1] at this
    exact this
theorem rkS_nil {k : Nat} {R : List (Nat → Int)} (h : (R.filter fun v => decide (v k ≠ 0)) = []) : rkS k R = R ∧ rkB k R = 0 := by
  unfold rkS rkB
  rw [h]
  exact ⟨rfl, rfl⟩
theorem rkS_cons {k : Nat} {R : List (Nat → Int)} {f : Nat → Int} {rest : List (Nat → Int)} (h : (R.filter fun v => decide (v k ≠ 0)) = f :: rest) : rkS k R = (R.filter fun v => decide (v k = 0)) ++ (rest.map fun v j => v j * f k - f j * v k) ∧ rkB k R = 1 := by
  unfold rkS rkB
  rw [h]
  exact ⟨rfl, rfl⟩
theorem bq_dv {a b : Int} {N M : Nat} (hb : 0 < b) (h : b ∣ (N : Int)) (h1 : -(M : Int) ≤ a) (h2 : a ≤ (M : Int)) : Bq N M (Rat.divInt a b) := by
  obtain ⟨k, hk⟩ := h
  have bq : (0 : Rat) < (b : Rat) := by exact_mod_cast hb
  have b1 : (1 : Rat) ≤ (b : Rat) := by exact_mod_cast hb
  have m0 : (0 : Rat) ≤ (M : Rat) := by exact_mod_cast Nat.zero_le M
  have e : Rat.divInt a b * (b : Rat) = (a : Rat) := by rw [Rat.divInt_eq_div]; grind
  refine ⟨den_dvd.mpr ⟨a * k, ?_⟩, ?_, ?_⟩
  · have : (N : Rat) = (b : Rat) * (k : Rat) := by
      rw [← Rat.intCast_natCast, hk, Rat.intCast_mul]
    rw [this, Rat.intCast_mul, ← e]
    grind
  · have h3 : ((-(M : Int) : Int) : Rat) ≤ (a : Rat) := by exact_mod_cast h1
    have h4 : -(M : Rat) ≤ (a : Rat) := by rw [Rat.intCast_neg, Rat.intCast_natCast] at h3; exact h3
    have h5 : (M : Rat) * 1 ≤ (M : Rat) * (b : Rat) := Rat.mul_le_mul_of_nonneg_left b1 m0
    refine Rat.le_of_mul_le_mul_right (c := (b : Rat)) ?_ bq
    rw [e]
    grind
  · have h4 : (a : Rat) ≤ (M : Rat) := by exact_mod_cast h2
    have h5 : (M : Rat) * 1 ≤ (M : Rat) * (b : Rat) := Rat.mul_le_mul_of_nonneg_left b1 m0
    refine Rat.le_of_mul_le_mul_right (c := (b : Rat)) ?_ bq
    rw [e]
    grind
theorem bq_int {a : Int} {M : Nat} (h1 : -(M : Int) ≤ a) (h2 : a ≤ (M : Int)) {N : Nat} : Bq N M (a : Rat) := by
  have := bq_dv (a := a) (b := 1) (N := N) (by decide) ⟨N, by omega⟩ h1 h2
  rw [Rat.divInt_eq_div, show (a : Rat) / ((1 : Int) : Rat) = (a : Rat) by rw [show ((1 : Int) : Rat) = 1 from rfl]; grind] at this
  exact this
end SV
namespace SV
/-! the law's end -/
def endB (ps : List Pin) (w : Nat → Rat) (most : Bool) (a : Nat) : Rat := if decide (0 < w a) = most then (pA ps a).hi else (pA ps a).lo
theorem end_most {ps : List Pin} {w : Nat → Rat} : (sumQ ps.length fun a => w a * endB ps w true a) = worth ps w := by
  unfold worth
  refine sumQ_congr fun a _ => ?_
  unfold endB
  by_cases h : 0 < w a
  · rw [decide_eq_true h, if_pos rfl, if_pos h]
  · rw [decide_eq_false h, if_neg (by decide), if_neg h]
theorem end_least {ps : List Pin} {w : Nat → Rat} : (sumQ ps.length fun a => (-w a) * endB ps (fun a => -w a) false a) = -worth ps w := by
  unfold worth
  rw [← sumQ_neg]
  refine sumQ_congr fun a _ => ?_
  unfold endB
  by_cases h : 0 < w a
  · rw [decide_eq_false (show ¬ 0 < -w a by grind), if_pos rfl, if_pos h]
    grind
  · rw [if_neg h]
    by_cases h2 : 0 < -w a
    · rw [decide_eq_true h2, if_neg (by decide)]
      grind
    · have : w a = 0 := by grind
      rw [this]
      grind
theorem neg_neg_fun (x : Nat → Rat) : (fun a => - (fun a => - x a) a) = x := by
  funext a
  show - - x a = x a
  grind
theorem worth_same {ps : List Pin} {wd : List Rat} {w w2 : Nat → Rat} (B : Best ps wd w) (B2 : Best ps wd w2) : worth ps w2 = worth ps w := Rat.le_antisymm (B2.opt w B.sh) (B.opt w2 B2.sh)
theorem fit_le {ps : List Pin} {m : Nat → Rat} (F : Fits ps m) {wd : List Rat} {w : Nat → Rat} (h : Sh (rowsOf ps) wd w) : (sumQ 6 fun i => wd.getD i 0 * m i) ≤ worth ps w := by
  have e : (sumQ 6 fun i => wd.getD i 0 * m i) = sumQ ps.length fun a => w a * sumQ 6 fun i => rwA ps a i * m i := by
    have e1 : (sumQ 6 fun i => wd.getD i 0 * m i) = sumQ 6 fun i => sumQ ps.length fun a => w a * (rwA ps a i * m i) := sumQ_congr fun i hi => by
      rw [h i hi, ← sumQ_mulR, List.length_map]
      refine sumQ_congr fun a ha => ?_
      have : (rowsOf ps).getD a [] = (pA ps a).row := by
        unfold rowsOf pA
        rw [List.getD_eq_getElem?_getD, List.getElem?_map, List.getD_eq_getElem?_getD, List.getElem?_eq_getElem ha]
        rfl
      rw [this]
      unfold rwA
      grind
    rw [e1, sumQ_swap]
    exact sumQ_congr fun a _ => sumQ_mul 6 _ _
  rw [e]
  unfold worth
  refine sumQ_le fun a ha => ?_
  obtain ⟨l1, l2⟩ := F a ha
  by_cases z : 0 < w a
  · rw [if_pos z]
    exact Rat.mul_le_mul_of_nonneg_left l2 (Rat.le_of_lt z)
  · rw [if_neg z]
    have z2 : 0 ≤ - w a := by grind
    have := Rat.mul_le_mul_of_nonneg_left l1 z2
    grind
end SV
set_option maxHeartbeats 2000000
/-! a layer of data over the hand layer -/
namespace Ly
open PySem PySem.Spec PyProof.Rows L2

/-! ### the weakest readings -/
def wE (X : Cx) (e : Expr) : TE := fun σ H Q => ∀ pins s, Inv X pins σ H s → wpAny (model X.prog X.w) X.A (eval e X.env) (EP X pins σ Q) X.xe s
def wT (X : Cx) (e : Expr) : TT := fun σ H Q => ∀ pins s, Inv X pins σ H s → wpAny (model X.prog X.w) X.A (isTrue e X.env (eval e X.env)) (TP X pins σ Q) X.xe s
def wA (X : Cx) (es : List Expr) : TA := fun σ H Q => ∀ pos pins s, Inv X pins σ H s → wpAny (model X.prog X.w) X.A (spliced (backTo pos (starEach es X.env))) (AP X pins σ Q) X.xe s
def wS (X : Cx) (st : Stmt) : TS := fun D σ H => ∀ pins s, Inv X pins σ H s → wpAny (model X.prog X.w) X.A (exec st X.env) (SP X pins D) X.xe s
def wB (X : Cx) (st : List Stmt) : TS := fun D σ H => ∀ pins s, Inv X pins σ H s → wpAny (model X.prog X.w) X.A (execs st X.env) (SP X pins D) X.xe s
theorem wE_pe {X : Cx} {e : Expr} : PE X e (wE X e) := ⟨fun pins s _ _ _ I h => h pins s I⟩
theorem wT_pt {X : Cx} {e : Expr} : PT X e (wT X e) := ⟨fun pins s _ _ _ I h => h pins s I⟩
theorem wA_pa {X : Cx} {es : List Expr} : PA X es (wA X es) := ⟨fun pos pins s _ _ _ I h => h pos pins s I⟩
theorem wS_ps {X : Cx} {st : Stmt} : PS X st (wS X st) := ⟨fun pins s _ _ _ I h => h pins s I⟩
theorem wB_pss {X : Cx} {st : List Stmt} : PSs X st (wB X st) := ⟨fun pins s _ _ _ I h => h pins s I⟩
theorem wE_of {X : Cx} {e : Expr} {t : TE} (h : PE X e t) {σ : L2.St} {H : Hp} {Q : VK} (q : t σ H Q) : wE X e σ H Q := fun pins s I => h.run pins s σ H Q I q
theorem wT_of {X : Cx} {e : Expr} {t : TT} (h : PT X e t) {σ : L2.St} {H : Hp} {Q : Bool → Hp → Prop} (q : t σ H Q) : wT X e σ H Q := fun pins s I => h.run pins s σ H Q I q
theorem wA_of {X : Cx} {es : List Expr} {t : TA} (h : PA X es t) {σ : L2.St} {H : Hp} {Q : List V → Hp → Prop} (q : t σ H Q) : wA X es σ H Q := fun pos pins s I => h.run pos pins s σ H Q I q
theorem wS_of {X : Cx} {st : Stmt} {t : TS} (h : PS X st t) {σ : L2.St} {H : Hp} {D : Ends} (q : t D σ H) : wS X st D σ H := fun pins s I => h.run pins s σ H D I q
theorem wB_of {X : Cx} {st : List Stmt} {t : TS} (h : PSs X st t) {σ : L2.St} {H : Hp} {D : Ends} (q : t D σ H) : wB X st D σ H := fun pins s I => h.run pins s σ H D I q

/-! ### heaps that grow -/
def Ex (H H' : Hp) : Prop := ∀ a o, H a = some o → H' a = some o
theorem Ex.refl (H : Hp) : Ex H H := fun _ _ h => h
theorem Ex.trans {H H1 H2 : Hp} (a : Ex H H1) (b : Ex H1 H2) : Ex H H2 := fun x o h => b x o (a x o h)
theorem Ex.new {H : Hp} {p : Addr} {o : HO} (h : H p = none) : Ex H (upd H p o) := fun a u e => by
  rw [upd_ne (ne_of_none e h)]
  exact e
theorem Ex.upd {I H : Hp} {p : Addr} {o : HO} (e : Ex I H) (h : I p = none) : Ex I (upd H p o) := fun a u ha => by
  rw [upd_ne (ne_of_none ha h)]
  exact e a u ha
theorem Ex.both {I H : Hp} {p : Addr} {o : HO} (e : Ex I H) (h : H p = some o) : Ex (L2.upd I p o) H := fun a u ha => by
  by_cases q : a = p
  · subst q
    rw [upd_same] at ha
    rw [← ha]
    exact h
  · rw [upd_ne q] at ha
    exact e a u ha
theorem Ex.rd {H H' : Hp} {a : Addr} {u : HO} (e : Ex H H') (h : Rd H a u) : Rd H' a u := by
  rcases h with h | ⟨o, h⟩
  · exact Or.inl (e a _ h)
  · exact Or.inr ⟨o, e a _ h⟩
theorem Ex.sql {K : PySem.W.Frag} {H H' : Hp} {a : Addr} {xs : List V} (e : Ex H H') (h : SqL K H a xs) : SqL K H' a xs := by
  rcases h with h | h
  · exact Or.inl (e.rd h)
  · exact Or.inr h
theorem Ex.sqt {K : PySem.W.Frag} {H H' : Hp} {a : Addr} {xs : List V} (e : Ex H H') (h : SqT K H a xs) : SqT K H' a xs := by
  rcases h with h | h
  · exact Or.inl (e.rd h)
  · exact Or.inr h
mutual
theorem Ex.dp {K : PySem.W.Frag} {H H' : Hp} (e : Ex H H') : ∀ {d : PyData} {v : V}, Dp K H v d → Dp K H' v d
  | .none, _, h => by cases h; exact .non
  | .bool _, _, h => by cases h; exact .bl _
  | .int _, _, h => by cases h; exact .int _
  | .str _, _, h => by cases h; exact .str _
  | .list _, _, h => by cases h with | lst a b => exact .lst (e.sql a) (Ex.dpa e b)
  | .tuple _, _, h => by cases h with | tup a b => exact .tup (e.sqt a) (Ex.dpa e b)
  | .dict _, _, h => by cases h
theorem Ex.dpa {K : PySem.W.Frag} {H H' : Hp} (e : Ex H H') : ∀ {ds : List PyData} {vs : List V}, DpAll K H vs ds → DpAll K H' vs ds
  | [], _, h => by cases h; exact .nil
  | _ :: _, _, h => by cases h with | cons a b => exact .cons (Ex.dp e a) (Ex.dpa e b)
end
theorem dpa_len {K : PySem.W.Frag} {H : Hp} : ∀ {ds : List PyData} {vs : List V}, DpAll K H vs ds → vs.length = ds.length
  | [], _, h => by cases h; rfl
  | _ :: _, _, h => by cases h with | cons a b => simp [dpa_len b]
theorem dpa_get {K : PySem.W.Frag} {H : Hp} : ∀ {ds : List PyData} {vs : List V} {i : Nat} {d : PyData}, DpAll K H vs ds → ds[i]? = some d → ∃ v, vs[i]? = some v ∧ Dp K H v d
  | [], _, _, _, _, e => by simp at e
  | _ :: _, _, 0, _, h, e => by
    cases h with
    | cons a b =>
      simp at e
      subst e
      exact ⟨_, by simp, a⟩
  | _ :: _, _, i + 1, _, h, e => by
    cases h with
    | cons a b =>
      obtain ⟨v, h1, h2⟩ := dpa_get b (i := i) (by simpa using e)
      exact ⟨v, by simpa using h1, h2⟩
theorem dpa_at {K : PySem.W.Frag} {H : Hp} {ds : List PyData} {vs : List V} {i : Nat} {v : V} (h : DpAll K H vs ds) (e : vs[i]? = some v) : ∃ d, ds[i]? = some d ∧ Dp K H v d := by
  have hi : i < ds.length := by
    rw [← dpa_len h]
    exact (List.getElem?_eq_some_iff.mp e).1
  obtain ⟨v', h1, h2⟩ := dpa_get h (List.getElem?_eq_getElem hi)
  rw [e] at h1
  cases h1
  exact ⟨_, List.getElem?_eq_getElem hi, h2⟩
theorem dpa_append {K : PySem.W.Frag} {H : Hp} : ∀ {ds es : List PyData} {vs us : List V}, DpAll K H vs ds → DpAll K H us es → DpAll K H (vs ++ us) (ds ++ es)
  | [], _, _, _, h, k => by cases h; exact k
  | _ :: _, _, _, _, h, k => by cases h with | cons a b => exact .cons a (dpa_append b k)
theorem dpa_set {K : PySem.W.Frag} {H : Hp} {v : V} {d : PyData} (q : Dp K H v d) : ∀ {ds : List PyData} {vs : List V} (i : Nat), DpAll K H vs ds → DpAll K H (vs.set i v) (ds.set i d)
  | [], _, _, h => by cases h; exact .nil
  | _ :: _, _, 0, h => by cases h with | cons a b => exact .cons q b
  | _ :: _, _, i + 1, h => by cases h with | cons a b => exact .cons a (dpa_set q i b)
theorem dpa_take {K : PySem.W.Frag} {H : Hp} : ∀ (n : Nat) {ds : List PyData} {vs : List V}, DpAll K H vs ds → DpAll K H (vs.take n) (ds.take n)
  | 0, _, _, _ => by simpa using DpAll.nil
  | _ + 1, [], _, h => by cases h; exact .nil
  | n + 1, _ :: _, _, h => by cases h with | cons a b => exact .cons a (dpa_take n b)
theorem dpa_drop {K : PySem.W.Frag} {H : Hp} : ∀ (n : Nat) {ds : List PyData} {vs : List V}, DpAll K H vs ds → DpAll K H (vs.drop n) (ds.drop n)
  | 0, _, _, h => h
  | _ + 1, [], _, h => by cases h; exact .nil
  | n + 1, _ :: _, _, h => by cases h with | cons a b => exact dpa_drop n b
theorem dpa_ints {K : PySem.W.Frag} {H : Hp} : ∀ (ns : List Int), DpAll K H (ns.map V.int) (ns.map PyData.int)
  | [] => .nil
  | n :: ns => .cons (.int n) (dpa_ints ns)
theorem dpa_ints_inv {K : PySem.W.Frag} {H : Hp} : ∀ {ns : List Int} {vs : List V}, DpAll K H vs (ns.map PyData.int) → vs = ns.map V.int
  | [], _, h => by cases h; rfl
  | n :: ns, _, h => by
    cases h with
    | cons a b =>
      cases a
      rw [dpa_ints_inv b]
      rfl

/-! ### what is known of a frame: data, or a list that this def may write -/
inductive Sl where
  | no | dat (d : PyData) | cel (a : Addr) (xs : List PyData)
abbrev En := List Sl
def Cin (en : En) (b : Addr) : Prop := ∃ (i : Nat) (xs : List PyData), en[i]? = some (Sl.cel b xs)
structure Ok (K : PySem.W.Frag) (σ : L2.St) (I H : Hp) (en : En) : Prop where
  len : en.length = σ.length
  ex : Ex I H
  dat : ∀ (i : Nat) d, en[i]? = some (Sl.dat d) → ∃ v, σ[i]? = some (some v) ∧ Dp K I v d
  cel : ∀ (i : Nat) a xs, en[i]? = some (Sl.cel a xs) → σ[i]? = some (some (V.ref a)) ∧ I a = none ∧ ∃ vs, H a = some (.lst vs) ∧ DpAll K I vs xs
  one : ∀ (i j : Nat) a xs ys, en[i]? = some (Sl.cel a xs) → en[j]? = some (Sl.cel a ys) → i = j
structure Go (en : En) (I H : Hp) (en' : En) (I' H' : Hp) : Prop where
  i : Ex I I'
  h : ∀ b o, H b = some o → ¬ Cin en b → H' b = some o
  n : ∀ b, H b ≠ none → I b = none → ¬ Cin en b → I' b = none
  c : ∀ b, Cin en' b → Cin en b ∨ H b = none
  k : ∀ b, H b ≠ none → H' b ≠ none
theorem Go.refl (en : En) (I H : Hp) : Go en I H en I H := ⟨Ex.refl I, fun _ _ h _ => h, fun _ _ h _ => h, fun _ h => .inl h, fun _ h => h⟩
theorem some_ne {α : Type} {x : Option α} {y : α} (h : x = some y) : x ≠ none := by
  rw [h]
  exact fun z => nomatch z
theorem ne_some {α : Type} {x : Option α} (h : x ≠ none) : ∃ y, x = some y := by
  cases x with
  | none => exact absurd rfl h
  | some y => exact ⟨y, rfl⟩
theorem Go.trans {en en1 en2 : En} {I H I1 H1 I2 H2 : Hp} (a : Go en I H en1 I1 H1) (b : Go en1 I1 H1 en2 I2 H2) : Go en I H en2 I2 H2 := by
  have nc : ∀ b, H b ≠ none → ¬ Cin en b → ¬ Cin en1 b := fun b hb hn hc => by
    rcases a.c b hc with q | q
    · exact hn q
    · exact hb q
  refine ⟨a.i.trans b.i, fun x o hx hn => b.h x o (a.h x o hx hn) (nc x (some_ne hx) hn), fun x hx hi hn => ?_, fun x hx => ?_, fun x hx => b.k x (a.k x hx)⟩
  · obtain ⟨o, ho⟩ := ne_some hx
    exact b.n x (some_ne (a.h x o ho hn)) (a.n x hx hi hn) (nc x hx hn)
  · rcases b.c x hx with q | q
    · exact a.c x q
    · by_cases c : Cin en x
      · exact .inl c
      · refine .inr ?_
        cases e : H x with
        | none => rfl
        | some o =>
          rw [a.h x o e c] at q
          cases q
/-- a new list that is not shared -/
structure Nw (K : PySem.W.Frag) (en : En) (I H : Hp) (H0 : Hp) (v : V) (a : Addr) (xs : List PyData) : Prop where
  ref : v = .ref a
  i : I a = none
  c : ¬ Cin en a
  f : H0 a = none
  l : ∃ vs, H a = some (.lst vs) ∧ DpAll K I vs xs
theorem Ok.mono {K : PySem.W.Frag} {σ : L2.St} {I H : Hp} {en : En} (k : Ok K σ I H en) {I' H' : Hp} (e : Ex I I') (x : Ex I' H') (hc : ∀ b, Cin en b → I' b = none ∧ H' b = H b) : Ok K σ I' H' en :=
  ⟨k.len, x, fun i d h => let ⟨v, h1, h2⟩ := k.dat i d h; ⟨v, h1, e.dp h2⟩, fun i a xs h => let ⟨h1, h2, vs, h3, h4⟩ := k.cel i a xs h; ⟨h1, (hc a ⟨i, xs, h⟩).1, vs, by rw [(hc a ⟨i, xs, h⟩).2, h3], e.dpa h4⟩, k.one⟩
theorem Ok.cin {K : PySem.W.Frag} {σ : L2.St} {I H : Hp} {en : En} (k : Ok K σ I H en) {b : Addr} (h : Cin en b) : I b = none ∧ H b ≠ none := by
  obtain ⟨i, xs, h⟩ := h
  obtain ⟨_, h2, vs, h3, _⟩ := k.cel i b xs h
  exact ⟨h2, some_ne h3⟩
/-- a new object, at once among what never changes -/
theorem Ok.lay {K : PySem.W.Frag} {σ : L2.St} {I H : Hp} {en : En} (k : Ok K σ I H en) {p : Addr} {o : HO} (hp : H p = none) : Ok K σ (upd I p o) (upd H p o) en ∧ Go en I H en (upd I p o) (upd H p o) := by
  have ip : I p = none := by
    cases e : I p with
    | none => rfl
    | some u =>
      rw [k.ex p u e] at hp
      cases hp
  have nb : ∀ b, H b ≠ none → b ≠ p := fun b hb z => hb (by rw [z]; exact hp)
  refine ⟨k.mono (Ex.new ip) (Ex.both (k.ex.upd ip) upd_same) fun b hb => ?_, Ex.new ip, fun b u hb _ => ?_, fun b hb hi _ => ?_, fun b hb => .inl hb, fun b hb => by rw [upd_ne (nb b hb)]; exact hb⟩
  · obtain ⟨h1, h2⟩ := k.cin hb
    exact ⟨by rw [upd_ne (nb b h2)]; exact h1, upd_ne (nb b h2)⟩
  · rw [upd_ne (nb b (some_ne hb))]
    exact hb
  · rw [upd_ne (nb b hb)]
    exact hi
/-- a new list, kept apart -/
theorem Ok.own {K : PySem.W.Frag} {σ : L2.St} {I H : Hp} {en : En} (k : Ok K σ I H en) {p : Addr} {vs : List V} {xs : List PyData} (hp : H p = none) (hx : DpAll K I vs xs) :
    Ok K σ I (upd H p (.lst vs)) en ∧ Go en I H en I (upd H p (.lst vs)) ∧ Nw K en I (upd H p (.lst vs)) H (.ref p) p xs := by
  have ip : I p = none := by
    cases e : I p with
    | none => rfl
    | some u =>
      rw [k.ex p u e] at hp
      cases hp
  have nb : ∀ b, H b ≠ none → b ≠ p := fun b hb z => hb (by rw [z]; exact hp)
  refine ⟨k.mono (Ex.refl I) (k.ex.upd ip) fun b hb => ?_, ⟨Ex.refl I, fun b u hb _ => ?_, fun b _ hi _ => hi, fun b hb => .inl hb, fun b hb => by rw [upd_ne (nb b hb)]; exact hb⟩, rfl, ip, fun hc => ?_, hp, vs, upd_same, hx⟩
  · obtain ⟨h1, h2⟩ := k.cin hb
    exact ⟨h1, upd_ne (nb b h2)⟩
  · rw [upd_ne (nb b (some_ne hb))]
    exact hb
  · exact (k.cin hc).2 hp
/-- such a list put among what never changes -/
theorem Nw.freeze {K : PySem.W.Frag} {σ : L2.St} {I H H0 I0 : Hp} {en en0 : En} {v : V} {a : Addr} {xs : List PyData} (n : Nw K en I H H0 v a xs) (k : Ok K σ I H en) (g : Go en0 I0 H0 en I H) :
    ∃ I', Ok K σ I' H en ∧ Go en0 I0 H0 en I' H ∧ Dp K I' v (.list xs) := by
  obtain ⟨hr, hi, hc, hf, vs, hl, hx⟩ := n
  refine ⟨upd I a (.lst vs), k.mono (Ex.new hi) (Ex.both k.ex hl) fun b hb => ⟨?_, rfl⟩, ⟨g.i.trans (Ex.new hi), g.h, fun b hb hib hcb => ?_, g.c, g.k⟩, ?_⟩
  · rw [upd_ne (fun z => hc (by rw [← z]; exact hb))]
    exact (k.cin hb).1
  · rw [upd_ne (fun z => hb (by rw [z]; exact hf))]
    exact g.n b hb hib hcb
  · rw [hr]
    exact .lst (.inl (.inl upd_same)) ((Ex.new hi).dpa hx)
end Ly
namespace Ly
open PySem PySem.Spec PyProof.Rows L2

/-! ### where one stands -/
structure Gc where
  P : Program
  w : World
  K : PySem.W.Frag
  mg : Str → Option Value
  base : Heap
structure Cs where
  g : Gc
  N : List Str
  sc : Scope
  df : Str → Bool
  lv : Nat
structure Hs (c : Cs) (X : Cx) : Prop where
  p : X.prog = c.g.P
  w : X.w = c.g.w
  K : X.K = c.g.K
  mg : X.mg = c.g.mg
  base : X.base = c.g.base
  N : X.N = c.N
  sc : X.env.scope = c.sc
  calm : X.calm = true
  room : Room c.lv X.A
  gu : X.A.guards = some []
  xe : X.xe = fun _ _ => False
  nd : c.N.Nodup
  fn : ∀ x, c.df x = true → X.fn x = true
  fk : c.sc.kind = .function
def visB : Option NameKind → Bool
  | some .local => true
  | some .cell => true
  | some .free => true
  | _ => false
def locB : Option NameKind → Bool
  | some .local => true
  | some .cell => true
  | _ => false
def glB : Option NameKind → Bool
  | some .globalImplicit => true
  | _ => false
theorem vis_of {sc : Scope} {x : Str} (h : visB (sc.names.lookup x) = true) : Vis sc x := by
  unfold Vis
  unfold visB at h
  split at h <;> simp_all
theorem loc_of {sc : Scope} {x : Str} (h : locB (sc.names.lookup x) = true) : L2.Loc sc x := by
  unfold L2.Loc
  unfold locB at h
  split at h <;> simp_all
theorem gl_of {c : Cs} {X : Cx} (hx : Hs c X) {x : Str} (h : glB (c.sc.names.lookup x) = true) : Gl X x := by
  show X.env.scope.names.lookup x = some .globalImplicit
  rw [hx.sc]
  unfold glB at h
  split at h <;> simp_all

/-! ### judgements -/
def EvE (c : Cs) (e : Expr) (en : En) (Q : PyData → En → Prop) : Prop :=
  ∀ X, Hs c X → ∀ σ I H (k : VK), Ok c.g.K σ I H en → (∀ v d en' I' H', Ok c.g.K σ I' H' en' → Go en I H en' I' H' → Dp c.g.K I' v d → Q d en' → k v H') → wE X e σ H k
def EvN (c : Cs) (e : Expr) (en : En) (Q : Addr → List PyData → En → Prop) : Prop :=
  ∀ X, Hs c X → ∀ σ I H (k : VK), Ok c.g.K σ I H en → (∀ v a xs en' I' H', Ok c.g.K σ I' H' en' → Go en I H en' I' H' → Nw c.g.K en' I' H' H v a xs → Q a xs en' → k v H') → wE X e σ H k
def EvT (c : Cs) (e : Expr) (en : En) (Q : Bool → En → Prop) : Prop :=
  ∀ X, Hs c X → ∀ σ I H (k : Bool → Hp → Prop), Ok c.g.K σ I H en → (∀ b en' I' H', Ok c.g.K σ I' H' en' → Go en I H en' I' H' → Q b en' → k b H') → wT X e σ H k
def EvA (c : Cs) (es : List Expr) (en : En) (Q : List PyData → En → Prop) : Prop :=
  ∀ X, Hs c X → ∀ σ I H (k : List V → Hp → Prop), Ok c.g.K σ I H en → (∀ vs ds en' I' H', Ok c.g.K σ I' H' en' → Go en I H en' I' H' → DpAll c.g.K I' vs ds → Q ds en' → k vs H') → wA X es σ H k
/-- what comes back -/
def Vr (K : PySem.W.Frag) (en0 : En) (H0 : Hp) (en : En) (I H : Hp) (v : V) : Sl → Prop
  | .dat d => Dp K I v d
  | .cel a xs => v = .ref a ∧ I a = none ∧ ¬ Cin en a ∧ (Cin en0 a ∨ H0 a = none) ∧ ∃ vs, H a = some (.lst vs) ∧ DpAll K I vs xs
  | .no => False
structure Eds where
  nx : En → Prop
  rt : Sl → En → Prop
  bk : En → Prop := fun _ => False
  ct : En → Prop := fun _ => False
structure To (K : PySem.W.Frag) (en : En) (I H : Hp) (D : Eds) (E : Ends) : Prop where
  nx : ∀ σ' en' I' H', Ok K σ' I' H' en' → Go en I H en' I' H' → D.nx en' → E.nx σ' H'
  bk : ∀ σ' en' I' H', Ok K σ' I' H' en' → Go en I H en' I' H' → D.bk en' → E.bk σ' H'
  ct : ∀ σ' en' I' H', Ok K σ' I' H' en' → Go en I H en' I' H' → D.ct en' → E.ct σ' H'
  rt : ∀ v s σ' en' I' H', Ok K σ' I' H' en' → Go en I H en' I' H' → Vr K en H en' I' H' v s → D.rt s en' → E.rt v H'
def EvS (c : Cs) (st : Stmt) (en : En) (D : Eds) : Prop :=
  ∀ X, Hs c X → ∀ σ I H (E : Ends), Ok c.g.K σ I H en → To c.g.K en I H D E → wS X st E σ H
def EvB (c : Cs) (sts : List Stmt) (en : En) (D : Eds) : Prop :=
  ∀ X, Hs c X → ∀ σ I H (E : Ends), Ok c.g.K σ I H en → To c.g.K en I H D E → wB X sts E σ H
theorem Vr.back {K : PySem.W.Frag} {en0 en1 en : En} {I0 H0 I1 H1 I H : Hp} {v : V} {s : Sl} (g : Go en0 I0 H0 en1 I1 H1) (h : Vr K en1 H1 en I H v s) : Vr K en0 H0 en I H v s := by
  cases s with
  | no => exact h
  | dat d => exact h
  | cel a xs =>
    obtain ⟨h1, h2, h3, h4, h5⟩ := h
    refine ⟨h1, h2, h3, ?_, h5⟩
    rcases h4 with q | q
    · exact g.c a q
    · by_cases c : Cin en0 a
      · exact .inl c
      · refine .inr ?_
        cases e : H0 a with
        | none => rfl
        | some o =>
          rw [g.h a o e c] at q
          cases q
theorem To.from {K : PySem.W.Frag} {en en1 : En} {I H I1 H1 : Hp} {D : Eds} {E : Ends} (t : To K en I H D E) (g : Go en I H en1 I1 H1) : To K en1 I1 H1 D E :=
  ⟨fun σ' en' I' H' k g' => t.nx σ' en' I' H' k (g.trans g'), fun σ' en' I' H' k g' => t.bk σ' en' I' H' k (g.trans g'), fun σ' en' I' H' k g' => t.ct σ' en' I' H' k (g.trans g'),
    fun v s σ' en' I' H' k g' r => t.rt v s σ' en' I' H' k (g.trans g') (r.back g)⟩
section
variable {c : Cs} {e a b : Expr} {es : List Expr} {en : En} {Q : PyData → En → Prop} {pos p p2 : Pos} {x : Str}
theorem EvE.mono {R : PyData → En → Prop} (h : EvE c e en Q) (q : ∀ d en', Q d en' → R d en') : EvE c e en R := fun X hx σ I H k o f => h X hx σ I H k o fun v d en' I' H' o' g' r y => f v d en' I' H' o' g' r (q d en' y)
theorem EvN.frz (h : EvN c e en fun _ xs en' => Q (.list xs) en') : EvE c e en Q := fun X hx σ I H k o f => h X hx σ I H k o fun v a xs en' I' H' o' g' n q => by
  obtain ⟨I2, o2, g2, r⟩ := n.freeze o' g'
  exact f v _ en' I2 H' o2 g2 r q
/-! names, constants -/
theorem ee_name (i : Nat) {d : PyData} (hN : c.N[i]? = some x) (hv : visB (c.sc.names.lookup x) = true) (hd : en[i]? = some (Sl.dat d)) (q : Q d en)
    (h1 : (x == ("__debug__" : Str)) = false := by decide) (h2 : (x == ("__classdict__" : Str)) = false := by decide) : EvE c (.Name x pos) en Q := fun X hx σ I H k o f => by
  obtain ⟨v, hs, hr⟩ := o.dat i d hd
  refine wE_of (pe_var (X := X) (i := i) (by rw [hx.N]; exact hN) (by rw [hx.sc]; exact vis_of hv) h1 h2) ⟨v, hs, ?_⟩
  exact f v d en I H o (Go.refl en I H) hr q
theorem ee_int {j : Nat} {z : Int} (q : Q (.int z) en) : EvE c (.Constant (.int z) j pos) en Q := fun X hx σ I H k o f => wE_of pe_int (f _ _ en I H o (Go.refl en I H) (.int z) q)
theorem ee_bool {j : Nat} {z : Bool} (q : Q (.bool z) en) : EvE c (.Constant (.bool z) j pos) en Q := fun X hx σ I H k o f => wE_of pe_bl (f _ _ en I H o (Go.refl en I H) (.bl z) q)
theorem ee_none {j : Nat} (q : Q .none en) : EvE c (.Constant .none j pos) en Q := fun X hx σ I H k o f => wE_of pe_non (f _ _ en I H o (Go.refl en I H) .non q)
theorem ee_str {j : Nat} {z : Str} (q : Q (.str z) en) : EvE c (.Constant (.str z) j pos) en Q := fun X hx σ I H k o f => wE_of pe_str (f _ _ en I H o (Go.refl en I H) (.str z) q)
/-! arguments -/
theorem ea_nil {Q : List PyData → En → Prop} (q : Q [] en) : EvA c [] en Q := fun X hx σ I H k o f => wA_of pa_nil (f _ _ en I H o (Go.refl en I H) .nil q)
theorem ea_cons {Q : List PyData → En → Prop} (h : EvE c e en fun d en1 => EvA c es en1 fun ds en2 => Q (d :: ds) en2) (hs : ∀ env, starEach (e :: es) env = (false, eval e env) :: starEach es env := by intro _; rfl) : EvA c (e :: es) en Q := fun X hx σ I H k o f => by
  refine wA_of (pa_cons wE_pe wA_pa (hs _)) ?_
  refine h X hx σ I H _ o fun v d en1 I1 H1 o1 g1 r1 q1 => ?_
  exact q1 X hx σ I1 H1 _ o1 fun vs ds en2 I2 H2 o2 g2 r2 q2 => f _ _ en2 I2 H2 o2 (g1.trans g2) (.cons (g2.i.dp r1) r2) q2
theorem ee_tup {j : Nat} (h : EvA c es en fun ds en1 => ds.length ≤ 1000 ∧ Q (.tuple ds) en1) : EvE c (.Tuple es j pos) en Q := fun X hx σ I H k o f => by
  refine wE_of (pe_tup wA_pa) ?_
  refine h X hx σ I H _ o fun vs ds en1 I1 H1 o1 g1 r1 q1 => ⟨Nat.le_trans (by rw [dpa_len r1]; exact q1.1) (by decide), fun p hp => ?_⟩
  obtain ⟨o2, g2⟩ := o1.lay (o := .tup vs) hp
  exact f _ _ en1 _ _ o2 (g1.trans g2) (.tup (.inl (.inl upd_same)) (g2.i.dpa r1)) q1.2
theorem en_lst {R : Addr → List PyData → En → Prop} (h : EvA c es en fun ds en1 => ds.length ≤ 1000 ∧ ∀ a, ¬ Cin en1 a → R a ds en1) : EvN c (.List es pos) en R := fun X hx σ I H k o f => by
  refine wE_of (pe_lst wA_pa) ?_
  refine h X hx σ I H _ o fun vs ds en1 I1 H1 o1 g1 r1 q1 => ⟨Nat.le_trans (by rw [dpa_len r1]; exact q1.1) (by decide), fun p hp => ?_⟩
  obtain ⟨o2, g2, n2⟩ := o1.own hp r1
  refine f _ p ds en1 _ _ o2 (g1.trans g2) ⟨n2.ref, n2.i, n2.c, ?_, n2.l⟩ (q1.2 p n2.c)
  cases e : H p with
  | none => rfl
  | some u => exact absurd hp (g1.k p (some_ne e))
end
end Ly
namespace Ly
open PySem PySem.Spec PyProof.Rows L2

section
variable {c : Cs} {e a b t : Expr} {es : List Expr} {en : En} {Q : PyData → En → Prop} {QT : Bool → En → Prop} {pos p p2 : Pos} {x : Str}

/-! ### numbers -/
theorem ee_opI {op : Operator} {C : Int → Int → Prop} {g : Int → Int → Int} (ho : ∀ X, OpR X (binaryOp op) (rI C fun i j => .int (g i j)))
    (h : EvE c a en fun d en1 => EvE c b en1 fun d2 en2 => ∃ i j, d = .int i ∧ d2 = .int j ∧ C i j ∧ Q (.int (g i j)) en2) : EvE c (.BinOp a op b pos) en Q := fun X hx σ I H k o f => by
  refine wE_of (pe_op (ho X) wE_pe wE_pe) ?_
  refine h X hx σ I H _ o fun v d en1 I1 H1 o1 g1 r1 q1 => ?_
  refine q1 X hx σ I1 H1 _ o1 fun v2 d2 en2 I2 H2 o2 g2 r2 q2 => ?_
  obtain ⟨i, j, rfl, rfl, hc, q⟩ := q2
  cases r1
  cases r2
  exact ⟨i, j, rfl, rfl, hc, f _ _ en2 I2 H2 o2 (g1.trans g2) (.int _) q⟩
theorem opI_of0 {X : Cx} {f : Value → Value → Sem Value} {g : Int → Int → V} (h : OpR X f (rI0 g)) : OpR X f (rI (fun _ _ => True) g) := fun pins s σ H x y v u Q I rx ry ⟨i, j, e1, e2, _, q⟩ => h pins s σ H x y v u Q I rx ry ⟨i, j, e1, e2, q⟩
theorem ee_add (h : EvE c a en fun d en1 => EvE c b en1 fun d2 en2 => ∃ i j, d = .int i ∧ d2 = .int j ∧ Q (.int (i + j)) en2) : EvE c (.BinOp a .Add b pos) en Q :=
  ee_opI (C := fun _ _ => True) (fun X => opI_of0 op_add) (h.mono fun _ _ k => k.mono fun _ _ ⟨i, j, e1, e2, q⟩ => ⟨i, j, e1, e2, trivial, q⟩)
theorem ee_sub (h : EvE c a en fun d en1 => EvE c b en1 fun d2 en2 => ∃ i j, d = .int i ∧ d2 = .int j ∧ Q (.int (i - j)) en2) : EvE c (.BinOp a .Sub b pos) en Q :=
  ee_opI (C := fun _ _ => True) (fun X => opI_of0 op_sub) (h.mono fun _ _ k => k.mono fun _ _ ⟨i, j, e1, e2, q⟩ => ⟨i, j, e1, e2, trivial, q⟩)
/-- sizes -/
def Bd (n : Nat) (i : Int) : Prop := i.natAbs < 2 ^ n
theorem Bd.mono {n m : Nat} {i : Int} (h : Bd n i) (k : n ≤ m) : Bd m i := Nat.lt_of_lt_of_le h (Nat.pow_le_pow_right (by decide) k)
theorem ee_mul (h : EvE c a en fun d en1 => EvE c b en1 fun d2 en2 => ∃ i j, d = .int i ∧ d2 = .int j ∧ (Bd 400000 i ∧ Bd 400000 j) ∧ Q (.int (i * j)) en2) : EvE c (.BinOp a .Mult b pos) en Q :=
  ee_opI (C := fun i j => Bd 400000 i ∧ Bd 400000 j) (fun X pins s σ H x y v u Q I rx ry ⟨i, j, e1, e2, hc, q⟩ => op_mulW pins s σ H x y v u Q I rx ry ⟨i, j, e1, e2, wide_mul hc.1 hc.2 (by decide) (by decide) (by decide), q⟩) h
theorem ee_div (h : EvE c a en fun d en1 => EvE c b en1 fun d2 en2 => ∃ i j, d = .int i ∧ d2 = .int j ∧ (0 < j ∧ Bd 9000 j) ∧ Q (.int (i / j)) en2) : EvE c (.BinOp a .FloorDiv b pos) en Q :=
  ee_opI (C := fun _ j => 0 < j ∧ Bd 9000 j) (fun X pins s σ H x y v u Q I rx ry ⟨i, j, e1, e2, hc, q⟩ => op_fdivW pins s σ H x y v u Q I rx ry ⟨i, j, e1, e2, wide_div hc.1 hc.2 (by decide) (by decide), q⟩) h
theorem ee_mod (h : EvE c a en fun d en1 => EvE c b en1 fun d2 en2 => ∃ i j, d = .int i ∧ d2 = .int j ∧ 0 < j ∧ Q (.int (i % j)) en2) : EvE c (.BinOp a .Mod b pos) en Q :=
  ee_opI (C := fun _ j => 0 < j) (fun X => op_mod) h
theorem ee_pow (h : EvE c a en fun d en1 => EvE c b en1 fun d2 en2 => ∃ i j, d = .int i ∧ d2 = .int j ∧ (0 ≤ j ∧ j ≤ 1000000 ∧ i.natAbs < 2 ^ 64) ∧ Q (.int (i ^ j.toNat)) en2) : EvE c (.BinOp a .Pow b pos) en Q :=
  ee_opI (C := CPow) (fun X => op_pow) h
theorem ee_neg (h : EvE c a en fun d en1 => ∃ i, d = .int i ∧ Q (.int (-i)) en1) : EvE c (.UnaryOp .USub a pos) en Q := fun X hx σ I H k o f => by
  refine wE_of (pe_un un_neg wE_pe) ?_
  refine h X hx σ I H _ o fun v d en1 I1 H1 o1 g1 r1 q1 => ?_
  obtain ⟨i, rfl, q⟩ := q1
  cases r1
  exact ⟨i, rfl, f _ _ en1 I1 H1 o1 g1 (.int _) q⟩

/-! ### comparisons -/
/-- a comparison by data -/
def Cp (c : Cs) (op : CmpOp) (R : PyData → PyData → Bool → Prop) : Prop :=
  ∀ X, Hs c X → ∃ r : R2, OpR X (compareOp op) r ∧ ∀ (I H : Hp) (x y : V) (d e : PyData) (b : Bool) (Q : VK), Ex I H → Dp c.g.K I x d → Dp c.g.K I y e → R d e b → Q (.bl b) H → r x y H Q
theorem ee_cmp {op : CmpOp} {R : PyData → PyData → Bool → Prop} (hr : Cp c op R) (hm : behindInMarks op b = false) (h : EvE c a en fun d en1 => EvE c b en1 fun d2 en2 => ∃ k, R d d2 k ∧ Q (.bool k) en2) : EvE c (.Compare a [op] [b] pos) en Q := fun X hx σ I H k o f => by
  obtain ⟨r, ho, hq⟩ := hr X hx
  refine wE_of (pe_cmpR ho wE_pe wE_pe hm) ?_
  refine h X hx σ I H _ o fun v d en1 I1 H1 o1 g1 r1 q1 => ?_
  refine q1 X hx σ I1 H1 _ o1 fun v2 d2 en2 I2 H2 o2 g2 r2 q2 => ?_
  obtain ⟨m, hm, q⟩ := q2
  exact hq I2 H2 v v2 d d2 m _ o2.ex (g2.i.dp r1) r2 hm (f _ _ en2 I2 H2 o2 (g1.trans g2) (.bl _) q)
theorem et_cmp {op : CmpOp} {R : PyData → PyData → Bool → Prop} (hr : Cp c op R) (hm : behindInMarks op b = false) (h : EvE c a en fun d en1 => EvE c b en1 fun d2 en2 => ∃ k, R d d2 k ∧ QT k en2) : EvT c (.Compare a [op] [b] pos) en QT := fun X hx σ I H k o f => by
  obtain ⟨r, ho, hq⟩ := hr X hx
  refine wT_of (pt_cmpR ho wE_pe wE_pe hm) ?_
  refine h X hx σ I H _ o fun v d en1 I1 H1 o1 g1 r1 q1 => ?_
  refine q1 X hx σ I1 H1 _ o1 fun v2 d2 en2 I2 H2 o2 g2 r2 q2 => ?_
  obtain ⟨m, hm, q⟩ := q2
  exact hq I2 H2 v v2 d d2 m _ o2.ex (g2.i.dp r1) r2 hm ⟨m, rfl, f m en2 I2 H2 o2 (g1.trans g2) q⟩
def RInt (p : Int → Int → Bool) : PyData → PyData → Bool → Prop := fun d e k => ∃ i j, d = .int i ∧ e = .int j ∧ k = p i j
theorem cp_I {op : CmpOp} {q : Int → Int → Bool} (ho : ∀ X, OpR X (compareOp op) (rI0 fun i j => .bl (q i j))) : Cp c op (RInt q) := fun X _ => ⟨_, ho X, fun I H x y d e b Q _ r1 r2 ⟨i, j, e1, e2, e3⟩ hq => by
  subst e1 e2 e3
  cases r1
  cases r2
  exact ⟨i, j, rfl, rfl, hq⟩⟩
theorem cp_lt : Cp c .Lt (RInt fun i j => decide (i < j)) := cp_I fun _ => op_lt
theorem cp_le : Cp c .LtE (RInt fun i j => decide (i ≤ j)) := cp_I fun _ => op_le
theorem cp_gt : Cp c .Gt (RInt fun i j => decide (j < i)) := cp_I fun _ => op_gt
theorem cp_ge : Cp c .GtE (RInt fun i j => decide (j ≤ i)) := cp_I fun _ => op_ge
theorem v_int_dec {i j : Int} : decide (V.int i = V.int j) = decide (i = j) := by
  by_cases h : i = j
  · subst h; simp
  · rw [decide_eq_false h, decide_eq_false fun z => h (V.int.inj z)]
theorem cp_eqI : Cp c .Eq (RInt fun i j => decide (i = j)) := cp_I fun _ pins s σ H x y v u Q I rx ry ⟨i, j, e1, e2, q⟩ => by
  subst e1 e2
  exact op_eq pins s σ H _ _ v u Q I rx ry ⟨rfl, by rw [v_int_dec]; exact q⟩
theorem cp_neI : Cp c .NotEq (RInt fun i j => !decide (i = j)) := cp_I fun _ pins s σ H x y v u Q I rx ry ⟨i, j, e1, e2, q⟩ => by
  subst e1 e2
  exact op_ne pins s σ H _ _ v u Q I rx ry ⟨rfl, by rw [v_int_dec]; exact q⟩
theorem cp_eqD : Cp c .Eq fun d e k => SeqAt.shaped d = true ∧ SeqAt.shaped e = true ∧ k = PyData.eqv d e := fun X hx => ⟨_, op_eqD hx.room.units, fun I H x y d e b Q ex r1 r2 ⟨s1, s2, e3⟩ hq => by
  subst e3
  exact ⟨d, e, by rw [hx.K]; exact ex.dp r1, by rw [hx.K]; exact ex.dp r2, s1, s2, hq⟩⟩
theorem cp_neD : Cp c .NotEq fun d e k => SeqAt.shaped d = true ∧ SeqAt.shaped e = true ∧ k = !PyData.eqv d e := fun X hx => ⟨_, op_neD hx.room.units, fun I H x y d e b Q ex r1 r2 ⟨s1, s2, e3⟩ hq => by
  subst e3
  exact ⟨d, e, by rw [hx.K]; exact ex.dp r1, by rw [hx.K]; exact ex.dp r2, s1, s2, hq⟩⟩
def isN : PyData → Bool
  | .none => true
  | _ => false
theorem isN_dp {K : PySem.W.Frag} {I : Hp} {x : V} {d : PyData} (r : Dp K I x d) : decide (x = V.non) = isN d := by
  cases r <;> first | rfl | (unfold isN; exact decide_eq_false (fun z => nomatch z))
theorem cp_isN : Cp c .Is fun d e k => e = .none ∧ k = isN d := fun X hx => ⟨_, op_isN, fun I H x y d e b Q ex r1 r2 ⟨e1, e3⟩ hq => by
  subst e1 e3
  cases r2
  exact ⟨rfl, by rw [isN_dp r1]; exact hq⟩⟩
theorem cp_notN : Cp c .IsNot fun d e k => e = .none ∧ k = !isN d := fun X hx => ⟨_, op_notN, fun I H x y d e b Q ex r1 r2 ⟨e1, e3⟩ hq => by
  subst e1 e3
  cases r2
  exact ⟨rfl, by rw [isN_dp r1]; exact hq⟩⟩

/-! ### tests -/
theorem et_val (h : EvE c e en fun d en1 => ∃ k, d = .bool k ∧ QT k en1) (he : ∀ env whole, isTrue e env whole = (do let v ← whole; standAt e.pos; holding [v] (truthy v)) := by intro _ _; rfl) : EvT c e en QT := fun X hx σ I H k o f => by
  refine wT_of (pt_val wE_pe (fun w => he _ w)) ?_
  refine h X hx σ I H _ o fun v d en1 I1 H1 o1 g1 r1 q1 => ?_
  obtain ⟨b, rfl, q⟩ := q1
  cases r1
  exact ⟨b, rfl, f b en1 I1 H1 o1 g1 q⟩
theorem et_not (h : EvT c a en fun k en1 => QT (!k) en1) : EvT c (.UnaryOp .Not a pos) en QT := fun X hx σ I H k o f => by
  refine wT_of (pt_not wT_pt) ?_
  exact h X hx σ I H _ o fun b en1 I1 H1 o1 g1 q1 => f _ en1 I1 H1 o1 g1 q1
def wW (X : Cx) (e : Expr) : TT := fun σ H Q => ∀ (whole : Sem Value) pins s, Inv X pins σ H s → wpAny (model X.prog X.w) X.A (isTrue e X.env whole) (TP X pins σ Q) X.xe s
theorem wW_pw {X : Cx} {e : Expr} : PW X e (wW X e) := ⟨fun whole pins s _ _ _ I h => h whole pins s I⟩
theorem wW_of {X : Cx} {e : Expr} {t : TT} (h : PW X e t) {σ : L2.St} {H : Hp} {Q : Bool → Hp → Prop} (q : t σ H Q) : wW X e σ H Q := fun whole pins s I => h.run whole pins s σ H Q I q
def EvW (c : Cs) (e : Expr) (en : En) (Q : Bool → En → Prop) : Prop :=
  ∀ X, Hs c X → ∀ σ I H (k : Bool → Hp → Prop), Ok c.g.K σ I H en → (∀ b en' I' H', Ok c.g.K σ I' H' en' → Go en I H en' I' H' → Q b en' → k b H') → wW X e σ H k
theorem et_W (h : EvW c e en QT) : EvT c e en QT := fun X hx σ I H k o f => wT_of (wW_pw (X := X)).pt (h X hx σ I H k o f)
theorem ew_and1 (h : EvT c a en QT) : EvW c (.BoolOp .And [a] pos) en QT := fun X hx σ I H k o f => wW_of (pw_and1 wT_pt) (h X hx σ I H k o f)
theorem ew_or1 (h : EvT c a en QT) : EvW c (.BoolOp .Or [a] pos) en QT := fun X hx σ I H k o f => wW_of (pw_or1 wT_pt) (h X hx σ I H k o f)
theorem ew_and (h : EvT c a en fun k en1 => (k = true → EvW c (.BoolOp .And (b :: es) pos) en1 QT) ∧ (k = false → QT false en1)) : EvW c (.BoolOp .And (a :: b :: es) pos) en QT := fun X hx σ I H k o f => by
  refine wW_of (pw_and wT_pt wW_pw) ?_
  refine h X hx σ I H _ o fun m en1 I1 H1 o1 g1 q1 => ?_
  cases m with
  | true => exact q1.1 rfl X hx σ I1 H1 k o1 fun z en2 I2 H2 o2 g2 q2 => f z en2 I2 H2 o2 (g1.trans g2) q2
  | false => exact f false en1 I1 H1 o1 g1 (q1.2 rfl)
theorem ew_or (h : EvT c a en fun k en1 => (k = true → QT true en1) ∧ (k = false → EvW c (.BoolOp .Or (b :: es) pos) en1 QT)) : EvW c (.BoolOp .Or (a :: b :: es) pos) en QT := fun X hx σ I H k o f => by
  refine wW_of (pw_or wT_pt wW_pw) ?_
  refine h X hx σ I H _ o fun m en1 I1 H1 o1 g1 q1 => ?_
  cases m with
  | true => exact f true en1 I1 H1 o1 g1 (q1.1 rfl)
  | false => exact q1.2 rfl X hx σ I1 H1 k o1 fun z en2 I2 H2 o2 g2 q2 => f z en2 I2 H2 o2 (g1.trans g2) q2
/-! ### as values -/
theorem ee_one {op : BoolOp} (h : EvE c a en Q) : EvE c (.BoolOp op [a] pos) en Q := fun X hx σ I H k o f => wE_of (pe_one wE_pe) (h X hx σ I H k o f)
theorem ee_and (h : EvE c a en fun d en1 => ∃ k, d = .bool k ∧ (k = true → EvE c (.BoolOp .And (b :: es) pos) en1 Q) ∧ (k = false → Q (.bool false) en1)) : EvE c (.BoolOp .And (a :: b :: es) pos) en Q := fun X hx σ I H k o f => by
  refine wE_of (pe_and wE_pe wE_pe) ?_
  refine h X hx σ I H _ o fun v d en1 I1 H1 o1 g1 r1 q1 => ?_
  obtain ⟨m, rfl, q2, q3⟩ := q1
  cases r1
  refine ⟨m, rfl, ?_⟩
  cases m with
  | true => exact q2 rfl X hx σ I1 H1 k o1 fun z d en2 I2 H2 o2 g2 r2 q2 => f z d en2 I2 H2 o2 (g1.trans g2) r2 q2
  | false => exact f _ _ en1 I1 H1 o1 g1 (.bl _) (q3 rfl)
theorem ee_or (h : EvE c a en fun d en1 => ∃ k, d = .bool k ∧ (k = true → Q (.bool true) en1) ∧ (k = false → EvE c (.BoolOp .Or (b :: es) pos) en1 Q)) : EvE c (.BoolOp .Or (a :: b :: es) pos) en Q := fun X hx σ I H k o f => by
  refine wE_of (pe_or wE_pe wE_pe) ?_
  refine h X hx σ I H _ o fun v d en1 I1 H1 o1 g1 r1 q1 => ?_
  obtain ⟨m, rfl, q2, q3⟩ := q1
  cases r1
  refine ⟨m, rfl, ?_⟩
  cases m with
  | true => exact f _ _ en1 I1 H1 o1 g1 (.bl _) (q2 rfl)
  | false => exact q3 rfl X hx σ I1 H1 k o1 fun z d en2 I2 H2 o2 g2 r2 q2 => f z d en2 I2 H2 o2 (g1.trans g2) r2 q2
theorem ee_not (h : EvE c a en fun d en1 => ∃ k, d = .bool k ∧ Q (.bool (!k)) en1) : EvE c (.UnaryOp .Not a pos) en Q := fun X hx σ I H k o f => by
  refine wE_of (pe_not wE_pe) ?_
  refine h X hx σ I H _ o fun v d en1 I1 H1 o1 g1 r1 q1 => ?_
  obtain ⟨m, rfl, q⟩ := q1
  cases r1
  exact ⟨m, rfl, f _ _ en1 I1 H1 o1 g1 (.bl _) q⟩
theorem ee_if (h : EvT c t en fun k en1 => (k = true → EvE c a en1 Q) ∧ (k = false → EvE c b en1 Q)) : EvE c (.IfExp t a b pos) en Q := fun X hx σ I H k o f => by
  refine wE_of (pe_ifExp wT_pt wE_pe wE_pe) ?_
  refine h X hx σ I H _ o fun m en1 I1 H1 o1 g1 q1 => ?_
  cases m with
  | true => exact q1.1 rfl X hx σ I1 H1 k o1 fun z d en2 I2 H2 o2 g2 r2 q2 => f z d en2 I2 H2 o2 (g1.trans g2) r2 q2
  | false => exact q1.2 rfl X hx σ I1 H1 k o1 fun z d en2 I2 H2 o2 g2 r2 q2 => f z d en2 I2 H2 o2 (g1.trans g2) r2 q2
/-! ### subscripts -/
def seqOf : PyData → Option (List PyData)
  | .tuple ds => some ds
  | .list ds => some ds
  | _ => none
theorem atI_dpa {K : PySem.W.Frag} {I : Hp} {vs : List V} {ds : List PyData} {i : Int} {d : PyData} (r : DpAll K I vs ds) (h : atI ds i = some d) : ∃ v, atI vs i = some v ∧ Dp K I v d := by
  unfold atI at h ⊢
  rw [dpa_len r]
  cases e : ixN ds.length i with
  | none =>
    rw [e] at h
    cases h
  | some j =>
    rw [e] at h
    exact dpa_get r h
theorem ee_ix (h : EvE c a en fun d en1 => EvE c b en1 fun d2 en2 => ∃ ds k r, seqOf d = some ds ∧ d2 = .int k ∧ atI ds k = some r ∧ Q r en2) (hs : PlainIx b := by exact fun _ _ => rfl) : EvE c (.Subscript a b pos) en Q := fun X hx σ I H k o f => by
  refine wE_of (pe_ix ix_seq wE_pe wE_pe hs) ?_
  refine h X hx σ I H _ o fun v d en1 I1 H1 o1 g1 r1 q1 => ?_
  refine q1 X hx σ I1 H1 _ o1 fun v2 d2 en2 I2 H2 o2 g2 r2 q2 => ?_
  obtain ⟨ds, i, r, e1, rfl, e3, q⟩ := q2
  cases r2
  have r1' := g2.i.dp r1
  cases r1' with
  | non => cases e1
  | bl _ => cases e1
  | int _ => cases e1
  | str _ => cases e1
  | lst s1 ra =>
    cases e1
    obtain ⟨w', h1, h2⟩ := atI_dpa ra e3
    exact .inl ⟨_, _, i, w', rfl, rfl, by rw [hx.K]; exact o2.ex.sql s1, h1, f _ _ en2 I2 H2 o2 (g1.trans g2) h2 q⟩
  | tup s1 ra =>
    cases e1
    obtain ⟨w', h1, h2⟩ := atI_dpa ra e3
    exact .inr (.inl ⟨_, _, i, w', rfl, rfl, by rw [hx.K]; exact o2.ex.sqt s1, h1, f _ _ en2 I2 H2 o2 (g1.trans g2) h2 q⟩)
/-- an item of a list that this def may write -/
theorem ee_ixC (i : Nat) {A : Addr} {xs0 : List PyData} (hN : c.N[i]? = some x) (hv : visB (c.sc.names.lookup x) = true) (hi : en[i]? = some (Sl.cel A xs0))
    (h : EvE c b en fun d2 en2 => ∃ xs k r, en2[i]? = some (Sl.cel A xs) ∧ d2 = .int k ∧ atI xs k = some r ∧ Q r en2) (hs : PlainIx b := by exact fun _ _ => rfl)
    (h1 : (x == ("__debug__" : Str)) = false := by decide) (h2 : (x == ("__classdict__" : Str)) = false := by decide) : EvE c (.Subscript (.Name x p) b pos) en Q := fun X hx σ I H k o f => by
  obtain ⟨z1, z2, z3⟩ := o.cel i A xs0 hi
  refine wE_of (pe_ix ix_list (pe_var (X := X) (i := i) (by rw [hx.N]; exact hN) (by rw [hx.sc]; exact vis_of hv) h1 h2) wE_pe hs) ⟨_, z1, ?_⟩
  refine h X hx σ I H _ o fun v2 d2 en2 I2 H2 o2 g2 r2 q2 => ?_
  obtain ⟨xs, m, r, e1, rfl, e3, q⟩ := q2
  cases r2
  obtain ⟨_, y2, vs, y3, y4⟩ := o2.cel i A xs e1
  obtain ⟨w', h1, h2⟩ := atI_dpa y4 e3
  exact ⟨A, vs, m, w', rfl, rfl, .inl (.inl y3), h1, f _ _ en2 I2 H2 o2 g2 h2 q⟩
end
end Ly
namespace Ly
open PySem PySem.Spec PyProof.Rows L2

section
variable {c : Cs} {e a b t : Expr} {es : List Expr} {en : En} {Q : PyData → En → Prop} {QN : Addr → List PyData → En → Prop} {QT : Bool → En → Prop} {pos p p2 : Pos} {x : Str} {id T : String}

/-! ### built-ins that give a plain value -/
def Bc (c : Cs) (f : Value) (R : List PyData → PyData → Prop) : Prop :=
  ∀ X, Hs c X → ∃ r : List V → Hp → VK → Prop, CallR X f r ∧ ∀ (I H : Hp) (vs : List V) (ds : List PyData) (d : PyData) (Q : VK), Ex I H → DpAll c.g.K I vs ds → R ds d → (∀ v, Dp c.g.K I v d → Q v H) → r vs H Q
theorem ee_callB {R : List PyData → PyData → Prop} (hr : Bc c (.builtin id) R) (hg : glB (c.sc.names.lookup x) = true) (hm : c.g.mg x = none) (hv : bootBuiltins x = some (.builtin id)) (h : EvA c (e :: es) en fun ds en1 => ∃ d, R ds d ∧ Q d en1)
    (hn : x ≠ "__name__" := by decide) (hdb : (x == ("__debug__" : Str)) = false := by decide) (he : ∀ env, starEach (e :: es) env = (false, eval e env) :: starEach es env := by intro _; rfl) (hpl : ∀ env, (backTo pos (starEach es env)).any (·.1) = false := by intro _; rfl) :
    EvE c (.Call (.Name x p) (e :: es) [] pos) en Q := fun X hx σ I H k o f => by
  obtain ⟨r, hc, hq⟩ := hr X hx
  refine wE_of (pe_callB hc (gl_of hx hg) (by rw [hx.mg]; exact hm) hv wA_pa hn hdb (he _) (hpl _)) ?_
  refine h X hx σ I H _ o fun vs ds en1 I1 H1 o1 g1 r1 ⟨d, q1, q2⟩ => ?_
  exact hq I1 H1 vs ds d k o1.ex r1 q1 fun v rv => f v d en1 I1 H1 o1 g1 rv q2
theorem ee_callTy {R : List PyData → PyData → Prop} (hr : Bc c (.type T) R) (hg : glB (c.sc.names.lookup x) = true) (hm : c.g.mg x = none) (hv : bootBuiltins x = some (.type T)) (h : EvA c (e :: es) en fun ds en1 => ∃ d, R ds d ∧ Q d en1)
    (hn : x ≠ "__name__" := by decide) (hdb : (x == ("__debug__" : Str)) = false := by decide) (he : ∀ env, starEach (e :: es) env = (false, eval e env) :: starEach es env := by intro _; rfl) (hpl : ∀ env, (backTo pos (starEach es env)).any (·.1) = false := by intro _; rfl) :
    EvE c (.Call (.Name x p) (e :: es) [] pos) en Q := fun X hx σ I H k o f => by
  obtain ⟨r, hc, hq⟩ := hr X hx
  refine wE_of (pe_callTy hc (gl_of hx hg) (by rw [hx.mg]; exact hm) hv wA_pa hn hdb (he _) (hpl _)) ?_
  refine h X hx σ I H _ o fun vs ds en1 I1 H1 o1 g1 r1 ⟨d, q1, q2⟩ => ?_
  exact hq I1 H1 vs ds d k o1.ex r1 q1 fun v rv => f v d en1 I1 H1 o1 g1 rv q2
/-- a module's name for a built-in -/
theorem ee_callG {R : List PyData → PyData → Prop} (hr : Bc c (.builtin id) R) (hg : glB (c.sc.names.lookup x) = true) (hm : c.g.mg x = some (.builtin id)) (h : EvA c (e :: es) en fun ds en1 => ∃ d, R ds d ∧ Q d en1)
    (hdb : (x == ("__debug__" : Str)) = false := by decide) (he : ∀ env, starEach (e :: es) env = (false, eval e env) :: starEach es env := by intro _; rfl) (hpl : ∀ env, (backTo pos (starEach es env)).any (·.1) = false := by intro _; rfl) :
    EvE c (.Call (.Name x p) (e :: es) [] pos) en Q := fun X hx σ I H k o f => by
  obtain ⟨r, hc, hq⟩ := hr X hx
  refine wE_of (pe_callBfun hc (gl_of hx hg) (by rw [hx.mg]; exact hm) wA_pa hdb (he _) (hpl _)) ?_
  refine h X hx σ I H _ o fun vs ds en1 I1 H1 o1 g1 r1 ⟨d, q1, q2⟩ => ?_
  exact hq I1 H1 vs ds d k o1.ex r1 q1 fun v rv => f v d en1 I1 H1 o1 g1 rv q2
theorem dpa1 {K : PySem.W.Frag} {I : Hp} {vs : List V} {d : PyData} (r : DpAll K I vs [d]) : ∃ v, vs = [v] ∧ Dp K I v d := by
  cases r with
  | cons a b => cases b; exact ⟨_, rfl, a⟩
theorem dpa2 {K : PySem.W.Frag} {I : Hp} {vs : List V} {d e : PyData} (r : DpAll K I vs [d, e]) : ∃ v u, vs = [v, u] ∧ Dp K I v d ∧ Dp K I u e := by
  cases r with
  | cons a b =>
    obtain ⟨u, rfl, h⟩ := dpa1 b
    exact ⟨_, u, rfl, a, h⟩
/-- a tuple's or list's place -/
theorem dp_seq {K : PySem.W.Frag} {I : Hp} {v : V} {d : PyData} {xs : List PyData} (r : Dp K I v d) (h : seqOf d = some xs) : ∃ a vs, v = .ref a ∧ (SqL K I a vs ∨ SqT K I a vs) ∧ DpAll K I vs xs := by
  cases r with
  | non => cases h
  | bl _ => cases h
  | int _ => cases h
  | str _ => cases h
  | lst s1 ra => cases h; exact ⟨_, _, rfl, .inl s1, ra⟩
  | tup s1 ra => cases h; exact ⟨_, _, rfl, .inr s1, ra⟩
theorem bc_len : Bc c (.builtin "len") fun ds d => ∃ d0 xs, ds = [d0] ∧ seqOf d0 = some xs ∧ d = .int xs.length := fun X hx => ⟨_, call_len_seq, fun I H vs ds d Q ex r ⟨d0, xs, e1, e2, e3⟩ q => by
  subst e1 e3
  obtain ⟨v, rfl, rv⟩ := dpa1 r
  obtain ⟨a, us, rfl, hs, ra⟩ := dp_seq rv e2
  refine ⟨a, us, rfl, ?_, by rw [dpa_len ra]; exact q _ (.int _)⟩
  rw [hx.K]
  rcases hs with hs | hs
  · exact .inl (ex.sql hs)
  · exact .inr (ex.sqt hs)⟩
theorem bc_abs : Bc c (.builtin "abs") fun ds d => ∃ i, ds = [.int i] ∧ d = .int (if i < 0 then -i else i) := fun X hx => ⟨_, call_abs, fun I H vs ds d Q ex r ⟨i, e1, e2⟩ q => by
  subst e1 e2
  obtain ⟨v, rfl, rv⟩ := dpa1 r
  cases rv
  exact ⟨i, rfl, q _ (.int _)⟩⟩
theorem bc_int : Bc c (.type "int") fun ds d => (∃ i, ds = [.int i] ∧ d = .int i) ∨ ∃ k, ds = [.bool k] ∧ d = .int (if k then 1 else 0) := fun X hx => ⟨_, call_int1, fun I H vs ds d Q ex r h q => by
  rcases h with ⟨i, e1, e2⟩ | ⟨k, e1, e2⟩
  · subst e1 e2
    obtain ⟨v, rfl, rv⟩ := dpa1 r
    cases rv
    exact .inl ⟨i, rfl, q _ (.int _)⟩
  · subst e1 e2
    obtain ⟨v, rfl, rv⟩ := dpa1 r
    cases rv
    exact .inr ⟨k, rfl, q _ (.int _)⟩⟩
theorem bc_sum : Bc c (.builtin "sum") fun ds d => ∃ ns : List Int, ds = [.list (ns.map .int)] ∧ d = .int ns.sum := fun X hx => ⟨_, cr_sum hx.calm, fun I H vs ds d Q ex r ⟨ns, e1, e2⟩ q => by
  subst e1 e2
  obtain ⟨v, rfl, rv⟩ := dpa1 r
  cases rv with
  | lst s1 ra =>
    rw [dpa_ints_inv ra] at s1
    exact ⟨_, ns, rfl, by rw [hx.K]; exact ex.sql s1, q _ (.int _)⟩⟩
theorem dpa_bools_inv {K : PySem.W.Frag} {H : Hp} : ∀ {ns : List Bool} {vs : List V}, DpAll K H vs (ns.map PyData.bool) → vs = ns.map V.bl
  | [], _, h => by cases h; rfl
  | n :: ns, _, h => by
    cases h with
    | cons a b =>
      cases a
      rw [dpa_bools_inv b]
      rfl
theorem bc_all : Bc c (.builtin "all") fun ds d => ∃ ns : List Bool, ds = [.list (ns.map .bool)] ∧ d = .bool (ns.all _root_.id) := fun X hx => ⟨_, cr_all hx.calm, fun I H vs ds d Q ex r ⟨ns, e1, e2⟩ q => by
  subst e1 e2
  obtain ⟨v, rfl, rv⟩ := dpa1 r
  cases rv with
  | lst s1 ra =>
    rw [dpa_bools_inv ra] at s1
    exact ⟨_, ns, rfl, by rw [hx.K]; exact ex.sql s1, q _ (.bl _)⟩⟩
theorem bc_gcd : Bc c (.builtin "math.gcd") fun ds d => ∃ i j : Int, ds = [.int i, .int j] ∧ d = .int ((Nat.gcd i.natAbs j.natAbs : Nat) : Int) := fun X hx => ⟨_, cr_gcd, fun I H vs ds d Q ex r ⟨i, j, e1, e2⟩ q => by
  subst e1 e2
  obtain ⟨v, u, rfl, rv, ru⟩ := dpa2 r
  cases rv
  cases ru
  exact ⟨i, j, rfl, q _ (.int _)⟩⟩
theorem log_lt {n k : Nat} (h : n < 2 ^ k) (hk : 0 < k) : n.log2 < k := PySem.Flt.log2_lt_of hk h
theorem cr_lcm {X : Cx} : CallR X (.builtin "math.lcm") fun vs H Q => ∃ a b : Int, vs = [.int a, .int b] ∧ Bd 6000 a ∧ Bd 6000 b ∧ Q (.int ((Nat.lcm a.natAbs b.natAbs : Nat) : Int)) H := by
  intro pins s σ H vs us Q I r h
  obtain ⟨a, b, rfl, ha, hb, q⟩ := h
  obtain ⟨t, u, rfl⟩ := Vals.int2 r
  have l1 : Nat.lcm 1 a.natAbs = a.natAbs := by simp [Nat.lcm]
  have g := PySem.W.mg_run_lcm a t b u (by
      have : (max 1 a.natAbs).log2 < 6000 := log_lt (Nat.max_lt.mpr ⟨Nat.one_lt_two_pow (by decide), ha⟩) (by decide)
      omega) (by
      have : (max a.natAbs b.natAbs).log2 < 6000 := log_lt (Nat.max_lt.mpr ⟨ha, hb⟩) (by decide)
      omega) (by
      rw [l1]
      have : (a.natAbs.lcm b.natAbs) ≤ a.natAbs * b.natAbs := by
        unfold Nat.lcm
        exact Nat.div_le_self _ _
      have h2 : a.natAbs * b.natAbs < 2 ^ 12000 := Nat.lt_of_lt_of_le (Nat.mul_lt_mul'' ha hb) (by rw [← Nat.pow_add]; exact Nat.le_refl _)
      have h3 : (((a.natAbs.lcm b.natAbs : Nat) : Int)).natAbs.log2 < 12000 := by
        rw [Int.natAbs_natCast]
        exact log_lt (Nat.lt_of_le_of_lt this h2) (by decide)
      exact Nat.lt_of_lt_of_le h3 (by decide))
  rw [l1] at g
  exact call_function_meets PySem.W.MGF.kind_lcm PySem.W.MGF.plain_lcm PySem.W.MGF.entry_lcm (PySem.W.MGF.args_lcm _ _) g.meets ⟨.int _, H, I.tok _, ⟨_, rfl⟩, q⟩
theorem bc_lcm : Bc c (.builtin "math.lcm") fun ds d => ∃ i j : Int, ds = [.int i, .int j] ∧ (Bd 6000 i ∧ Bd 6000 j) ∧ d = .int ((Nat.lcm i.natAbs j.natAbs : Nat) : Int) := fun X hx => ⟨_, cr_lcm, fun I H vs ds d Q ex r ⟨i, j, e1, hb, e2⟩ q => by
  subst e1 e2
  obtain ⟨v, u, rfl, rv, ru⟩ := dpa2 r
  cases rv
  cases ru
  exact ⟨i, j, rfl, hb.1, hb.2, q _ (.int _)⟩⟩
/-- repr of data -/
theorem cr_repr {X : Cx} (hg : X.A.guards = some []) (hu : X.A.units + 64 < cLine) : CallR X (.builtin "repr") fun vs H Q => ∃ v d, vs = [v] ∧ Dp X.K H v d ∧ isDisplay d = true ∧ d.showable = true ∧ d.hasDict = false ∧ d.depth < 60 ∧ d.shown.length ≤ sizeLine ∧ Q (.str d.shown) H := by
  intro pins s σ H vs us Q I r h
  obtain ⟨v, d, rfl, hd, h1, h2, h3, h4, h5, q⟩ := h
  obtain ⟨u, rfl, ru⟩ := vals1 r
  obtain ⟨as, rd⟩ := Dp.reads I d v u hd ru
  obtain ⟨a, rfl⟩ := isRef_of_reads rd h1
  exact repr_of_reads' rd h2 (PyData.noDict_hsm h3) hg (by omega) (fun _ _ e => e) (fun h' u tk hk => ⟨.str d.shown, H, I.kept hk, ⟨_, rfl⟩, q⟩) h5
theorem bc_repr : Bc c (.builtin "repr") fun ds d => ∃ d0, ds = [d0] ∧ (isDisplay d0 = true ∧ d0.showable = true ∧ d0.hasDict = false ∧ d0.depth < 60 ∧ d0.shown.length ≤ sizeLine) ∧ d = .str d0.shown := fun X hx => ⟨_, cr_repr hx.gu hx.room.units, fun I H vs ds d Q ex r ⟨d0, e1, e2, e3⟩ q => by
  subst e1 e3
  obtain ⟨v, rfl, rv⟩ := dpa1 r
  exact ⟨v, d0, rfl, by rw [hx.K]; exact ex.dp rv, e2.1, e2.2.1, e2.2.2.1, e2.2.2.2.1, e2.2.2.2.2, q _ (.str _)⟩⟩
theorem ee_bits {apos : Pos} (h : EvE c a en fun d en1 => ∃ i, d = .int i ∧ Q (.int (Builtin.Int.intBits i : Nat)) en1) (hbase : ∀ env, attributeBase a "bit_length" env (eval a env) = eval a env := by intro _; rfl) (hline : (apos.endLine == pos.line) = true := by rfl) :
    EvE c (.Call (.Attribute a "bit_length" apos) [] [] pos) en Q := fun X hx σ I H k o f => by
  refine wE_of (pe_bits wE_pe (hbase _) hline) ?_
  refine h X hx σ I H _ o fun v d en1 I1 H1 o1 g1 r1 q1 => ?_
  obtain ⟨i, rfl, q⟩ := q1
  cases r1
  exact ⟨i, rfl, f _ _ en1 I1 H1 o1 g1 (.int _) q⟩
/-! ### isinstance -/
def isTy : PyData → String → Bool
  | .int _, T => T == "int"
  | .bool _, T => T == "bool" || T == "int"
  | .tuple _, T => T == "tuple"
  | .none, _ => false
  | .str _, T => T == "str"
  | .list _, T => T == "list"
  | .dict _, T => T == "dict"
theorem sql_ty {K : PySem.W.Frag} {H : Hp} {a : Addr} {xs : List V} (h : SqL K H a xs) : TyX K H (.ref a) (.type "list") := by
  rcases h with (h | ⟨o, h⟩) | ⟨o, its, n, h1, h2, h3⟩
  · exact .base (.lst h)
  · exact .base (.frz h)
  · exact .kList h1 h2
theorem sqt_ty {K : PySem.W.Frag} {H : Hp} {a : Addr} {xs : List V} (h : SqT K H a xs) : TyX K H (.ref a) (.type "tuple") := by
  rcases h with (h | ⟨o, h⟩) | ⟨o, its, n, h1, h2, h3⟩
  · exact .base (.tup h)
  · exact .fTuple h
  · exact .kTuple h1 h2
theorem kit_all : ∀ T, T = "int" ∨ T = "bool" ∨ T = "tuple" → ∀ K : PySem.W.Frag, PySem.W.kitOne K (.type "int") (.type T) = some (T == "int") ∧ PySem.W.kitOne K (.type "bool") (.type T) = some (T == "bool" || T == "int") ∧ PySem.W.kitOne K (.type "tuple") (.type T) = some (T == "tuple") ∧ PySem.W.kitOne K (.type "NoneType") (.type T) = some false ∧ PySem.W.kitOne K (.type "str") (.type T) = some false ∧ PySem.W.kitOne K (.type "list") (.type T) = some false := by
  intro T hT K
  rcases hT with rfl | rfl | rfl <;> exact ⟨by rfl, by rfl, by rfl, by rfl, by rfl, by rfl⟩
theorem ee_isi {y : Str} {j : Pos} (hT : T = "int" ∨ T = "bool" ∨ T = "tuple") (hg : glB (c.sc.names.lookup (("isinstance" : Str))) = true) (hm : c.g.mg "isinstance" = none) (hy : glB (c.sc.names.lookup y) = true) (hym : c.g.mg y = none) (hv : bootBuiltins y = some (.type T))
    (h : EvE c a en fun d en1 => Q (.bool (isTy d T)) en1) (hyn : y ≠ "__name__" := by decide) (hyd : (y == ("__debug__" : Str)) = false := by decide)
    (he : ∀ env, starEach (a :: [.Name y j]) env = (false, eval a env) :: starEach [.Name y j] env := by intro _; rfl) : EvE c (.Call (.Name "isinstance" p) [a, .Name y j] [] pos) en Q := fun X hx σ I H k o f => by
  refine wE_of (pe_callB call_isi (gl_of hx hg) (by rw [hx.mg]; exact hm) (by decide +kernel) (pa_cons wE_pe (pa_cons (pe_bltn (v := .ty T) (gl_of hx hy) (by rw [hx.mg]; exact hym) hv rfl hyn hyd) pa_nil) (he _)) (by decide) (by decide) (he _)) ?_
  refine h X hx σ I H _ o fun v d en1 I1 H1 o1 g1 r1 q => ?_
  have kk := kit_all T hT X.K
  cases r1 with
  | non => exact ⟨_, _, .type "NoneType", .type T, _, rfl, .ty T, .base .non, kk.2.2.2.1, f _ _ en1 I1 H1 o1 g1 (.bl _) q⟩
  | bl z => exact ⟨_, _, .type "bool", .type T, _, rfl, .ty T, .base (.bl z), kk.2.1, f _ _ en1 I1 H1 o1 g1 (.bl _) q⟩
  | int z => exact ⟨_, _, .type "int", .type T, _, rfl, .ty T, .base (.int z), kk.1, f _ _ en1 I1 H1 o1 g1 (.bl _) q⟩
  | str z =>
    refine ⟨_, _, .type "str", .type T, false, rfl, .ty T, .base (.str z), kk.2.2.2.2.1, f _ _ en1 I1 H1 o1 g1 (.bl _) ?_⟩
    rcases hT with rfl | rfl | rfl <;> exact q
  | lst s1 ra =>
    refine ⟨_, _, .type "list", .type T, false, rfl, .ty T, sql_ty (by rw [hx.K]; exact o1.ex.sql s1), kk.2.2.2.2.2, f _ _ en1 I1 H1 o1 g1 (.bl _) ?_⟩
    rcases hT with rfl | rfl | rfl <;> exact q
  | tup s1 ra => exact ⟨_, _, .type "tuple", .type T, _, rfl, .ty T, sqt_ty (by rw [hx.K]; exact o1.ex.sqt s1), kk.2.2.1, f _ _ en1 I1 H1 o1 g1 (.bl _) q⟩
/-! ### built-ins that make a new object -/
theorem ee_divmod (hg : glB (c.sc.names.lookup (("divmod" : Str))) = true) (hm : c.g.mg "divmod" = none) (h : EvA c (e :: es) en fun ds en1 => ∃ i j, ds = [.int i, .int j] ∧ (0 < j ∧ j < 1073741824) ∧ Q (.tuple [.int (i / j), .int (i % j)]) en1)
    (he : ∀ env, starEach (e :: es) env = (false, eval e env) :: starEach es env := by intro _; rfl) (hpl : ∀ env, (backTo pos (starEach es env)).any (·.1) = false := by intro _; rfl) : EvE c (.Call (.Name "divmod" p) (e :: es) [] pos) en Q := fun X hx σ I H k o f => by
  refine wE_of (pe_callB call_divmodW (gl_of hx hg) (by rw [hx.mg]; exact hm) (by decide +kernel) wA_pa (by decide) (by decide) (he _) (hpl _)) ?_
  refine h X hx σ I H _ o fun vs ds en1 I1 H1 o1 g1 r1 ⟨i, j, e1, hj, q⟩ => ?_
  subst e1
  obtain ⟨v, u, rfl, rv, ru⟩ := dpa2 r1
  cases rv
  cases ru
  refine ⟨i, j, rfl, ⟨hj.1, PyProof.noPylong_small (by omega)⟩, fun p hp => ?_⟩
  obtain ⟨o2, g2⟩ := o1.lay (o := .tup [.int (i / j), .int (i % j)]) hp
  exact f _ _ en1 _ _ o2 (g1.trans g2) (.tup (.inl (.inl upd_same)) (.cons (.int _) (.cons (.int _) .nil))) q
theorem ee_tupleOf (hg : glB (c.sc.names.lookup (("tuple" : Str))) = true) (hm : c.g.mg "tuple" = none) (h : EvE c e en fun d en1 => ∃ xs, seqOf d = some xs ∧ Q (.tuple xs) en1)
    (he : ∀ env, starEach [e] env = [(false, eval e env)] := by intro _; rfl) : EvE c (.Call (.Name "tuple" p) [e] [] pos) en Q := fun X hx σ I H k o f => by
  refine wE_of (pe_callTy call_tuple_of (gl_of hx hg) (by rw [hx.mg]; exact hm) (by decide +kernel) (pa_cons wE_pe pa_nil (he _)) (by decide) (by decide) (he _)) ?_
  refine h X hx σ I H _ o fun v d en1 I1 H1 o1 g1 r1 ⟨xs, e1, q⟩ => ?_
  cases r1 with
  | non => cases e1
  | bl _ => cases e1
  | int _ => cases e1
  | str _ => cases e1
  | lst s1 ra =>
    cases e1
    refine ⟨_, _, rfl, .inl ⟨by rw [hx.K]; exact o1.ex.sql s1, fun p hp => ?_⟩⟩
    obtain ⟨o2, g2⟩ := o1.lay (o := .tup _) hp
    exact f _ _ en1 _ _ o2 (g1.trans g2) (.tup (.inl (.inl upd_same)) (g2.i.dpa ra)) q
  | tup s1 ra =>
    cases e1
    exact ⟨_, _, rfl, .inr ⟨by rw [hx.K]; exact o1.ex.sqt s1, f _ _ en1 _ _ o1 g1 (.tup s1 ra) q⟩⟩
theorem en_listOf (hg : glB (c.sc.names.lookup (("list" : Str))) = true) (hm : c.g.mg "list" = none) (h : EvE c e en fun d en1 => ∃ xs, seqOf d = some xs ∧ ∀ a, ¬ Cin en1 a → QN a xs en1)
    (he : ∀ env, starEach [e] env = [(false, eval e env)] := by intro _; rfl) : EvN c (.Call (.Name "list" p) [e] [] pos) en QN := fun X hx σ I H k o f => by
  refine wE_of (pe_callTy call_list_of (gl_of hx hg) (by rw [hx.mg]; exact hm) (by decide +kernel) (pa_cons wE_pe pa_nil (he _)) (by decide) (by decide) (he _)) ?_
  refine h X hx σ I H _ o fun v d en1 I1 H1 o1 g1 r1 ⟨xs, e1, q⟩ => ?_
  obtain ⟨a, us, rfl, hs, ra⟩ := dp_seq r1 e1
  refine ⟨a, us, rfl, ?_, fun p hp => ?_⟩
  · rw [hx.K]
    rcases hs with hs | hs
    · exact .inl (o1.ex.sql hs)
    · exact .inr (o1.ex.sqt hs)
  · obtain ⟨o2, g2, n2⟩ := o1.own hp ra
    refine f _ p xs en1 _ _ o2 (g1.trans g2) ⟨n2.ref, n2.i, n2.c, ?_, n2.l⟩ (q p n2.c)
    cases ee : H p with
    | none => rfl
    | some u => exact absurd hp (g1.k p (some_ne ee))
/-! ### slices -/
def cutD {α : Type} (xs : List α) (lo hi : Option Int) : List α := (xs.drop (HT.sIx xs.length 0 lo)).take (HT.sIx xs.length xs.length hi - HT.sIx xs.length 0 lo)
def EvO (c : Cs) (e : Option Expr) (en : En) (Q : Option Int → En → Prop) : Prop := match e with
  | none => Q none en
  | some e => EvE c e en fun d en1 => ∃ i, d = .int i ∧ Q (some i) en1
def wO (X : Cx) (e : Option Expr) : TO := match e with
  | none => tNoPart
  | some e => tPart (wE X e)
theorem wO_po {X : Cx} : ∀ {e : Option Expr}, PO X e (wO X e)
  | none => po_none
  | some _ => po_some wE_pe
theorem evo_run {X : Cx} (hx : Hs c X) : ∀ {e : Option Expr} {en : En} {Q : Option Int → En → Prop}, EvO c e en Q → ∀ {σ : L2.St} {I H : Hp} {k : Option Int → Hp → Prop}, Ok c.g.K σ I H en →
    (∀ o en' I' H', Ok c.g.K σ I' H' en' → Go en I H en' I' H' → Q o en' → k o H') → wO X e σ H k
  | none, en, Q, h, σ, I, H, k, o, f => f none en I H o (Go.refl en I H) h
  | some e, en, Q, h, σ, I, H, k, o, f => by
    have h' : EvE c e en fun d en1 => ∃ i, d = .int i ∧ Q (some i) en1 := h
    refine h' X hx σ I H _ o fun v d en1 I1 H1 o1 g1 r1 ⟨i, e1, q⟩ => ?_
    subst e1
    cases r1
    exact ⟨i, rfl, f (some i) en1 I1 H1 o1 g1 q⟩
theorem cut_dpa {K : PySem.W.Frag} {I : Hp} {vs : List V} {ds : List PyData} (r : DpAll K I vs ds) (lo hi : Option Int) : DpAll K I (cutV vs lo hi) (cutD ds lo hi) := by
  unfold cutV cutD
  rw [dpa_len r]
  exact dpa_take _ (dpa_drop _ r)
theorem en_slice {lo hi : Option Expr} (h : EvE c a en fun d en1 => EvO c lo en1 fun l en2 => EvO c hi en2 fun u en3 => ∃ xs, d = .list xs ∧ ∀ p, ¬ Cin en3 p → QN p (cutD xs l u) en3) : EvN c (.Subscript a (.Slice lo hi none p2) pos) en QN := fun X hx σ I H k o f => by
  refine wE_of (pe_slice sl_list wE_pe wO_po wO_po) ?_
  refine h X hx σ I H _ o fun v d en1 I1 H1 o1 g1 r1 q1 => ?_
  refine evo_run hx q1 o1 fun l en2 I2 H2 o2 g2 q2 => ?_
  refine evo_run hx q2 o2 fun u en3 I3 H3 o3 g3 q3 => ?_
  obtain ⟨xs, e1, q⟩ := q3
  subst e1
  cases r1 with
  | lst s1 ra =>
    have ra' := (g2.i.trans g3.i).dpa ra
    refine ⟨_, _, rfl, by rw [hx.K]; exact o3.ex.sql ((g2.i.trans g3.i).sql s1), fun p hp => ?_⟩
    obtain ⟨o4, g4, n4⟩ := o3.own hp (cut_dpa ra' l u)
    refine f _ p _ en3 _ _ o4 (g1.trans (g2.trans (g3.trans g4))) ⟨n4.ref, n4.i, n4.c, ?_, n4.l⟩ (q p n4.c)
    cases ee : H p with
    | none => rfl
    | some u => exact absurd hp ((g1.trans (g2.trans g3)).k p (some_ne ee))
theorem ee_sliceT {lo hi : Option Expr} (h : EvE c a en fun d en1 => EvO c lo en1 fun l en2 => EvO c hi en2 fun u en3 => ∃ xs, d = .tuple xs ∧ Q (.tuple (cutD xs l u)) en3) : EvE c (.Subscript a (.Slice lo hi none p2) pos) en Q := fun X hx σ I H k o f => by
  refine wE_of (pe_slice sl_tupA wE_pe wO_po wO_po) ?_
  refine h X hx σ I H _ o fun v d en1 I1 H1 o1 g1 r1 q1 => ?_
  refine evo_run hx q1 o1 fun l en2 I2 H2 o2 g2 q2 => ?_
  refine evo_run hx q2 o2 fun u en3 I3 H3 o3 g3 q3 => ?_
  obtain ⟨xs, e1, q⟩ := q3
  subst e1
  cases r1 with
  | tup s1 ra =>
    have ra' := (g2.i.trans g3.i).dpa ra
    have s1' := (g2.i.trans g3.i).sqt s1
    have cd := cut_dpa ra' l u
    refine ⟨_, _, rfl, by rw [hx.K]; exact o3.ex.sqt s1', fun hw => ?_, fun _ p hp => ?_⟩
    · refine f _ _ en3 I3 H3 o3 (g1.trans (g2.trans g3)) (.tup s1' ?_) q
      unfold cutV at cd
      rw [hw.1, hw.2, List.drop_zero, Nat.sub_zero, List.take_length] at cd
      exact cd
    · obtain ⟨o4, g4⟩ := o3.lay (o := .tup (cutV _ l u)) hp
      exact f _ _ en3 _ _ o4 (g1.trans (g2.trans (g3.trans g4))) (.tup (.inl (.inl upd_same)) (g4.i.dpa cd)) q
end
end Ly
namespace Ly
open PySem PySem.Spec PyProof.Rows L2

/-! ### a def's promise, nothing being shown just now -/
structure FnG (g : Gc) (k : Nat) (f : Addr) (fd : FuncData) (ps : List Str) (sp : Sp) : Prop where
  len : ∀ vs H Q E, sp vs H Q E → vs.length = ps.length
  run : ∀ (A : Around) (outer : List Env) (s : Shared) (H : Hp) (args : Args) (us : List Value) (vs : List V) (Q : VK), Room k A → A.guards = some [] → Env0 g.P g.w g.K g.mg g.base A outer s H →
    BindsTo s fd args (ps.zip us) → Vals vs us → sp vs H Q E0 → codeAny (model g.P g.w) A (.call (.ref f) args) (CR CX0 outer g.P g.w H s Q E0) s
theorem hs_cxOf {g : Gc} {N ps : List Str} {qual : Str} {sc : Scope} {f : Addr} {cd : Value} {A : Around} {outer : List Env} {s : Shared} {H : Hp} {k : Nat} (S : FnScope N ps sc) (hr : Room (k + 1) A) (hg : A.guards = some []) :
    Hs ⟨g, N, sc, fun _ => true, k⟩ (cxOf CX0 g.P g.w g.K g.mg g.base N qual sc f cd A outer s H E0).nox where
  p := rfl
  w := rfl
  K := rfl
  mg := rfl
  base := rfl
  N := rfl
  sc := rfl
  calm := rfl
  room := hr.deeper _
  gu := hg
  xe := rfl
  nd := S.nd
  fn := fun _ _ => rfl
  fk := S.kind
theorem FnG.of {g : Gc} {x qual : Str} {st : Stmt} {f : Addr} {fd : FuncData} {N ps : List Str} {k : Nat} {sp : Sp} (F : Fun g.K x qual st f fd) (S : FnScope N ps (defScope st)) (len : ∀ vs H Q E, sp vs H Q E → vs.length = ps.length)
    (body : ∀ X vs H (Q : VK), Hs ⟨g, N, defScope st, fun _ => true, k⟩ X → sp vs H Q E0 → wB X (defBody st) { nx := fun _ H' => Q .non H', rt := Q } (start N vs) H) : FnG g (k + 1) f fd ps sp where
  len := len
  run := fun A outer s H args us vs Q hr hgu e0 hb rv hsp => by
    obtain ⟨oc, od, kV, doc, pm, an, cdv, ct, osl, rfl, lk, hcd⟩ := F.ex
    have n1 := len _ _ _ _ hsp
    have hK : g.K.In s.heap := e0.mod.kin.keeps fun q o z => (e0.bs q o z).1
    have hlim : s.heap.NoLimit := e0.mod.nolimit.keeps fun q o z => (e0.bs q o z).1
    have kinds : ∀ y ∈ ps.zip us, (defScope st).names.lookup y.1 = some .local ∨ ((defScope st).names.lookup y.1 = some .cell ∧ ((cellsFrom (s.heap.objs.size + 1) (defScope st).names []).lookup y.1).isSome = true) := by
      rintro ⟨n, v⟩ hy
      rcases S.par n (List.of_mem_zip hy).1 with z | z
      · exact .inl z
      · exact .inr ⟨z, PySem.W.cellsFrom_some _ _ _ (.inl z)⟩
    refine codeAny_call_function hr.depth (hK _ _ lk) rfl S.co S.gen rfl (PySem.W.codeRec_of hK hcd) (hb _ _ _ _ ?_)
    refine wpAny_newFunctionEnv_cells S.kind kinds fun env henv s1 hin => ?_
    subst henv
    refine ⟨hlim.keeps hin.toInCall.keep, codeAny_func ?_⟩
    have hX := hs_cxOf (g := g) (qual := qual) (f := f) (cd := cdv) (outer := outer) (s := s) (H := H) (k := k) S hr hgu
    have hB := body _ vs H Q hX hsp
    have J : Inv (cxOf CX0 g.P g.w g.K g.mg g.base N qual (defScope st) f cdv A outer s H E0) [] (start N vs) H s1 := inv_start S hr.hd e0 n1 rv hin
    have hrun := ((wB_pss (X := (cxOf CX0 g.P g.w g.K g.mg g.base N qual (defScope st) f cdv A outer s H E0).nox) (st := defBody st)).nox).run [] s1 (start N vs) H _ J hB
    refine wpAny_mono hrun (fun fl s' hs => ?_) fun e s' hs => hs
    cases fl with
    | ret u =>
      obtain ⟨v, σ', H', J', ru, q⟩ := hs
      exact ⟨v, H', J'.os, J'.bare, J'.base, J'.hok, ru, q⟩
    | next =>
      obtain ⟨σ', H', J', q⟩ := hs
      exact ⟨.non, H', J'.os, J'.bare, J'.base, J'.hok, rfl, q⟩
    | brk =>
      obtain ⟨_, _, _, q⟩ := hs
      exact False.elim q
    | cont =>
      obtain ⟨_, _, _, q⟩ := hs
      exact False.elim q
/-- what is promised, by data -/
abbrev Pre := List Sl → (Sl → List Sl → Prop) → Prop
def spD (K : PySem.W.Frag) (pre : Pre) : Sp := fun vs H Q _ => ∃ I args post, Ok K (vs.map some) I H args ∧ pre args post ∧
  ∀ v s args' I' H', Ok K (vs.map some) I' H' args' → Go args I H args' I' H' → Vr K args H args' I' H' v s → post s args' → Q v H'
structure Def (g : Gc) (x : Str) (st : Stmt) (ps : List Str) : Prop where
  ex : ∃ f fd, Fun g.K x x st f fd ∧ g.mg x = some (.ref f) ∧ Binds g.K fd ps []
structure Knows (g : Gc) (x : Str) (k : Nat) (ps : List Str) (pre : Pre) : Prop where
  ex : ∃ f fd, FnG g k f fd ps (spD g.K pre) ∧ g.mg x = some (.ref f) ∧ PySem.W.keepIn g.K (.ref f) = true ∧ Binds g.K fd ps []
/-- the arguments behind the call: what may be written is as the body left it -/
structure Back (args : List Sl) (en : En) (args' : List Sl) : Prop where
  len : args'.length = args.length
  dat : ∀ (i : Nat) d, args[i]? = some (Sl.dat d) → args'[i]? = some (Sl.dat d)
  no : ∀ (i : Nat), args[i]? = some Sl.no → args'[i]? = some Sl.no
  cel : ∀ (i : Nat) a xs, args[i]? = some (Sl.cel a xs) → ∃ ys, en[i]? = some (Sl.cel a ys) ∧ args'[i]? = some (Sl.cel a ys)
/-- what a def's body must come to -/
def Rt (args : List Sl) (post : Sl → List Sl → Prop) (s : Sl) (en : En) : Prop := ∃ args', Back args en args' ∧ post s args'
def nos (n : Nat) : En := List.replicate n .no
theorem start_ok {K : PySem.W.Frag} {vs : List V} {I H : Hp} {args : List Sl} {N ps : List Str} (o : Ok K (vs.map some) I H args) (h : vs.length = ps.length) : Ok K (L2.start N vs) I H (args ++ nos (N.length - ps.length)) := by
  have hl : args.length = vs.length := by
    rw [o.len, List.length_map]
  have at_ : ∀ {i : Nat} {s : Sl}, (args ++ nos (N.length - ps.length))[i]? = some s → s ≠ .no → args[i]? = some s ∧ i < vs.length := fun {i s} q hn => by
    by_cases hi : i < args.length
    · rw [List.getElem?_append_left hi] at q
      exact ⟨q, by omega⟩
    · rw [List.getElem?_append_right (by omega)] at q
      unfold nos at q
      rw [List.getElem?_replicate] at q
      split at q
      · cases q
        exact absurd rfl hn
      · cases q
  have st : ∀ {i : Nat}, i < vs.length → (L2.start N vs)[i]? = (vs.map some)[i]? := fun {i} hi => by
    unfold L2.start
    rw [List.getElem?_append_left (by simpa using hi)]
  refine ⟨?_, o.ex, fun i d q => ?_, fun i a xs q => ?_, fun i j a xs ys q1 q2 => ?_⟩
  · unfold L2.start nos
    rw [List.length_append, List.length_append, List.length_replicate, List.length_map, List.length_replicate, hl, h]
  · obtain ⟨q, hi⟩ := at_ q (by simp)
    rw [st hi]
    exact o.dat i d q
  · obtain ⟨q, hi⟩ := at_ q (by simp)
    rw [st hi]
    exact o.cel i a xs q
  · exact o.one i j a xs ys (at_ q1 (by simp)).1 (at_ q2 (by simp)).1
theorem cin_nos {args : List Sl} {n : Nat} {b : Addr} (h : Cin (args ++ nos n) b) : Cin args b := by
  obtain ⟨i, xs, q⟩ := h
  by_cases hi : i < args.length
  · rw [List.getElem?_append_left hi] at q
    exact ⟨i, xs, q⟩
  · rw [List.getElem?_append_right (by omega)] at q
    unfold nos at q
    rw [List.getElem?_replicate] at q
    split at q <;> cases q
theorem cin_nos' {args : List Sl} {n : Nat} {b : Addr} (h : Cin args b) : Cin (args ++ nos n) b := by
  obtain ⟨i, xs, q⟩ := h
  exact ⟨i, xs, by rw [List.getElem?_append_left (List.getElem?_eq_some_iff.mp q).1]; exact q⟩
theorem fnG_body {g : Gc} {x : Str} {st : Stmt} {N ps : List Str} {k : Nat} {pre : Pre} {f : Addr} {fd : FuncData} (F : Fun g.K x x st f fd) (S : FnScope N ps (defScope st)) (len : ∀ args post, pre args post → args.length = ps.length)
    (body : ∀ args post, pre args post → EvB ⟨g, N, defScope st, fun _ => true, k⟩ (defBody st) (args ++ nos (N.length - ps.length)) ⟨Rt args post (.dat .none), Rt args post, fun _ => False, fun _ => False⟩) : FnG g (k + 1) f fd ps (spD g.K pre) := by
  have hlen : ∀ vs H Q E, spD g.K pre vs H Q E → vs.length = ps.length := fun vs H Q E ⟨I, args, post, o, hp, _⟩ => by
    have := o.len
    rw [List.length_map, len args post hp] at this
    exact this.symm
  refine FnG.of F S hlen fun X vs H Q hx hsp => ?_
  have hv := hlen _ _ _ _ hsp
  obtain ⟨I, args, post, o, hp, hq⟩ := hsp
  have o0 := start_ok (N := N) o hv
  have fin : ∀ (v : V) (s : Sl) (σ' : L2.St) (en' : En) (I' H' : Hp), Ok g.K σ' I' H' en' → Go (args ++ nos (N.length - ps.length)) I H en' I' H' → Vr g.K (args ++ nos (N.length - ps.length)) H en' I' H' v s → Rt args post s en' → Q v H' := fun v s σ' en' I' H' o' g' r ⟨args', bk, rp⟩ => by
    have fwd : ∀ {i : Nat} {t : Sl}, args'[i]? = some t → (∃ d, t = .dat d ∧ args[i]? = some (Sl.dat d)) ∨ t = .no ∨ ∃ a xs ys, t = .cel a ys ∧ args[i]? = some (Sl.cel a xs) ∧ en'[i]? = some (Sl.cel a ys) := fun {i t} q => by
      have hi : i < args.length := by
        rw [← bk.len]
        exact (List.getElem?_eq_some_iff.mp q).1
      cases e : args[i] with
      | no =>
        have := bk.no i (by rw [List.getElem?_eq_getElem hi, e])
        rw [q] at this
        exact .inr (.inl (Option.some.inj this))
      | dat d =>
        have := bk.dat i d (by rw [List.getElem?_eq_getElem hi, e])
        rw [q] at this
        exact .inl ⟨d, Option.some.inj this, by rw [List.getElem?_eq_getElem hi, e]⟩
      | cel a xs =>
        obtain ⟨ys, h1, h2⟩ := bk.cel i a xs (by rw [List.getElem?_eq_getElem hi, e])
        rw [q] at h2
        exact .inr (.inr ⟨a, xs, ys, Option.some.inj h2, by rw [List.getElem?_eq_getElem hi, e], h1⟩)
    have c1 : ∀ b, Cin args' b → Cin args b := fun b ⟨i, xs, q⟩ => by
      rcases fwd q with ⟨d, z, _⟩ | z | ⟨a, xs, ys, z, q1, _⟩
      · cases z
      · cases z
      · cases z
        exact ⟨i, _, q1⟩
    have c2 : ∀ b, Cin args b → Cin en' b := fun b ⟨i, xs, q⟩ => let ⟨ys, h1, _⟩ := bk.cel i b xs q; ⟨i, ys, h1⟩
    have c3 : ∀ b, ¬ Cin args b → ¬ Cin (args ++ nos (N.length - ps.length)) b := fun b z y => z (cin_nos y)
    refine hq v s args' I' H' ⟨?_, o'.ex, fun i d q => ?_, fun i a xs q => ?_, fun i j a xs ys q1 q2 => ?_⟩ ⟨g'.i, fun b u h1 h2 => g'.h b u h1 (c3 b h2), fun b h1 h2 h3 => g'.n b h1 h2 (c3 b h3), fun b h => .inl (c1 b h), g'.k⟩ ?_ rp
    · rw [bk.len, o.len]
    · rcases fwd q with ⟨d', z, q1⟩ | z | ⟨a, xs, ys, z, _⟩
      · cases z
        obtain ⟨w', h1, h2⟩ := o.dat i d q1
        exact ⟨w', h1, g'.i.dp h2⟩
      · cases z
      · cases z
    · rcases fwd q with ⟨d', z, q1⟩ | z | ⟨a', xs', ys, z, q1, q2⟩
      · cases z
      · cases z
      · cases z
        obtain ⟨h1, _, _⟩ := o.cel i a _ q1
        obtain ⟨_, h2, h3⟩ := o'.cel i a _ q2
        exact ⟨h1, h2, h3⟩
    · rcases fwd q1 with ⟨d', z, q1⟩ | z | ⟨a', xs', ys, z, p1, _⟩
      · cases z
      · cases z
      · cases z
        rcases fwd q2 with ⟨d', z, q1⟩ | z | ⟨a', xs', ys, z, p2, _⟩
        · cases z
        · cases z
        · cases z
          exact o.one i j a _ _ p1 p2
    · cases s with
      | no => exact r
      | dat d => exact r
      | cel a xs =>
        obtain ⟨h1, h2, h3, h4, h5⟩ := r
        refine ⟨h1, h2, fun z => h3 (c2 a (c1 a z)), ?_, h5⟩
        rcases h4 with z | z
        · exact absurd (c2 a (cin_nos z)) h3
        · exact .inr z
  refine body args post hp X hx _ I H _ o0 ⟨fun σ' en' I' H' o' g' r => ?_, fun _ _ _ _ _ _ r => r.elim, fun _ _ _ _ _ _ r => r.elim, fun v s σ' en' I' H' o' g' r d => fin v s σ' en' I' H' o' g' r d⟩
  exact fin .non (.dat .none) σ' en' I' H' o' g' Dp.non r
theorem Knows.mk' {g : Gc} {x : Str} {st : Stmt} {N ps : List Str} {k : Nat} {pre : Pre} (F : Def g x st ps) (S : FnScope N ps (defScope st)) (len : ∀ args post, pre args post → args.length = ps.length)
    (body : ∀ args post, pre args post → EvB ⟨g, N, defScope st, fun _ => true, k⟩ (defBody st) (args ++ nos (N.length - ps.length)) ⟨Rt args post (.dat .none), Rt args post, fun _ => False, fun _ => False⟩) : Knows g x (k + 1) ps pre := by
  obtain ⟨f, fd, F, hm, hb⟩ := F.ex
  exact ⟨f, fd, fnG_body F S len body, hm, F.kp, hb⟩
end Ly
namespace Ly
open PySem PySem.Spec PyProof.Rows L2

/-! ### forms of promises -/
def preP (pr : List PyData → (PyData → Prop) → Prop) : Pre := fun args post => ∃ ds, args = ds.map Sl.dat ∧ pr ds fun d => post (.dat d) args
def preN (pr : List PyData → (List PyData → Prop) → Prop) : Pre := fun args post => ∃ ds, args = ds.map Sl.dat ∧ pr ds fun xs => ∀ a, post (.cel a xs) args
def preC (pr : List PyData → List PyData → (PyData → List PyData → Prop) → Prop) : Pre := fun args post => ∃ a xs ds, args = .cel a xs :: ds.map Sl.dat ∧ pr xs ds fun d ys => post (.dat d) (.cel a ys :: ds.map Sl.dat)
def preC2 (pr : List PyData → List PyData → List PyData → (PyData → List PyData → List PyData → Prop) → Prop) : Pre := fun args post => ∃ a xs b zs ds, args = .cel a xs :: .cel b zs :: ds.map Sl.dat ∧ pr xs zs ds fun d ys ws => post (.dat d) (.cel a ys :: .cel b ws :: ds.map Sl.dat)
abbrev KnowsP (g : Gc) (x : Str) (k : Nat) (ps : List Str) (pr : List PyData → (PyData → Prop) → Prop) : Prop := Knows g x k ps (preP pr)
abbrev KnowsN (g : Gc) (x : Str) (k : Nat) (ps : List Str) (pr : List PyData → (List PyData → Prop) → Prop) : Prop := Knows g x k ps (preN pr)
abbrev KnowsC (g : Gc) (x : Str) (k : Nat) (ps : List Str) (pr : List PyData → List PyData → (PyData → List PyData → Prop) → Prop) : Prop := Knows g x k ps (preC pr)
abbrev KnowsC2 (g : Gc) (x : Str) (k : Nat) (ps : List Str) (pr : List PyData → List PyData → List PyData → (PyData → List PyData → List PyData → Prop) → Prop) : Prop := Knows g x k ps (preC2 pr)
theorem dat_at {ds : List PyData} {i : Nat} {s : Sl} (h : (ds.map Sl.dat)[i]? = some s) : ∃ d, s = .dat d := by
  rw [List.getElem?_map] at h
  cases e : ds[i]? with
  | none => rw [e] at h; cases h
  | some d => rw [e] at h; cases h; exact ⟨d, rfl⟩
theorem dat_cin {ds : List PyData} {b : Addr} : ¬ Cin (ds.map Sl.dat) b := fun ⟨i, xs, h⟩ => by
  obtain ⟨d, z⟩ := dat_at h
  cases z
theorem EvB.imp {c : Cs} {sts : List Stmt} {en : En} {D D' : Eds} (h : EvB c sts en D) (h1 : ∀ e, D.nx e → D'.nx e) (h2 : ∀ s e, D.rt s e → D'.rt s e) (h3 : ∀ e, D.bk e → D'.bk e) (h4 : ∀ e, D.ct e → D'.ct e) : EvB c sts en D' :=
  fun X hx σ I H E o t => h X hx σ I H E o ⟨fun s e i k o g n => t.nx s e i k o g (h1 e n), fun s e i k o g n => t.bk s e i k o g (h3 e n), fun s e i k o g n => t.ct s e i k o g (h4 e n), fun v w s e i k o g r n => t.rt v w s e i k o g r (h2 w e n)⟩
theorem back_dat {ds : List PyData} {en : En} : Back (ds.map Sl.dat) en (ds.map Sl.dat) :=
  ⟨rfl, fun i d h => h, fun i h => h, fun i a xs h => let ⟨d, z⟩ := dat_at h; nomatch z⟩
section
variable {g : Gc} {x : Str} {st : Stmt} {N ps : List Str} {k : Nat}
theorem Knows.mkP {pr : List PyData → (PyData → Prop) → Prop} (F : Def g x st ps) (S : FnScope N ps (defScope st)) (len : ∀ ds post, pr ds post → ds.length = ps.length)
    (body : ∀ ds post, pr ds post → EvB ⟨g, N, defScope st, fun _ => true, k⟩ (defBody st) (ds.map Sl.dat ++ nos (N.length - ps.length)) ⟨fun _ => post .none, fun s _ => ∃ d, s = .dat d ∧ post d, fun _ => False, fun _ => False⟩) : KnowsP g x (k + 1) ps pr :=
  Knows.mk' F S (fun args post ⟨ds, e, h⟩ => by rw [e, List.length_map]; exact len ds _ h) fun args post ⟨ds, e, h⟩ => by
    subst e
    exact (body ds _ h).imp (fun e n => ⟨_, back_dat, n⟩) (fun s e ⟨d, z, n⟩ => by subst z; exact ⟨_, back_dat, n⟩) (fun _ z => z) (fun _ z => z)
theorem Knows.mkN {pr : List PyData → (List PyData → Prop) → Prop} (F : Def g x st ps) (S : FnScope N ps (defScope st)) (len : ∀ ds post, pr ds post → ds.length = ps.length)
    (body : ∀ ds post, pr ds post → EvB ⟨g, N, defScope st, fun _ => true, k⟩ (defBody st) (ds.map Sl.dat ++ nos (N.length - ps.length)) ⟨fun _ => False, fun s _ => ∃ a xs, s = .cel a xs ∧ post xs, fun _ => False, fun _ => False⟩) : KnowsN g x (k + 1) ps pr :=
  Knows.mk' F S (fun args post ⟨ds, e, h⟩ => by rw [e, List.length_map]; exact len ds _ h) fun args post ⟨ds, e, h⟩ => by
    subst e
    exact (body ds _ h).imp (fun e n => n.elim) (fun s e ⟨a, xs, z, n⟩ => by subst z; exact ⟨_, back_dat, n a⟩) (fun _ z => z) (fun _ z => z)
theorem back_cel {a : Addr} {xs ys : List PyData} {ds : List PyData} {r : En} : Back (.cel a xs :: ds.map Sl.dat) (.cel a ys :: r) (.cel a ys :: ds.map Sl.dat) := by
  refine ⟨rfl, fun i d h => ?_, fun i h => ?_, fun i b zs h => ?_⟩
  · cases i with
    | zero => cases h
    | succ i => exact h
  · cases i with
    | zero => cases h
    | succ i => exact h
  · cases i with
    | zero => cases h; exact ⟨ys, rfl, rfl⟩
    | succ i => obtain ⟨d, z⟩ := dat_at (ds := ds) (i := i) (s := Sl.cel b zs) h; cases z
theorem Knows.mkC {pr : List PyData → List PyData → (PyData → List PyData → Prop) → Prop} (F : Def g x st ps) (S : FnScope N ps (defScope st)) (len : ∀ xs ds post, pr xs ds post → ds.length + 1 = ps.length)
    (body : ∀ a xs ds post, pr xs ds post → EvB ⟨g, N, defScope st, fun _ => true, k⟩ (defBody st) (.cel a xs :: ds.map Sl.dat ++ nos (N.length - ps.length)) ⟨fun en => ∃ ys r, en = .cel a ys :: r ∧ post .none ys, fun s en => ∃ d ys r, s = .dat d ∧ en = .cel a ys :: r ∧ post d ys, fun _ => False, fun _ => False⟩) : KnowsC g x (k + 1) ps pr :=
  Knows.mk' F S (fun args post ⟨a, xs, ds, e, h⟩ => by rw [e, List.length_cons, List.length_map]; exact len xs ds _ h) fun args post ⟨a, xs, ds, e, h⟩ => by
    subst e
    exact (body a xs ds _ h).imp (fun e ⟨ys, r, z, n⟩ => by subst z; exact ⟨_, back_cel, n⟩) (fun s e ⟨d, ys, r, z, z2, n⟩ => by subst z z2; exact ⟨_, back_cel, n⟩) (fun _ z => z) (fun _ z => z)
theorem back_cel2 {a b : Addr} {xs ys zs ws : List PyData} {ds : List PyData} {r : En} : Back (.cel a xs :: .cel b zs :: ds.map Sl.dat) (.cel a ys :: .cel b ws :: r) (.cel a ys :: .cel b ws :: ds.map Sl.dat) := by
  refine ⟨rfl, fun i d h => ?_, fun i h => ?_, fun i b' zs h => ?_⟩
  · match i, h with
    | 0, h => cases h
    | 1, h => cases h
    | i + 2, h => exact h
  · match i, h with
    | 0, h => cases h
    | 1, h => cases h
    | i + 2, h => exact h
  · match i, h with
    | 0, h => cases h; exact ⟨ys, rfl, rfl⟩
    | 1, h => cases h; exact ⟨ws, rfl, rfl⟩
    | i + 2, h => obtain ⟨d, z⟩ := dat_at (ds := ds) (i := i) (s := Sl.cel b' zs) h; cases z
theorem Knows.mkC2 {pr : List PyData → List PyData → List PyData → (PyData → List PyData → List PyData → Prop) → Prop} (F : Def g x st ps) (S : FnScope N ps (defScope st)) (len : ∀ xs zs ds post, pr xs zs ds post → ds.length + 2 = ps.length)
    (body : ∀ a xs b zs ds post, pr xs zs ds post → EvB ⟨g, N, defScope st, fun _ => true, k⟩ (defBody st) (.cel a xs :: .cel b zs :: ds.map Sl.dat ++ nos (N.length - ps.length)) ⟨fun en => ∃ ys ws r, en = .cel a ys :: .cel b ws :: r ∧ post .none ys ws, fun s en => ∃ d ys ws r, s = .dat d ∧ en = .cel a ys :: .cel b ws :: r ∧ post d ys ws, fun _ => False, fun _ => False⟩) : KnowsC2 g x (k + 1) ps pr :=
  Knows.mk' F S (fun args post ⟨a, xs, b, zs, ds, e, h⟩ => by rw [e, List.length_cons, List.length_cons, List.length_map]; exact len xs zs ds _ h) fun args post ⟨a, xs, b, zs, ds, e, h⟩ => by
    subst e
    exact (body a xs b zs ds _ h).imp (fun e ⟨ys, ws, r, z, n⟩ => by subst z; exact ⟨_, back_cel2, n⟩) (fun s e ⟨d, ys, ws, r, z, z2, n⟩ => by subst z z2; exact ⟨_, back_cel2, n⟩) (fun _ z => z) (fun _ z => z)
end

/-! ### calls -/
theorem runG {X : Cx} {c : Cs} (hx : Hs c X) {k : Nat} {f : Addr} {fd : FuncData} {ps : List Str} {sp : Sp} (F : FnG c.g k f fd ps sp) (hk : k ≤ c.lv) (hb : Binds c.g.K fd ps []) {pins : List (Addr × Obj)} {σ : L2.St} {H : Hp} {s : Shared} {Q : VK} {us : List Value} {vs : List V}
    (J : Inv X pins σ H s) (r : Vals vs us) (h : sp vs H Q E0) : wpAny (model X.prog X.w) X.A (call (.ref f) us) (EP X pins σ Q) X.xe s := by
  have hl : us.length = ps.length := by
    rw [← r.length]
    exact F.len _ _ _ _ h
  have e0 := J.env0
  have kin := J.kIn
  rw [hx.p, hx.w, hx.K, hx.mg, hx.base] at e0
  rw [hx.K] at kin
  have bt : BindsTo s fd ⟨us, []⟩ (ps.zip us) := by
    have := hb s us kin (by simpa using hl)
    simpa using this
  have q := F.run X.A X.stack s H ⟨us, []⟩ us vs Q (hx.room.mono hk) hx.gu e0 bt r h
  rw [← hx.p, ← hx.w] at q
  refine wpAny_call (codeAny_mono q fun z s' hz => ?_)
  cases z with
  | error e => exact hz.elim
  | ok fl =>
    cases fl with
    | ret u => exact J.after hz
    | next => exact False.elim hz
    | brk => exact False.elim hz
    | cont => exact False.elim hz
section
variable {c : Cs} {e a b t : Expr} {es : List Expr} {en : En} {Q : PyData → En → Prop} {QN : Addr → List PyData → En → Prop} {pos p p2 p3 : Pos} {x y y2 : Str} {k : Nat} {ps : List Str} {pre : Pre}
theorem wE_call {X : Cx} (hx : Hs c X) {f : Addr} {fd : FuncData} {sp : Sp} (F : FnG c.g k f fd ps sp) (hk : k ≤ c.lv) (hg : glB (c.sc.names.lookup x) = true) (hm : c.g.mg x = some (.ref f)) (hkp : PySem.W.keepIn c.g.K (.ref f) = true) (hb : Binds c.g.K fd ps [])
    (hdb : (x == ("__debug__" : Str)) = false) {σ : L2.St} {H : Hp} {Q : VK} (ta : TA) (ha : PA X (e :: es) ta) (h : ta σ H fun vs H1 => sp vs H1 Q E0)
    (he : starEach (e :: es) X.env = (false, eval e X.env) :: starEach es X.env) (hpl : (backTo pos (starEach es X.env)).any (·.1) = false) : wE X (.Call (.Name x p) (e :: es) [] pos) σ H Q := fun pins s I => by
  refine wpAny_Call_Name_kw (ld_glob I (gl_of hx hg) (by rw [hx.mg]; exact hm) ?_ hdb)
  refine PySem.W.callWith_K (h₀ := X.base) I.ok.mod.kin (by rw [hx.K]; exact hkp) (thn (ha.run pos pins s σ H _ I h) fun us s1 ⟨vs, H1, I1, r, q⟩ => ⟨I1.kIn, ?_⟩) he hpl
  exact runG hx F hk hb I1 r q
/-- a def that is given data -/
theorem call_raw (F : Knows c.g x k ps pre) (hk : k ≤ c.lv) (hg : glB (c.sc.names.lookup x) = true) (R : Sl → En → Prop) (h : EvA c (e :: es) en fun ds en1 => pre (ds.map Sl.dat) fun s _ => R s en1)
    (hdb : (x == ("__debug__" : Str)) = false) (he : ∀ env, starEach (e :: es) env = (false, eval e env) :: starEach es env) (hpl : ∀ env, (backTo pos (starEach es env)).any (·.1) = false) :
    ∀ X, Hs c X → ∀ σ I H (kk : VK), Ok c.g.K σ I H en → (∀ v s en' I' H', Ok c.g.K σ I' H' en' → Go en I H en' I' H' → Vr c.g.K [] H en' I' H' v s → R s en' → kk v H') → wE X (.Call (.Name x p) (e :: es) [] pos) σ H kk := fun X hx σ I H kk o f => by
  obtain ⟨fa, fd, F, hm, hkp, hb⟩ := F.ex
  refine wE_call hx F hk hg hm hkp hb hdb _ wA_pa ?_ (he _) (hpl _)
  refine h X hx σ I H _ o fun vs ds en1 I1 H1 o1 g1 r1 q1 => ?_
  refine ⟨I1, ds.map Sl.dat, _, ⟨?_, o1.ex, fun i d z => ?_, fun i a xs z => ?_, fun i j a xs ys z => ?_⟩, q1, fun v s args' I' H' o' g' r' q' => ?_⟩
  · rw [List.length_map, List.length_map, dpa_len r1]
  · rw [List.getElem?_map] at z
    cases ee : ds[i]? with
    | none => rw [ee] at z; cases z
    | some d' =>
      rw [ee] at z
      cases z
      obtain ⟨v, h1, h2⟩ := dpa_get r1 ee
      exact ⟨v, by rw [List.getElem?_map, h1]; rfl, h2⟩
  · obtain ⟨d, y⟩ := dat_at z
    cases y
  · obtain ⟨d, y⟩ := dat_at z
    cases y
  · have keep : ∀ b u, H1 b = some u → H' b = some u := fun b u hb => g'.h b u hb dat_cin
    have keepI : ∀ b, H1 b ≠ none → I1 b = none → I' b = none := fun b h1 h2 => g'.n b h1 h2 dat_cin
    have o2 : Ok c.g.K σ I' H' en1 := o1.mono g'.i o'.ex fun b hb => by
      obtain ⟨h1, h2⟩ := o1.cin hb
      obtain ⟨u, hu⟩ := ne_some h2
      exact ⟨keepI b h2 h1, by rw [hu, keep b u hu]⟩
    have g2 : Go en1 I1 H1 en1 I' H' := ⟨g'.i, fun b u hb _ => keep b u hb, fun b h1 h2 _ => keepI b h1 h2, fun b hb => .inl hb, g'.k⟩
    refine f v s en1 I' H' o2 (g1.trans g2) ?_ q'
    cases s with
    | no => exact r'
    | dat d => exact r'
    | cel a xs =>
      obtain ⟨h1, h2, h3, h4, h5⟩ := r'
      have h4' : H1 a = none := by
        rcases h4 with z | z
        · exact absurd z dat_cin
        · exact z
      refine ⟨h1, h2, fun z => (o1.cin z).2 h4', .inr ?_, h5⟩
      cases ee : H a with
      | none => rfl
      | some u => exact absurd h4' (g1.k a (some_ne ee))
def RDat (Q : PyData → En → Prop) : Sl → En → Prop
  | .dat d, en => Q d en
  | _, _ => False
theorem ee_call {pr : List PyData → (PyData → Prop) → Prop} (F : KnowsP c.g x k ps pr) (hk : k ≤ c.lv) (hg : glB (c.sc.names.lookup x) = true) (h : EvA c (e :: es) en fun ds en1 => pr ds fun d => Q d en1)
    (hdb : (x == ("__debug__" : Str)) = false := by decide) (he : ∀ env, starEach (e :: es) env = (false, eval e env) :: starEach es env := by intro _; rfl) (hpl : ∀ env, (backTo pos (starEach es env)).any (·.1) = false := by intro _; rfl) :
    EvE c (.Call (.Name x p) (e :: es) [] pos) en Q := fun X hx σ I H kk o f =>
  call_raw F hk hg (RDat Q) (fun X hx σ I H k o f => h X hx σ I H k o fun vs ds en1 I1 H1 o1 g1 r1 q1 => f vs ds en1 I1 H1 o1 g1 r1 ⟨ds, rfl, q1⟩) hdb he hpl X hx σ I H kk o fun v s en' I' H' o' g' r' q => by
    cases s with
    | dat d => exact f v d en' I' H' o' g' r' q
    | no => exact q.elim
    | cel a xs => exact q.elim
def RCel (Q : Addr → List PyData → En → Prop) : Sl → En → Prop
  | .cel a xs, en => ¬ Cin en a → Q a xs en
  | _, _ => False
theorem en_call {pr : List PyData → (List PyData → Prop) → Prop} (F : KnowsN c.g x k ps pr) (hk : k ≤ c.lv) (hg : glB (c.sc.names.lookup x) = true) (h : EvA c (e :: es) en fun ds en1 => pr ds fun xs => ∀ a, ¬ Cin en1 a → QN a xs en1)
    (hdb : (x == ("__debug__" : Str)) = false := by decide) (he : ∀ env, starEach (e :: es) env = (false, eval e env) :: starEach es env := by intro _; rfl) (hpl : ∀ env, (backTo pos (starEach es env)).any (·.1) = false := by intro _; rfl) :
    EvN c (.Call (.Name x p) (e :: es) [] pos) en QN := fun X hx σ I H kk o f =>
  call_raw F hk hg (RCel QN) (fun X hx σ I H k o f => h X hx σ I H k o fun vs ds en1 I1 H1 o1 g1 r1 q1 => f vs ds en1 I1 H1 o1 g1 r1 ⟨ds, rfl, q1⟩) hdb he hpl X hx σ I H kk o fun v s en' I' H' o' g' r' q => by
    cases s with
    | dat d => exact q.elim
    | no => exact q.elim
    | cel a xs =>
      obtain ⟨h1, h2, h3, h4, h5⟩ := r'
      refine f v a xs en' I' H' o' g' ⟨h1, h2, h3, ?_, h5⟩ (q h3)
      rcases h4 with ⟨i, zs, z⟩ | z
      · simp at z
      · exact z
/-- behind a call that may have written some lists of ours -/
theorem ok_after {K : PySem.W.Frag} {σ τ : L2.St} {I1 H1 I' H' : Hp} {en1 en2 : En} {args args' : List Sl} (o1 : Ok K σ I1 H1 en1) (g' : Go args I1 H1 args' I' H') (o' : Ok K τ I' H' args') (hc : ∀ b, Cin args b → Cin en1 b) (len : en2.length = en1.length)
    (hi : ∀ (i : Nat) s, en2[i]? = some s → (en1[i]? = some s ∧ ∀ b xs, s = Sl.cel b xs → ¬ Cin args b) ∨ ∃ a xs ys, ∃ m : Nat, s = Sl.cel a ys ∧ en1[i]? = some (Sl.cel a xs) ∧ args'[m]? = some (Sl.cel a ys)) : Ok K σ I' H' en2 ∧ Go en1 I1 H1 en2 I' H' := by
  have was : ∀ {i : Nat} {a : Addr} {ys : List PyData}, en2[i]? = some (Sl.cel a ys) → ∃ xs, en1[i]? = some (Sl.cel a xs) := fun {i a ys} z => by
    rcases hi i _ z with ⟨h, _⟩ | ⟨a', xs, ys', m, e1, e2, _⟩
    · exact ⟨_, h⟩
    · cases e1
      exact ⟨_, e2⟩
  refine ⟨⟨by rw [len, o1.len], o'.ex, fun i d z => ?_, fun i a xs z => ?_, fun i j a xs ys z1 z2 => ?_⟩, ⟨g'.i, fun b u hb hn => g'.h b u hb fun z => hn (hc b z), fun b h1 h2 hn => g'.n b h1 h2 fun z => hn (hc b z), fun b hb => ?_, g'.k⟩⟩
  · rcases hi i _ z with ⟨h, _⟩ | ⟨a', xs, ys', m, e1, _, _⟩
    · obtain ⟨v, h1, h2⟩ := o1.dat i d h
      exact ⟨v, h1, g'.i.dp h2⟩
    · cases e1
  · rcases hi i _ z with ⟨h, hn⟩ | ⟨a', xs', ys', m, e1, e2, e3⟩
    · have hna := hn a xs rfl
      obtain ⟨h1, h2, vs, h3, h4⟩ := o1.cel i a xs h
      exact ⟨h1, g'.n a (some_ne h3) h2 hna, vs, g'.h a _ h3 hna, g'.i.dpa h4⟩
    · cases e1
      obtain ⟨h1, _, _⟩ := o1.cel i a xs' e2
      obtain ⟨_, h2, h3⟩ := o'.cel m a xs e3
      exact ⟨h1, h2, h3⟩
  · obtain ⟨xs1, w1⟩ := was z1
    obtain ⟨xs2, w2⟩ := was z2
    exact o1.one i j a _ _ w1 w2
  · obtain ⟨i, xs, z⟩ := hb
    obtain ⟨xs1, w1⟩ := was z
    exact .inl ⟨i, xs1, w1⟩
theorem set_at {i j : Nat} {s t : Sl} {en : En} (h : (en.set j t)[i]? = some s) : (i = j ∧ s = t ∧ j < en.length) ∨ (i ≠ j ∧ en[i]? = some s) := by
  by_cases q : i = j
  · subst q
    have hl : i < en.length := by
      have := (List.getElem?_eq_some_iff.mp h).1
      simpa using this
    rw [List.getElem?_set_self hl] at h
    cases h
    exact .inl ⟨rfl, rfl, hl⟩
  · rw [List.getElem?_set_ne (Ne.symm q)] at h
    exact .inr ⟨q, h⟩
theorem cin_cons {s : Sl} {r : En} {b : Addr} (h : Cin (s :: r) b) : (∃ xs, s = .cel b xs) ∨ Cin r b := by
  obtain ⟨i, xs, z⟩ := h
  cases i with
  | zero => cases z; exact .inl ⟨xs, rfl⟩
  | succ i => exact .inr ⟨i, xs, z⟩
theorem ok_args {K : PySem.W.Frag} {vs : List V} {ds : List PyData} {I H : Hp} (ex : Ex I H) (r : DpAll K I vs ds) : Ok K (vs.map some) I H (ds.map Sl.dat) := by
  refine ⟨by rw [List.length_map, List.length_map, dpa_len r], ex, fun i d z => ?_, fun i a xs z => ?_, fun i j a xs ys z => ?_⟩
  · rw [List.getElem?_map] at z
    cases ee : ds[i]? with
    | none => rw [ee] at z; cases z
    | some d' =>
      rw [ee] at z
      cases z
      obtain ⟨v, h1, h2⟩ := dpa_get r ee
      exact ⟨v, by rw [List.getElem?_map, h1]; rfl, h2⟩
  · obtain ⟨d, y⟩ := dat_at z
    cases y
  · obtain ⟨d, y⟩ := dat_at z
    cases y
theorem ok_args_cons {K : PySem.W.Frag} {vs : List V} {I H : Hp} {a : Addr} {xs : List PyData} {args : List Sl} (o : Ok K (vs.map some) I H args) (hi : I a = none) (hn : ¬ Cin args a) (hl : ∃ us, H a = some (.lst us) ∧ DpAll K I us xs) :
    Ok K ((V.ref a :: vs).map some) I H (.cel a xs :: args) := by
  refine ⟨by simp [o.len], o.ex, fun i d z => ?_, fun i b ys z => ?_, fun i j b ys zs z1 z2 => ?_⟩
  · cases i with
    | zero => cases z
    | succ i => exact o.dat i d z
  · cases i with
    | zero => cases z; exact ⟨rfl, hi, hl⟩
    | succ i => exact o.cel i b ys z
  · cases i with
    | zero =>
      cases j with
      | zero => rfl
      | succ j => cases z1; exact absurd ⟨j, zs, z2⟩ hn
    | succ i =>
      cases j with
      | zero => cases z2; exact absurd ⟨i, ys, z1⟩ hn
      | succ j => rw [o.one i j b ys zs z1 z2]
def RC1 (Q : PyData → En → Prop) (j : Nat) (en : En) : Sl → List Sl → Prop
  | .dat d, .cel a ys :: _ => Q d (en.set j (.cel a ys))
  | _, _ => False
/-- a def that may write our list -/
theorem ee_callC {pr : List PyData → List PyData → (PyData → List PyData → Prop) → Prop} (j : Nat) {A : Addr} {xs0 : List PyData} (F : KnowsC c.g x k ps pr) (hk : k ≤ c.lv) (hg : glB (c.sc.names.lookup x) = true)
    (hN : c.N[j]? = some y) (hv : visB (c.sc.names.lookup y) = true) (hj : en[j]? = some (Sl.cel A xs0))
    (h : EvA c es en fun ds en1 => ∃ xs, en1[j]? = some (Sl.cel A xs) ∧ pr xs ds fun d ys => Q d (en1.set j (.cel A ys)))
    (hdb : (x == ("__debug__" : Str)) = false := by decide) (h1 : (y == ("__debug__" : Str)) = false := by decide) (h2 : (y == ("__classdict__" : Str)) = false := by decide)
    (he : ∀ env, starEach (.Name y p2 :: es) env = (false, eval (.Name y p2) env) :: starEach es env := by intro _; rfl) (hpl : ∀ env, (backTo pos (starEach es env)).any (·.1) = false := by intro _; rfl) :
    EvE c (.Call (.Name x p) (.Name y p2 :: es) [] pos) en Q := fun X hx σ I H kk o f => by
  obtain ⟨fa, fd, F, hm, hkp, hb⟩ := F.ex
  obtain ⟨s1, _, _⟩ := o.cel j A xs0 hj
  refine wE_call hx F hk hg hm hkp hb hdb _ (pa_cons (pe_var (X := X) (i := j) (by rw [hx.N]; exact hN) (by rw [hx.sc]; exact vis_of hv) h1 h2) wA_pa (he _)) ⟨_, s1, ?_⟩ (he _) (hpl _)
  refine h X hx σ I H _ o fun vs ds en1 I1 H1 o1 g1 r1 ⟨xs, q1, q2⟩ => ?_
  obtain ⟨_, c2, c3⟩ := o1.cel j A xs q1
  refine ⟨I1, .cel A xs :: ds.map Sl.dat, RC1 Q j en1, ok_args_cons (ok_args o1.ex r1) c2 dat_cin c3, ⟨A, xs, ds, rfl, q2⟩, fun v s args' I' H' o' g' r' q' => ?_⟩
  match s, args', o', g', r', q' with
  | .dat d, .cel B ys :: rest, o', g', r', q' =>
    have e1 := (o'.cel 0 B ys rfl).1
    simp at e1
    subst e1
    obtain ⟨o2, g2⟩ := ok_after (en2 := en1.set j (.cel A ys)) o1 g' o' (fun b hb => by
      rcases cin_cons hb with ⟨zs, z⟩ | z
      · cases z; exact ⟨j, xs, q1⟩
      · exact absurd z dat_cin) (by simp) (fun i s hs => by
      rcases set_at hs with ⟨e1, e2, _⟩ | ⟨e1, e2⟩
      · subst e1 e2
        exact .inr ⟨A, xs, ys, 0, rfl, q1, rfl⟩
      · refine .inl ⟨e2, fun b zs z hb => ?_⟩
        subst z
        rcases cin_cons hb with ⟨ws, z⟩ | z
        · cases z; exact e1 (o1.one i j A _ _ e2 q1)
        · exact dat_cin z)
    exact f v d _ I' H' o2 (g1.trans g2) r' q'
def RC2 (Q : PyData → En → Prop) (j l : Nat) (en : En) : Sl → List Sl → Prop
  | .dat d, .cel a ys :: .cel b ws :: _ => Q d ((en.set j (.cel a ys)).set l (.cel b ws))
  | _, _ => False
theorem ee_callC2 {pr : List PyData → List PyData → List PyData → (PyData → List PyData → List PyData → Prop) → Prop} (j l : Nat) {A B : Addr} {xs0 zs0 : List PyData} (F : KnowsC2 c.g x k ps pr) (hk : k ≤ c.lv) (hg : glB (c.sc.names.lookup x) = true)
    (hN : c.N[j]? = some y) (hv : visB (c.sc.names.lookup y) = true) (hj : en[j]? = some (Sl.cel A xs0)) (hN2 : c.N[l]? = some y2) (hv2 : visB (c.sc.names.lookup y2) = true) (hl : en[l]? = some (Sl.cel B zs0)) (hjl : j ≠ l)
    (h : EvA c es en fun ds en1 => ∃ xs zs, en1[j]? = some (Sl.cel A xs) ∧ en1[l]? = some (Sl.cel B zs) ∧ pr xs zs ds fun d ys ws => Q d ((en1.set j (.cel A ys)).set l (.cel B ws)))
    (hdb : (x == ("__debug__" : Str)) = false := by decide) (h1 : (y == ("__debug__" : Str)) = false := by decide) (h2 : (y == ("__classdict__" : Str)) = false := by decide) (h3 : (y2 == ("__debug__" : Str)) = false := by decide) (h4 : (y2 == ("__classdict__" : Str)) = false := by decide)
    (he : ∀ env, starEach (.Name y p2 :: .Name y2 p3 :: es) env = (false, eval (.Name y p2) env) :: starEach (.Name y2 p3 :: es) env := by intro _; rfl) (he2 : ∀ env, starEach (.Name y2 p3 :: es) env = (false, eval (.Name y2 p3) env) :: starEach es env := by intro _; rfl)
    (hpl : ∀ env, (backTo pos (starEach (.Name y2 p3 :: es) env)).any (·.1) = false := by intro _; rfl) :
    EvE c (.Call (.Name x p) (.Name y p2 :: .Name y2 p3 :: es) [] pos) en Q := fun X hx σ I H kk o f => by
  obtain ⟨fa, fd, F, hm, hkp, hb⟩ := F.ex
  obtain ⟨s1, _, _⟩ := o.cel j A xs0 hj
  obtain ⟨s2, _, _⟩ := o.cel l B zs0 hl
  refine wE_call hx F hk hg hm hkp hb hdb _ (pa_cons (pe_var (X := X) (i := j) (by rw [hx.N]; exact hN) (by rw [hx.sc]; exact vis_of hv) h1 h2) (pa_cons (pe_var (X := X) (i := l) (by rw [hx.N]; exact hN2) (by rw [hx.sc]; exact vis_of hv2) h3 h4) wA_pa (he2 _)) (he _)) ⟨_, s1, _, s2, ?_⟩ (he _) (hpl _)
  refine h X hx σ I H _ o fun vs ds en1 I1 H1 o1 g1 r1 ⟨xs, zs, q1, q2, q3⟩ => ?_
  obtain ⟨_, c2, c3⟩ := o1.cel j A xs q1
  obtain ⟨_, d2, d3⟩ := o1.cel l B zs q2
  have nab : A ≠ B := fun z => hjl (by subst z; exact o1.one j l A _ _ q1 q2)
  have nc : ¬ Cin (.cel B zs :: ds.map Sl.dat) A := fun z => by
    rcases cin_cons z with ⟨ws, z⟩ | z
    · cases z; exact nab rfl
    · exact dat_cin z
  refine ⟨I1, .cel A xs :: .cel B zs :: ds.map Sl.dat, RC2 Q j l en1, ok_args_cons (ok_args_cons (ok_args o1.ex r1) d2 dat_cin d3) c2 nc c3, ⟨A, xs, B, zs, ds, rfl, q3⟩, fun v s args' I' H' o' g' r' q' => ?_⟩
  match s, args', o', g', r', q' with
  | .dat d, .cel A' ys :: .cel B' ws :: rest, o', g', r', q' =>
    have e1 := (o'.cel 0 A' ys rfl).1
    have e2 := (o'.cel 1 B' ws rfl).1
    simp at e1 e2
    subst e1 e2
    obtain ⟨o2, g2⟩ := ok_after (en2 := (en1.set j (.cel A ys)).set l (.cel B ws)) o1 g' o' (fun b hb => by
      rcases cin_cons hb with ⟨zs', z⟩ | z
      · cases z; exact ⟨j, xs, q1⟩
      · rcases cin_cons z with ⟨zs', z⟩ | z
        · cases z; exact ⟨l, zs, q2⟩
        · exact absurd z dat_cin) (by simp) (fun i s hs => by
      rcases set_at hs with ⟨e1, e2, _⟩ | ⟨e1, hs⟩
      · subst e1 e2
        exact .inr ⟨B, zs, ws, 1, rfl, q2, rfl⟩
      · rcases set_at hs with ⟨e1, e2, _⟩ | ⟨e3, e2⟩
        · subst e1 e2
          exact .inr ⟨A, xs, ys, 0, rfl, q1, rfl⟩
        · refine .inl ⟨e2, fun b zs' z hb => ?_⟩
          subst z
          rcases cin_cons hb with ⟨ws', z⟩ | z
          · cases z; exact e3 (o1.one i j A _ _ e2 q1)
          · rcases cin_cons z with ⟨ws', z⟩ | z
            · cases z; exact e1 (o1.one i l B _ _ e2 q2)
            · exact dat_cin z)
    exact f v d _ I' H' o2 (g1.trans g2) r' q'
/-- a def that may write a list made just for it -/
def RC0 (Q : PyData → En → Prop) (en : En) : Sl → List Sl → Prop
  | .dat d, .cel _ _ :: _ => Q d en
  | _, _ => False
theorem ee_callF {pr : List PyData → List PyData → (PyData → List PyData → Prop) → Prop} (F : KnowsC c.g x k ps pr) (hk : k ≤ c.lv) (hg : glB (c.sc.names.lookup x) = true)
    (h : EvN c e en fun A xs en1 => pr xs [] fun d _ => Q d en1)
    (hdb : (x == ("__debug__" : Str)) = false := by decide) (he : ∀ env, starEach [e] env = [(false, eval e env)] := by intro _; rfl) : EvE c (.Call (.Name x p) [e] [] pos) en Q := fun X hx σ I H kk o f => by
  obtain ⟨fa, fd, F, hm, hkp, hb⟩ := F.ex
  refine wE_call hx F hk hg hm hkp hb hdb _ (pa_cons wE_pe pa_nil (he _)) ?_ (he _) rfl
  refine h X hx σ I H _ o fun v A xs en1 I1 H1 o1 g1 n1 q1 => ?_
  obtain ⟨rfl, n2, n3, n4, n5⟩ := n1
  refine ⟨I1, [.cel A xs], RC0 Q en1, ok_args_cons (vs := []) (args := []) (ok_args (ds := []) (vs := []) o1.ex .nil) n2 (fun ⟨_, _, z⟩ => by simp at z) n5, ⟨A, xs, [], rfl, q1⟩, fun v s args' I' H' o' g' r' q' => ?_⟩
  have nb : ∀ b, b ≠ A → ¬ Cin [.cel A xs] b := fun b hb z => by
    rcases cin_cons z with ⟨ws, z⟩ | ⟨_, _, z⟩
    · cases z; exact hb rfl
    · simp at z
  have o2 : Ok c.g.K σ I' H' en1 := o1.mono g'.i o'.ex fun b hb => by
    have hbA : b ≠ A := fun z => n3 (by rw [← z]; exact hb)
    obtain ⟨h1, h2⟩ := o1.cin hb
    obtain ⟨u, hu⟩ := ne_some h2
    exact ⟨g'.n b h2 h1 (nb b hbA), by rw [hu, g'.h b u hu (nb b hbA)]⟩
  have g2 : Go en I H en1 I' H' := by
    refine ⟨g1.i.trans g'.i, fun b u hb hn => ?_, fun b h1 h2 hn => ?_, fun b hb => g1.c b hb, fun b hb => g'.k b (g1.k b hb)⟩
    · have hbA : b ≠ A := fun z => by rw [z, n4] at hb; cases hb
      exact g'.h b u (g1.h b u hb hn) (nb b hbA)
    · have hbA : b ≠ A := fun z => h1 (by rw [z]; exact n4)
      exact g'.n b (g1.k b h1) (g1.n b h1 h2 hn) (nb b hbA)
  match s, args', r', q' with
  | .dat d, .cel _ _ :: _, r', q' => exact f v d en1 I' H' o2 g2 r' q'
end
end Ly
namespace Ly
open PySem PySem.Spec PyProof.Rows L2

section
variable {c : Cs} {e a b t : Expr} {es : List Expr} {st : Stmt} {sts as bs body : List Stmt} {en : En} {D : Eds} {Q : PyData → En → Prop} {QN : Addr → List PyData → En → Prop} {pos p p2 p3 : Pos} {x y z : Str}

/-! ### slots that are stored -/
theorem ok_set {K : PySem.W.Frag} {σ : L2.St} {I H : Hp} {v : V} {d : PyData} (o : Ok K σ I H en) (i : Nat) (r : Dp K I v d) : Ok K (σ.set i (some v)) I H (en.set i (.dat d)) ∧ Go en I H (en.set i (.dat d)) I H := by
  have cin : ∀ b, Cin (en.set i (.dat d)) b → Cin en b := fun b ⟨j, xs, h⟩ => by
    rcases set_at h with ⟨_, q, _⟩ | ⟨_, q⟩
    · cases q
    · exact ⟨j, xs, q⟩
  refine ⟨⟨by simp [o.len], o.ex, fun j d' h => ?_, fun j A xs h => ?_, fun j l A xs ys h1 h2 => ?_⟩, Ex.refl I, fun _ _ h _ => h, fun _ _ h _ => h, fun b h => .inl (cin b h), fun _ h => h⟩
  · rcases set_at h with ⟨e1, e2, hl⟩ | ⟨ne, h⟩
    · cases e2
      subst e1
      exact ⟨v, by rw [List.getElem?_set_self (by rw [← o.len]; exact hl)], r⟩
    · rw [List.getElem?_set_ne (Ne.symm ne)]
      exact o.dat j d' h
  · rcases set_at h with ⟨_, e2, _⟩ | ⟨ne, h⟩
    · cases e2
    · rw [List.getElem?_set_ne (Ne.symm ne)]
      exact o.cel j A xs h
  · rcases set_at h1 with ⟨_, e2, _⟩ | ⟨_, h1⟩
    · cases e2
    · rcases set_at h2 with ⟨_, e2, _⟩ | ⟨_, h2⟩
      · cases e2
      · exact o.one j l A xs ys h1 h2
theorem ok_setN {K : PySem.W.Frag} {σ : L2.St} {I H H0 : Hp} {v : V} {A : Addr} {xs : List PyData} (o : Ok K σ I H en) (i : Nat) (n : Nw K en I H H0 v A xs) : Ok K (σ.set i (some v)) I H (en.set i (.cel A xs)) ∧ ∀ b, Cin (en.set i (.cel A xs)) b → Cin en b ∨ b = A := by
  obtain ⟨rfl, n2, n3, n4, n5⟩ := n
  refine ⟨⟨by simp [o.len], o.ex, fun j d' h => ?_, fun j B ys h => ?_, fun j l B ys zs h1 h2 => ?_⟩, fun b ⟨j, ys, h⟩ => ?_⟩
  · rcases set_at h with ⟨_, e2, _⟩ | ⟨ne, h⟩
    · cases e2
    · rw [List.getElem?_set_ne (Ne.symm ne)]
      exact o.dat j d' h
  · rcases set_at h with ⟨e1, e2, hl⟩ | ⟨ne, h⟩
    · cases e2
      subst e1
      exact ⟨by rw [List.getElem?_set_self (by rw [← o.len]; exact hl)], n2, n5⟩
    · rw [List.getElem?_set_ne (Ne.symm ne)]
      exact o.cel j B ys h
  · rcases set_at h1 with ⟨e1, e2, _⟩ | ⟨_, h1⟩
    · cases e2
      rcases set_at h2 with ⟨e3, _, _⟩ | ⟨_, h2⟩
      · rw [e1, e3]
      · exact absurd ⟨l, zs, h2⟩ n3
    · rcases set_at h2 with ⟨e1, e2, _⟩ | ⟨_, h2⟩
      · cases e2
        exact absurd ⟨j, ys, h1⟩ n3
      · exact o.one j l B ys zs h1 h2
  · rcases set_at h with ⟨_, e2, _⟩ | ⟨_, h⟩
    · cases e2
      exact .inr rfl
    · exact .inl ⟨j, ys, h⟩
/-- a list put among what never changes -/
theorem ok_frz {K : PySem.W.Frag} {σ : L2.St} {I H : Hp} {A : Addr} {xs : List PyData} (o : Ok K σ I H en) (i : Nat) (h : en[i]? = some (Sl.cel A xs)) : ∃ I', Ok K σ I' H (en.set i (.dat (.list xs))) ∧ Go en I H (en.set i (.dat (.list xs))) I' H := by
  obtain ⟨h1, h2, vs, h3, h4⟩ := o.cel i A xs h
  have cin : ∀ b, Cin (en.set i (.dat (.list xs))) b → Cin en b ∧ b ≠ A := fun b ⟨j, ys, q⟩ => by
    rcases set_at q with ⟨_, q, _⟩ | ⟨ne, q⟩
    · cases q
    · exact ⟨⟨j, ys, q⟩, fun z => ne (by subst z; exact o.one j i b _ _ q h)⟩
  refine ⟨upd I A (.lst vs), ⟨by simp [o.len], Ex.both o.ex h3, fun j d' q => ?_, fun j B ys q => ?_, fun j l B ys zs q1 q2 => ?_⟩, Ex.new h2, fun _ _ h _ => h, fun b hb hi hn => ?_, fun b h => .inl (cin b h).1, fun _ h => h⟩
  · rcases set_at q with ⟨e1, e2, hl⟩ | ⟨ne, q⟩
    · cases e2
      subst e1
      exact ⟨_, h1, .lst (.inl (.inl upd_same)) ((Ex.new h2).dpa h4)⟩
    · obtain ⟨v, w1, w2⟩ := o.dat j d' q
      exact ⟨v, w1, (Ex.new h2).dp w2⟩
  · rcases set_at q with ⟨_, e2, _⟩ | ⟨ne, q⟩
    · cases e2
    · obtain ⟨w1, w2, us, w3, w4⟩ := o.cel j B ys q
      have nb : B ≠ A := fun z => ne (by subst z; exact o.one j i B _ _ q h)
      exact ⟨w1, by rw [upd_ne nb]; exact w2, us, w3, (Ex.new h2).dpa w4⟩
  · rcases set_at q1 with ⟨_, e2, _⟩ | ⟨_, q1⟩
    · cases e2
    · rcases set_at q2 with ⟨_, e2, _⟩ | ⟨_, q2⟩
      · cases e2
      · exact o.one j l B ys zs q1 q2
  · rw [upd_ne (fun z => hn (by rw [z]; exact ⟨i, xs, h⟩))]
    exact hi
theorem eb_frz (i : Nat) {A : Addr} {xs : List PyData} (hi : en[i]? = some (Sl.cel A xs)) (h : EvB c sts (en.set i (.dat (.list xs))) D) : EvB c sts en D := fun X hx σ I H E o t => by
  obtain ⟨I', o', g'⟩ := ok_frz o i hi
  exact h X hx σ I' H E o' (t.from g')
/-- a new list's place is new -/
theorem go_setN {K : PySem.W.Frag} {σ : L2.St} {I H I1 H1 : Hp} {en1 : En} {v : V} {A : Addr} {xs : List PyData} (g : Go en I H en1 I1 H1) (o : Ok K σ I1 H1 en1) (i : Nat) (n : Nw K en1 I1 H1 H v A xs) : Ok K (σ.set i (some v)) I1 H1 (en1.set i (.cel A xs)) ∧ Go en I H (en1.set i (.cel A xs)) I1 H1 := by
  obtain ⟨o2, c2⟩ := ok_setN o i n
  refine ⟨o2, g.i, g.h, g.n, fun b hb => ?_, g.k⟩
  rcases c2 b hb with q | q
  · exact g.c b q
  · rw [q]; exact .inr n.f
/-! ### blocks -/
theorem eb_nil (h : D.nx en) : EvB c [] en D := fun X hx σ I H E o t => wB_of pss_nil (t.nx σ en I H o (Go.refl en I H) h)
theorem eb_cons (h : EvS c st en { D with nx := fun en1 => EvB c sts en1 D }) : EvB c (st :: sts) en D := fun X hx σ I H E o t => by
  refine wB_of (pss_cons wS_ps wB_pss) ?_
  exact h X hx σ I H _ o ⟨fun σ' en' I' H' o' g' n => n X hx σ' I' H' E o' (t.from g'), t.bk, t.ct, t.rt⟩
theorem eb_one (h : EvS c st en D) : EvB c [st] en D := fun X hx σ I H E o t => wB_of (pss_one wS_ps) (h X hx σ I H E o t)
/-! ### simple statements -/
theorem es_ret (h : EvE c e en fun d en1 => D.rt (.dat d) en1) : EvS c (.Return (some e) pos) en D := fun X hx σ I H E o t => by
  refine wS_of (ps_ret wE_pe) ?_
  exact h X hx σ I H _ o fun v d en1 I1 H1 o1 g1 r1 q1 => t.rt v (.dat d) σ en1 I1 H1 o1 g1 r1 q1
theorem es_retN (h : EvN c e en fun A xs en1 => D.rt (.cel A xs) en1) : EvS c (.Return (some e) pos) en D := fun X hx σ I H E o t => by
  refine wS_of (ps_ret wE_pe) ?_
  exact h X hx σ I H _ o fun v A xs en1 I1 H1 o1 g1 n1 q1 => t.rt v (.cel A xs) σ en1 I1 H1 o1 g1 ⟨n1.ref, n1.i, n1.c, .inr n1.f, n1.l⟩ q1
/-- our own list handed back -/
theorem es_retC (i : Nat) {A : Addr} {xs : List PyData} (hN : c.N[i]? = some x) (hv : visB (c.sc.names.lookup x) = true) (hi : en[i]? = some (Sl.cel A xs)) (h : D.rt (.cel A xs) (en.set i .no))
    (h1 : (x == ("__debug__" : Str)) = false := by decide) (h2 : (x == ("__classdict__" : Str)) = false := by decide) : EvS c (.Return (some (.Name x p)) pos) en D := fun X hx σ I H E o t => by
  obtain ⟨z1, z2, z3⟩ := o.cel i A xs hi
  refine wS_of (ps_ret (pe_var (X := X) (i := i) (by rw [hx.N]; exact hN) (by rw [hx.sc]; exact vis_of hv) h1 h2)) ⟨_, z1, ?_⟩
  have cin : ∀ b, Cin (en.set i .no) b → Cin en b ∧ b ≠ A := fun b ⟨j, ys, q⟩ => by
    rcases set_at q with ⟨_, q, _⟩ | ⟨ne, q⟩
    · cases q
    · exact ⟨⟨j, ys, q⟩, fun z => ne (by subst z; exact o.one j i b _ _ q hi)⟩
  have o1 : Ok c.g.K σ I H (en.set i .no) := ⟨by simp [o.len], o.ex, fun j d' q => by
      rcases set_at q with ⟨_, q, _⟩ | ⟨ne, q⟩
      · cases q
      · exact o.dat j d' q, fun j B ys q => by
      rcases set_at q with ⟨_, q, _⟩ | ⟨ne, q⟩
      · cases q
      · exact o.cel j B ys q, fun j l B ys zs q1 q2 => by
      rcases set_at q1 with ⟨_, e2, _⟩ | ⟨_, q1⟩
      · cases e2
      · rcases set_at q2 with ⟨_, e2, _⟩ | ⟨_, q2⟩
        · cases e2
        · exact o.one j l B ys zs q1 q2⟩
  have g1 : Go en I H (en.set i .no) I H := ⟨Ex.refl I, fun _ _ h _ => h, fun _ _ h _ => h, fun b hb => .inl (cin b hb).1, fun _ h => h⟩
  exact t.rt _ (.cel A xs) σ _ I H o1 g1 ⟨rfl, z2, fun z => (cin A z).2 rfl, .inl ⟨i, xs, hi⟩, z3⟩ h
theorem es_if (h : EvT c t en fun k en1 => (k = true → EvB c as en1 D) ∧ (k = false → EvB c bs en1 D)) : EvS c (.If t as bs pos) en D := fun X hx σ I H E o tt => by
  refine wS_of (ps_if wT_pt wB_pss wB_pss) ?_
  refine h X hx σ I H _ o fun m en1 I1 H1 o1 g1 q1 => ?_
  cases m with
  | true => exact q1.1 rfl X hx σ I1 H1 E o1 (tt.from g1)
  | false => exact q1.2 rfl X hx σ I1 H1 E o1 (tt.from g1)
theorem es_break (h : D.bk en) : EvS c (.Break pos) en D := fun X hx σ I H E o t => wS_of ps_break (t.bk σ en I H o (Go.refl en I H) h)
theorem es_pass (h : D.nx en) : EvS c (.Pass pos) en D := fun X hx σ I H E o t => wS_of ps_pass (t.nx σ en I H o (Go.refl en I H) h)
/-! ### name = e -/
theorem fn_ok {X : Cx} (hx : Hs c X) (h : c.df x = true ∨ c.sc.names.lookup x = some .local) : X.fn x = true ∨ X.env.scope.names.lookup x = some .local := by
  rcases h with h | h
  · exact .inl (hx.fn x h)
  · exact .inr (by rw [hx.sc]; exact h)
theorem es_asg (i : Nat) (hN : c.N[i]? = some x) (hl : locB (c.sc.names.lookup x) = true) (hf : c.df x = true ∨ c.sc.names.lookup x = some .local) (h : EvE c e en fun d en1 => D.nx (en1.set i (.dat d)))
    (hs : ∀ env, swapsWith e (some (.Name x p)) pos.line env = pure false := by intro _; rfl) : EvS c (.Assign [.Name x p] e pos) en D := fun X hx σ I H E o t => by
  refine wS_of (ps_set (X := X) (i := i) (by rw [hx.N]; exact hx.nd) (by rw [hx.N]; exact hN) (by rw [hx.sc]; exact loc_of hl) wE_pe (hs _) (fn_ok hx hf)) ?_
  refine h X hx σ I H _ o fun v d en1 I1 H1 o1 g1 r1 q1 => ?_
  obtain ⟨o2, g2⟩ := ok_set o1 i r1
  exact t.nx _ _ I1 H1 o2 (g1.trans g2) q1
theorem es_asgN (i : Nat) (hN : c.N[i]? = some x) (hl : locB (c.sc.names.lookup x) = true) (hf : c.df x = true ∨ c.sc.names.lookup x = some .local) (h : EvN c e en fun A xs en1 => D.nx (en1.set i (.cel A xs)))
    (hs : ∀ env, swapsWith e (some (.Name x p)) pos.line env = pure false := by intro _; rfl) : EvS c (.Assign [.Name x p] e pos) en D := fun X hx σ I H E o t => by
  refine wS_of (ps_set (X := X) (i := i) (by rw [hx.N]; exact hx.nd) (by rw [hx.N]; exact hN) (by rw [hx.sc]; exact loc_of hl) wE_pe (hs _) (fn_ok hx hf)) ?_
  refine h X hx σ I H _ o fun v A xs en1 I1 H1 o1 g1 n1 q1 => ?_
  obtain ⟨o2, g2⟩ := go_setN g1 o1 i n1
  exact t.nx _ _ I1 H1 o2 g2 q1
/-! ### targets -/
def wG (X : Cx) (tg : Expr) : TG := fun v σ H Q => ∀ pins s u, Inv X pins σ H s → RelV v u → wpAny (model X.prog X.w) X.A (assign tg X.env u) (fun _ s' => ∃ σ' H', Inv X pins σ' H' s' ∧ Q σ' H') X.xe s
theorem wG_pg {X : Cx} {tg : Expr} : PG X tg (wG X tg) := ⟨fun pins s σ H v u Q I r h => h pins s u I r⟩
theorem wG_of {X : Cx} {tg : Expr} {t : TG} (h : PG X tg t) {v : V} {σ : L2.St} {H : Hp} {Q : L2.St → Hp → Prop} (q : t v σ H Q) : wG X tg v σ H Q := fun pins s u I r => h.run pins s σ H v u Q I r q
/-- S: the slots that it may store -/
def EvG (c : Cs) (S : Nat → Prop) (tg : Expr) (d : PyData) (en : En) (Q : En → Prop) : Prop :=
  ∀ X, Hs c X → ∀ v σ I H (k : L2.St → Hp → Prop), Ok c.g.K σ I H en → Dp c.g.K I v d → (∀ σ' en' I' H', Ok c.g.K σ' I' H' en' → Go en I H en' I' H' → (σ'.length = σ.length ∧ ∀ (j : Nat), ¬ S j → σ'[j]? = σ[j]?) → Q en' → k σ' H') → wG X tg v σ H k
abbrev anyS : Nat → Prop := fun _ => True
/-- .. and which slots it stores -/
def wGs (X : Cx) (ts : List Expr) : TGs := fun vs σ H Q => ∀ pins s us, Inv X pins σ H s → Vals vs us → wpAny (model X.prog X.w) X.A (assignInOrder ((assignEach ts X.env).map (·.2)) us) (fun _ s' => ∃ σ' H', Inv X pins σ' H' s' ∧ Q σ' H') X.xe s
theorem wGs_pgs {X : Cx} {ts : List Expr} : PGs X ts (wGs X ts) := ⟨fun pins s σ H vs us Q I r h => h pins s us I r⟩
theorem wGs_of {X : Cx} {ts : List Expr} {t : TGs} (h : PGs X ts t) {vs : List V} {σ : L2.St} {H : Hp} {Q : L2.St → Hp → Prop} (q : t vs σ H Q) : wGs X ts vs σ H Q := fun pins s us I r => h.run pins s σ H vs us Q I r q
def EvGs (c : Cs) (S : Nat → Prop) (ts : List Expr) (ds : List PyData) (en : En) (Q : En → Prop) : Prop :=
  ∀ X, Hs c X → ∀ vs σ I H (k : L2.St → Hp → Prop), Ok c.g.K σ I H en → DpAll c.g.K I vs ds → (∀ σ' en' I' H', Ok c.g.K σ' I' H' en' → Go en I H en' I' H' → (σ'.length = σ.length ∧ ∀ (j : Nat), ¬ S j → σ'[j]? = σ[j]?) → Q en' → k σ' H') → wGs X ts vs σ H k
theorem eg_name {S : Nat → Prop} {d : PyData} {R : En → Prop} (i : Nat) (hN : c.N[i]? = some x) (hl : locB (c.sc.names.lookup x) = true) (hf : c.df x = true ∨ c.sc.names.lookup x = some .local) (hS : S i) (h : R (en.set i (.dat d))) : EvG c S (.Name x p) d en R := fun X hx v σ I H k o r f => by
  refine wG_of (pg_name (X := X) (i := i) (by rw [hx.N]; exact hx.nd) (by rw [hx.N]; exact hN) (by rw [hx.sc]; exact loc_of hl) (fn_ok hx hf)) ?_
  obtain ⟨o2, g2⟩ := ok_set o i r
  exact f _ _ I H o2 g2 ⟨by simp, fun j hj => by rw [List.getElem?_set_ne (fun z => hj (by rw [← z]; exact hS))]⟩ h
theorem egs_nil {S : Nat → Prop} {R : En → Prop} (h : R en) : EvGs c S [] [] en R := fun X hx vs σ I H k o r f => by
  cases r
  exact wGs_of pgs_nil ⟨rfl, f σ en I H o (Go.refl en I H) ⟨rfl, fun _ _ => rfl⟩ h⟩
theorem egs_cons {S : Nat → Prop} {R : En → Prop} {d : PyData} {ds : List PyData} (h : EvG c S e d en fun en1 => EvGs c S es ds en1 R) (hs : ∀ env, (assignEach (e :: es) env).map (·.2) = assign e env :: (assignEach es env).map (·.2) := by intro _; rfl) : EvGs c S (e :: es) (d :: ds) en R := fun X hx vs σ I H k o r f => by
  cases r with
  | cons r1 r2 =>
    refine wGs_of (pgs_cons wG_pg wGs_pgs (hs _)) ⟨_, _, rfl, ?_⟩
    refine h X hx _ σ I H _ o r1 fun σ1 en1 I1 H1 o1 g1 n1 q1 => ?_
    exact q1 X hx _ σ1 I1 H1 _ o1 (g1.i.dpa r2) fun σ2 en2 I2 H2 o2 g2 n2 q2 => f σ2 en2 I2 H2 o2 (g1.trans g2) ⟨n2.1.trans n1.1, fun j hj => (n2.2 j hj).trans (n1.2 j hj)⟩ q2
theorem eg_tup {S : Nat → Prop} {R : En → Prop} {j : Nat} {ds : List PyData} (h : EvGs c S es ds en R) (hn : ∀ env, (assignEach es env).length = ds.length := by intro _; rfl) (hst : ∀ env, (assignEach es env).findIdx? (·.1) = none := by intro _; rfl) : EvG c S (.Tuple es j pos) (.tuple ds) en R := fun X hx v σ I H k o r f => by
  cases r with
  | tup s1 ra =>
    refine wG_of (pg_tup hx.calm wGs_pgs (hn _) (hst _)) ⟨_, _, rfl, by rw [hx.K]; exact o.ex.sqt s1, dpa_len ra, ?_⟩
    exact h X hx _ σ I H k o ra f
/-- o[i] = e into our own list -/
theorem ok_wr {K : PySem.W.Frag} {σ : L2.St} {I H : Hp} {A : Addr} {xs ys : List PyData} {us : List V} (o : Ok K σ I H en) (i : Nat) (h : en[i]? = some (Sl.cel A xs)) (r : DpAll K I us ys) : Ok K σ I (upd H A (.lst us)) (en.set i (.cel A ys)) ∧ Go en I H (en.set i (.cel A ys)) I (upd H A (.lst us)) := by
  obtain ⟨h1, h2, vs, h3, h4⟩ := o.cel i A xs h
  have cin : ∀ b, Cin (en.set i (.cel A ys)) b → Cin en b := fun b ⟨j, zs, q⟩ => by
    rcases set_at q with ⟨_, q, _⟩ | ⟨ne, q⟩
    · cases q; exact ⟨i, xs, h⟩
    · exact ⟨j, zs, q⟩
  have iA : Cin en A := ⟨i, xs, h⟩
  refine ⟨⟨by simp [o.len], o.ex.upd h2, fun j d' q => ?_, fun j B zs q => ?_, fun j l B zs ws q1 q2 => ?_⟩, Ex.refl I, fun b u hb hn => ?_, fun b hb hi hn => hi, fun b h => .inl (cin b h), fun b hb => ?_⟩
  · rcases set_at q with ⟨_, e2, _⟩ | ⟨ne, q⟩
    · cases e2
    · exact o.dat j d' q
  · rcases set_at q with ⟨e1, e2, _⟩ | ⟨ne, q5⟩
    · cases e2
      subst e1
      exact ⟨h1, h2, us, upd_same, r⟩
    · obtain ⟨w1, w2, ws, w3, w4⟩ := o.cel j B zs q5
      have nb : B ≠ A := fun z => ne (by subst z; exact o.one j i B _ _ q5 h)
      exact ⟨w1, w2, ws, by rw [upd_ne nb]; exact w3, w4⟩
  · have back : ∀ {m : Nat} {ws : List PyData}, (en.set i (.cel A ys))[m]? = some (Sl.cel B ws) → ∃ ws', en[m]? = some (Sl.cel B ws') := fun {m ws} q => by
      rcases set_at q with ⟨e1, e2, _⟩ | ⟨_, q⟩
      · cases e2; subst e1; exact ⟨xs, h⟩
      · exact ⟨ws, q⟩
    obtain ⟨w1, q1⟩ := back q1
    obtain ⟨w2, q2⟩ := back q2
    exact o.one j l B _ _ q1 q2
  · rw [upd_ne (fun z => hn (by rw [z]; exact iA))]
    exact hb
  · by_cases z : b = A
    · rw [z, upd_same]; exact fun q => nomatch q
    · rw [upd_ne z]; exact hb
theorem ixN_len {n : Nat} {k : Int} {j : Nat} (h : ixN n k = some j) : ixN n k = some j := h
theorem eg_sub {S : Nat → Prop} {R : En → Prop} {d : PyData} (i : Nat) {A : Addr} {xs0 : List PyData} (hN : c.N[i]? = some x) (hv : visB (c.sc.names.lookup x) = true) (hi : en[i]? = some (Sl.cel A xs0))
    (h : EvE c b en fun d2 en2 => ∃ xs k j, en2[i]? = some (Sl.cel A xs) ∧ d2 = .int k ∧ ixN xs.length k = some j ∧ R (en2.set i (.cel A (xs.set j d))))
    (h1 : (x == ("__debug__" : Str)) = false := by decide) (h2 : (x == ("__classdict__" : Str)) = false := by decide)
    (ha : ∀ env v, assign (.Subscript (.Name x p2) b pos) env v = (do
      let ov ← holding [v] (eval (.Name x p2) env)
      let iv ← holding [v, ov] (eval b env)
      standAt pos
      holding [v, ov, iv] (setItem ov iv v)
      release [v, ov, iv] []) := by intro _ _; rfl) : EvG c S (.Subscript (.Name x p2) b pos) d en R := fun X hx v σ I H k o r f => by
  obtain ⟨z1, _, _⟩ := o.cel i A xs0 hi
  refine wG_of (pg_sub (pe_var (X := X) (i := i) (by rw [hx.N]; exact hN) (by rw [hx.sc]; exact vis_of hv) h1 h2) wE_pe set_list (ha _)) ⟨_, z1, ?_⟩
  refine h X hx σ I H _ o fun v2 d2 en2 I2 H2 o2 g2 r2 ⟨xs, m, j, q1, q2, q3, q4⟩ => ?_
  subst q2
  cases r2
  obtain ⟨_, y2, vs, y3, y4⟩ := o2.cel i A xs q1
  obtain ⟨o3, g3⟩ := ok_wr o2 i q1 (dpa_set (g2.i.dp r) j y4)
  exact ⟨A, vs, m, j, rfl, rfl, y3, by rw [dpa_len y4]; exact q3, f σ _ I2 _ o3 (g2.trans g3) ⟨rfl, fun _ _ => rfl⟩ q4⟩
theorem es_asgG {tg : Expr} (h : EvE c e en fun d en1 => EvG c anyS tg d en1 D.nx) (hs : ∀ env, swapsWithSole [tg] e pos.line env = pure false := by intro _; rfl) (hw : ∀ env, swappedStores [tg] e env = pure none := by intro _; rfl)
    (h1 : ∀ env, (assignEach [tg] env).map (·.2) = [assign tg env] := by intro _; rfl) : EvS c (.Assign [tg] e pos) en D := fun X hx σ I H E o t => by
  refine wS_of (ps_asg wE_pe wG_pg (hs _) (hw _) (h1 _)) ?_
  refine h X hx σ I H _ o fun v d en1 I1 H1 o1 g1 r1 q1 => ?_
  exact q1 X hx v σ I1 H1 _ o1 r1 fun σ' en' I' H' o' g' _ n => t.nx σ' en' I' H' o' (g1.trans g') n
/-- xs.append(e) -/
theorem es_append (i : Nat) {A : Addr} {xs0 : List PyData} (hN : c.N[i]? = some x) (hv : visB (c.sc.names.lookup x) = true) (hi : en[i]? = some (Sl.cel A xs0)) (h : EvE c e en fun d en1 => ∃ xs, en1[i]? = some (Sl.cel A xs) ∧ xs.length < 1000 ∧ D.nx (en1.set i (.cel A (xs ++ [d]))))
    (h1 : (x == ("__debug__" : Str)) = false := by decide) (h2 : (x == ("__classdict__" : Str)) = false := by decide)
    (hs : ∀ env, starEach [e] env = [(false, eval e env)] := by intro _; rfl) (hl : (p2.endLine == p3.line) = true := by rfl) : EvS c (.Expr (.Call (.Attribute (.Name x p) "append" p2) [e] [] p3) pos) en D := fun X hx σ I H E o t => by
  obtain ⟨z1, _, us, z3, _⟩ := o.cel i A xs0 hi
  have hfew : ((backTo p3 (starEach [e] X.env)).all (fun x => !x.1) && (backToKw p3 (keywordEach [] X.env)).all (fun x => x.1.isSome)
      && decide (([e] : List Expr).length + ([] : List Keyword).length + (if ([] : List Keyword).isEmpty then 0 else 1) < 30)) = true := by
    rw [hs]
    rfl
  refine wS_of (ps_expr (pe_bm PySem.F.plainAttrs_list PySem.F.slot_list_append PySem.F.type_list_append mt_append (pe_var (X := X) (i := i) (by rw [hx.N]; exact hN) (by rw [hx.sc]; exact vis_of hv) h1 h2) (pa_cons wE_pe pa_nil (hs _)) rfl hfew hl (hs _) rfl)) ⟨_, z1, ?_⟩
  refine ⟨.inl ⟨rfl, _, .inl (.inl z3)⟩, ?_⟩
  refine h X hx σ I H _ o fun v d en1 I1 H1 o1 g1 r1 ⟨xs, q1, q2, q3⟩ => ?_
  obtain ⟨_, y2, vs, y3, y4⟩ := o1.cel i A xs q1
  obtain ⟨o2, g2⟩ := ok_wr o1 i q1 (dpa_append y4 (.cons r1 .nil))
  exact ⟨A, vs, v, rfl, rfl, y3, Nat.lt_of_lt_of_le (by rw [dpa_len y4]; exact q2) (by decide), t.nx σ _ I1 _ o2 (g1.trans g2) q3⟩
end
end Ly
namespace Ly
open PySem PySem.Spec PyProof.Rows L2

/-! ### what is walked -/
structure Yl (K : PySem.W.Frag) (J : It) (ds : List PyData) (I : Hp) : Prop where
  go : ∀ (i : Nat) I' H', i < ds.length → Ex I I' → Ex I' H' → J.go i H'
  stop : ∀ I' H', Ex I I' → Ex I' H' → J.stop ds.length H'
  yld : ∀ (σ : L2.St) (en : En) (i : Nat) I' H' x H'', i < ds.length → Ex I I' → Ok K σ I' H' en → J.yld i H' x H'' → ∃ I'' d, ds[i]? = some d ∧ Ok K σ I'' H'' en ∧ Go en I' H' en I'' H'' ∧ Dp K I'' x d
def wI (X : Cx) (tg iter : Expr) : TI := fun σ H R => ∀ pins s, Inv X pins σ H s → wpAny (model X.prog X.w) X.A (eval iter X.env) (fun v s1 => wpAny (model X.prog X.w) X.A (pyIter v) (PIE X pins σ tg R) X.xe s1) X.xe s
theorem wI_pi {X : Cx} {tg iter : Expr} : PI X tg iter (wI X tg iter) := ⟨fun pins s σ H R I h => h pins s I⟩
theorem wI_of {X : Cx} {tg iter : Expr} {t : TI} (h : PI X tg iter t) {σ : L2.St} {H : Hp} {R : It → Hp → Prop} (q : t σ H R) : wI X tg iter σ H R := fun pins s I => h.run pins s σ H R I q
def EvI (c : Cs) (tg iter : Expr) (en : En) (R : List PyData → En → Prop) : Prop :=
  ∀ X, Hs c X → ∀ σ I H (k : It → Hp → Prop), Ok c.g.K σ I H en → (∀ J ds en' I' H', Ok c.g.K σ I' H' en' → Go en I H en' I' H' → Yl c.g.K J ds I' → R ds en' → k J H') → wI X tg iter σ H k
theorem yl_list {K : PySem.W.Frag} {I : Hp} {a : Addr} {vs : List V} {ds : List PyData} (s : SqL K I a vs) (r : DpAll K I vs ds) : Yl K (Itl K a) ds I where
  go := fun i I' H' hi e1 e2 => by
    have hv : i < vs.length := by rw [dpa_len r]; exact hi
    exact ⟨vs, vs[i], e2.sql (e1.sql s), List.getElem?_eq_getElem hv⟩
  stop := fun I' H' e1 e2 => ⟨vs, e2.sql (e1.sql s), by rw [dpa_len r]; exact Nat.le_refl _⟩
  yld := fun σ en i I' H' x H'' hi e1 o y => by
    obtain ⟨rfl, h⟩ := y
    obtain ⟨d, h1, h2⟩ := dpa_at r (h vs (o.ex.sql (e1.sql s)))
    exact ⟨I', d, h1, o, Go.refl en I' _, e1.dp h2⟩
theorem yl_tup {K : PySem.W.Frag} {I : Hp} {a : Addr} {vs : List V} {ds : List PyData} (s : SqT K I a vs) (r : DpAll K I vs ds) : Yl K (Itt K a) ds I where
  go := fun i I' H' hi e1 e2 => by
    have hv : i < vs.length := by rw [dpa_len r]; exact hi
    exact ⟨vs, vs[i], e2.sqt (e1.sqt s), List.getElem?_eq_getElem hv⟩
  stop := fun I' H' e1 e2 => ⟨vs, e2.sqt (e1.sqt s), by rw [dpa_len r]; exact Nat.le_refl _⟩
  yld := fun σ en i I' H' x H'' hi e1 o y => by
    obtain ⟨rfl, h⟩ := y
    obtain ⟨d, h1, h2⟩ := dpa_at r (h vs (o.ex.sqt (e1.sqt s)))
    exact ⟨I', d, h1, o, Go.refl en I' _, e1.dp h2⟩
def rgD (lo : Int) (n : Nat) : List PyData := (List.range n).map fun i => .int (lo + (i : Nat))
theorem rgD_len (lo : Int) (n : Nat) : (rgD lo n).length = n := by unfold rgD; simp
theorem rgD_get {lo : Int} {n i : Nat} (h : i < n) : (rgD lo n)[i]? = some (.int (lo + (i : Nat))) := by
  unfold rgD
  rw [List.getElem?_map, List.getElem?_range h]
  rfl
theorem yl_rng {K : PySem.W.Frag} {I : Hp} (lo : Int) (n : Nat) : Yl K (Itr lo n) (rgD lo n) I where
  go := fun i I' H' hi e1 e2 => by rw [rgD_len] at hi; exact hi
  stop := fun I' H' e1 e2 => by rw [rgD_len]; exact Nat.le_refl n
  yld := fun σ en i I' H' x H'' hi e1 o y => by
    rw [rgD_len] at hi
    obtain ⟨rfl, rfl⟩ := y
    exact ⟨I', _, rgD_get hi, o, Go.refl en I' _, .int _⟩
/-- new pairs -/
theorem yl_pair {K : PySem.W.Frag} {I : Hp} {J : It} {ds : List PyData} {f g : Nat → PyData} (hd : ∀ (i : Nat), i < ds.length → ds[i]? = some (.tuple [f i, g i])) (go : ∀ (i : Nat) I' H', i < ds.length → Ex I I' → Ex I' H' → J.go i H') (stop : ∀ I' H', Ex I I' → Ex I' H' → J.stop ds.length H')
    (y : ∀ (i : Nat) I' H' x H'', i < ds.length → Ex I I' → Ex I' H' → J.yld i H' x H'' → ∃ T u v, x = .ref T ∧ H' T = none ∧ H'' = upd H' T (.tup [u, v]) ∧ Dp K I' u (f i) ∧ Dp K I' v (g i)) : Yl K J ds I where
  go := go
  stop := stop
  yld := fun σ en i I' H' x H'' hi e1 o yy => by
    obtain ⟨T, u, v, rfl, hT, rfl, hu, hv⟩ := y i I' H' x H'' hi e1 o.ex yy
    obtain ⟨o2, g2⟩ := o.lay (o := .tup [u, v]) hT
    exact ⟨_, _, hd i hi, o2, g2, .tup (.inl (.inl upd_same)) (.cons (g2.i.dp hu) (.cons (g2.i.dp hv) .nil))⟩

section
variable {c : Cs} {e a b t tg iter elt : Expr} {es ifs : List Expr} {st : Stmt} {sts as bs body : List Stmt} {en : En} {D : Eds} {Q : PyData → En → Prop} {QN : Addr → List PyData → En → Prop} {R : List PyData → En → Prop} {pos p p2 p3 : Pos} {x y z : Str}
theorem ei_list (h : EvE c e en fun d en1 => ∃ ds, d = .list ds ∧ R ds en1) : EvI c tg e en R := fun X hx σ I H k o f => by
  refine wI_of (pi_list wE_pe) ?_
  refine h X hx σ I H _ o fun v d en1 I1 H1 o1 g1 r1 ⟨ds, e1, q⟩ => ?_
  subst e1
  cases r1 with
  | lst s1 ra =>
    refine ⟨_, rfl, by rw [hx.K]; exact ⟨_, o1.ex.sql s1⟩, f _ ds en1 I1 H1 o1 g1 ?_ q⟩
    rw [hx.K]
    exact yl_list s1 ra
theorem ei_tup (h : EvE c e en fun d en1 => ∃ ds, d = .tuple ds ∧ R ds en1) : EvI c tg e en R := fun X hx σ I H k o f => by
  refine wI_of (pi_tup wE_pe) ?_
  refine h X hx σ I H _ o fun v d en1 I1 H1 o1 g1 r1 ⟨ds, e1, q⟩ => ?_
  subst e1
  cases r1 with
  | tup s1 ra =>
    refine ⟨_, rfl, by rw [hx.K]; exact ⟨_, o1.ex.sqt s1⟩, f _ ds en1 I1 H1 o1 g1 ?_ q⟩
    rw [hx.K]
    exact yl_tup s1 ra
theorem ei_range1 (hg : glB (c.sc.names.lookup (("range" : Str))) = true) (hm : c.g.mg "range" = none) (h : EvE c a en fun d en1 => ∃ n : Int, d = .int n ∧ (-1000 ≤ n ∧ n ≤ 1000000) ∧ R (rgD 0 n.toNat) en1) (hs : ∀ env, starEach [a] env = [(false, eval a env)] := by intro _; rfl) :
    EvI c tg (.Call (.Name "range" p) [a] [] pos) en R := fun X hx σ I H k o f => by
  refine wI_of (pi_range1 (gl_of hx hg) (by rw [hx.mg]; exact hm) (pa_cons wE_pe pa_nil (hs _)) (hs _)) ?_
  refine h X hx σ I H _ o fun v d en1 I1 H1 o1 g1 r1 ⟨n, e1, hn, q⟩ => ?_
  subst e1
  cases r1
  exact ⟨n, rfl, by omega, by omega, f _ _ en1 I1 H1 o1 g1 (yl_rng 0 n.toNat) q⟩
theorem ei_range2 (hg : glB (c.sc.names.lookup (("range" : Str))) = true) (hm : c.g.mg "range" = none) (h : EvA c [a, b] en fun ds en1 => ∃ lo n : Int, ds = [.int lo, .int n] ∧ (-1000 ≤ lo ∧ lo ≤ 100000 ∧ -1000 ≤ n ∧ n ≤ 100000) ∧ R (rgD lo (n - lo).toNat) en1) (hs : ∀ env, starEach [a, b] env = [(false, eval a env), (false, eval b env)] := by intro _; rfl)
    (hs2 : ∀ env, starEach [b] env = [(false, eval b env)] := by intro _; rfl) : EvI c tg (.Call (.Name "range" p) [a, b] [] pos) en R := fun X hx σ I H k o f => by
  refine wI_of (pi_range2 (gl_of hx hg) (by rw [hx.mg]; exact hm) wA_pa (hs _) (hs2 _)) ?_
  refine h X hx σ I H _ o fun vs ds en1 I1 H1 o1 g1 r1 ⟨lo, n, e1, hn, q⟩ => ?_
  subst e1
  obtain ⟨v, u, rfl, rv, ru⟩ := dpa2 r1
  cases rv
  cases ru
  exact ⟨lo, n, rfl, ⟨by omega, by omega, by omega, by omega⟩, f _ _ en1 I1 H1 o1 g1 (yl_rng lo _) q⟩

/-! ### for -/
theorem es_for (h : EvI c tg iter en fun ds en1 => ∃ P : Nat → En → Prop, P 0 en1 ∧ (∀ (i : Nat) d en2, ds[i]? = some d → P i en2 → EvG c anyS tg d en2 fun en3 => EvB c body en3 { D with nx := P (i + 1), ct := P (i + 1), bk := D.nx }) ∧ ∀ en2, P ds.length en2 → D.nx en2)
    (hs : ∀ env x, foldedSetIterable iter env x = pure x := by intro _ _; rfl) : EvS c (.For tg iter body [] pos) en D := fun X hx σ I H E o t => by
  refine wS_of (ps_for (by rw [hx.xe]; exact PassesOwn.never) hx.calm wI_pi wG_pg wB_pss (hs _)) ?_
  refine h X hx σ I H _ o fun J ds en1 I1 H1 o1 g1 yl ⟨P, p0, ps, pd⟩ => ?_
  refine ⟨fun i m σ' H' => m = ds.length - i ∧ i ≤ ds.length ∧ ∃ en2 I2, Ok c.g.K σ' I2 H' en2 ∧ Go en I H en2 I2 H' ∧ Ex I1 I2 ∧ P i en2, ⟨ds.length, rfl, Nat.zero_le _, en1, I1, o1, g1, Ex.refl I1, p0⟩, ?_⟩
  rintro i m σ' H' ⟨rfl, hi, en2, I2, o2, g2, x2, p2⟩
  by_cases q : i < ds.length
  · refine .inr ⟨yl.go i I2 H' q x2 o2.ex, fun σ3 H3 => ∃ en3 I3, Ok c.g.K σ3 I3 H3 en3 ∧ Go en I H en3 I3 H3 ∧ Ex I1 I3 ∧ P (i + 1) en3, ?_, ?_⟩
    · rintro σ3 H3 ⟨en3, I3, o3, g3, x3, p3⟩
      exact ⟨ds.length - (i + 1), by omega, rfl, by omega, en3, I3, o3, g3, x3, p3⟩
    · intro x H'' y
      obtain ⟨I3, d, hd, o3, g3, r3⟩ := yl.yld σ' en2 i I2 H' x H'' q x2 o2 y
      refine ps i d en2 hd p2 X hx x σ' I3 H'' _ o3 r3 fun σ4 en4 I4 H4 o4 g4 _ q4 => ?_
      have gg : Go en I H en4 I4 H4 := g2.trans (g3.trans g4)
      have xx : Ex I1 I4 := x2.trans (g3.i.trans g4.i)
      have tt := t.from gg
      exact q4 X hx σ4 I4 H4 _ o4 ⟨fun σ5 en5 I5 H5 o5 g5 n5 => ⟨en5, I5, o5, gg.trans g5, xx.trans g5.i, n5⟩, tt.nx, fun σ5 en5 I5 H5 o5 g5 n5 => ⟨en5, I5, o5, gg.trans g5, xx.trans g5.i, n5⟩, tt.rt⟩
  · have e : i = ds.length := by omega
    subst e
    exact .inl ⟨yl.stop I2 H' x2 o2.ex, t.nx σ' en2 I2 H' o2 g2 (pd en2 p2)⟩
/-! ### while -/
theorem es_while (W : Nat → En → Prop) (m0 : Nat) (h0 : W m0 en) (h : ∀ m en1, W m en1 → EvT c t en1 fun k en2 => (k = true → EvB c body en2 { D with nx := fun en3 => ∃ m', m' < m ∧ W m' en3, ct := fun en3 => ∃ m', m' < m ∧ W m' en3, bk := D.nx }) ∧ (k = false → D.nx en2)) :
    EvS c (.While t body [] pos) en D := fun X hx σ I H E o tt => by
  refine wS_of (ps_while (by rw [hx.xe]; exact PassesOwn.never) wT_pt wB_pss) ?_
  refine ⟨fun m σ' H' => ∃ en2 I2, Ok c.g.K σ' I2 H' en2 ∧ Go en I H en2 I2 H' ∧ W m en2, ⟨m0, en, I, o, Go.refl en I H, h0⟩, ?_⟩
  rintro m σ' H' ⟨en2, I2, o2, g2, w2⟩
  refine h m en2 w2 X hx σ' I2 H' _ o2 fun k en3 I3 H3 o3 g3 q => ?_
  have gg := g2.trans g3
  have tf := tt.from gg
  cases k with
  | false => exact tf.nx σ' en3 I3 H3 o3 (Go.refl en3 I3 H3) (q.2 rfl)
  | true =>
    refine ⟨fun σ4 H4 => ∃ m', m' < m ∧ ∃ en4 I4, Ok c.g.K σ4 I4 H4 en4 ∧ Go en I H en4 I4 H4 ∧ W m' en4, fun σ4 H4 z => z, ?_⟩
    exact q.1 rfl X hx σ' I3 H3 _ o3 ⟨fun σ5 en5 I5 H5 o5 g5 ⟨m', h1, h2⟩ => ⟨m', h1, en5, I5, o5, gg.trans g5, h2⟩, tf.nx, fun σ5 en5 I5 H5 o5 g5 ⟨m', h1, h2⟩ => ⟨m', h1, en5, I5, o5, gg.trans g5, h2⟩, tf.rt⟩
/-! ### comprehensions -/
def wipeE (en : En) : List Nat → En
  | [] => en
  | v :: vs => (wipeE en vs).set v .no
theorem wipeE_len (en : En) : ∀ vs, (wipeE en vs).length = en.length
  | [] => rfl
  | v :: vs => by unfold wipeE; rw [List.length_set, wipeE_len en vs]
theorem wipeE_get {en : En} {i : Nat} {s : Sl} : ∀ {vs : List Nat}, (wipeE en vs)[i]? = some s → s ≠ .no → en[i]? = some s ∧ i ∉ vs
  | [], h, _ => ⟨h, by simp⟩
  | v :: vs, h, hn => by
    unfold wipeE at h
    rcases set_at h with ⟨_, e2, _⟩ | ⟨ne, h⟩
    · exact absurd e2 hn
    · obtain ⟨h1, h2⟩ := wipeE_get h hn
      exact ⟨h1, by simp [ne, h2]⟩
theorem wipe_get {σ : L2.St} {i : Nat} : ∀ {vs : List Nat}, i ∉ vs → (wipe σ vs)[i]? = σ[i]?
  | [], _ => rfl
  | v :: vs, h => by
    unfold wipe
    rw [List.getElem?_set_ne (fun z => h (by simp [z])), wipe_get (fun z => h (by simp [z]))]
theorem wipe_in {σ : L2.St} {i : Nat} {n : Nat} : ∀ {vs : List Nat}, i ∈ vs → σ.length = n → (wipe σ vs)[i]? = if i < n then some none else none
  | v :: vs, h, hn => by
    unfold wipe
    by_cases q : v = i
    · subst q
      by_cases hl : v < σ.length
      · rw [List.getElem?_set_self (by rw [wipe_length]; exact hl), if_pos (by omega)]
      · rw [if_neg (by omega), List.getElem?_eq_none (by rw [List.length_set, wipe_length]; omega)]
    · rw [List.getElem?_set_ne q]
      exact wipe_in (by simpa [Ne.symm q] using h) hn
theorem ok_wipe {K : PySem.W.Frag} {σ τ : L2.St} {I H : Hp} (o : Ok K σ I H en) (vs : List Nat) (hl : τ.length = σ.length) (ht : ∀ (i : Nat), i ∉ vs → τ[i]? = σ[i]?) : Ok K τ I H (wipeE en vs) ∧ ∀ b, Cin (wipeE en vs) b → Cin en b := by
  refine ⟨⟨by rw [wipeE_len, hl, o.len], o.ex, fun i d h => ?_, fun i a xs h => ?_, fun i j a xs ys h1 h2 => ?_⟩, fun b ⟨i, xs, h⟩ => ⟨i, xs, (wipeE_get h (by simp)).1⟩⟩
  · obtain ⟨h1, h2⟩ := wipeE_get h (by simp)
    rw [ht i h2]
    exact o.dat i d h1
  · obtain ⟨h1, h2⟩ := wipeE_get h (by simp)
    rw [ht i h2]
    exact o.cel i a xs h1
  · exact o.one i j a xs ys (wipeE_get h1 (by simp)).1 (wipeE_get h2 (by simp)).1
theorem go_sub {I H : Hp} {en' : En} (h : ∀ b, Cin en' b → Cin en b) : Go en I H en' I H := ⟨Ex.refl I, fun _ _ h _ => h, fun _ _ h _ => h, fun b hb => .inl (h b hb), fun _ h => h⟩
/-- the block's names as it runs -/
def relS (scope sc : Scope) : Scope := { scope with names := scope.names.map fun (n, k) => if (k == NameKind.free && sc.kind == .function && sc.names.lookup n == some .cell) then (n, NameKind.cell) else (n, k) }
theorem relS_eq (scope : Scope) (env : Env) : relabel scope env = relS scope env.scope := rfl
abbrev Cs.blk (c : Cs) (scope : Scope) : Cs := { c with sc := relS scope c.sc, df := fun x => scope.names.lookup x == some .cell }
theorem hs_blk {X : Cx} (hx : Hs c X) {scope : Scope} {own : List (Str × Nat)} (ok : BlkOk c.N c.sc scope own) (s : Shared) (H : Hp) (C : Addr) (cl : List (Str × Addr)) (fp : List Addr) : Hs (c.blk scope) (X.blk s H scope (compEnvC scope cl C X.env) fp) where
  p := hx.p
  w := hx.w
  K := hx.K
  mg := hx.mg
  base := hx.base
  N := hx.N
  sc := by
    show relabel scope X.env = relS scope c.sc
    rw [relS_eq, hx.sc]
  calm := hx.calm
  room := hx.room
  gu := hx.gu
  xe := rfl
  nd := hx.nd
  fn := fun _ z => z
  fk := ok.kind
/-- the tests of a clause -/
def wTs (X : Cx) (ifs : List Expr) : TT := fun σ H Q => ∀ pins s, Inv X pins σ H s → wpAny (model X.prog X.w) X.A (forIn ifs true fun c r => if r = true then do let ok ← isTrue c X.env (eval c X.env); pure (ForInStep.yield ok) else pure (ForInStep.yield r)) (TP X pins σ Q) X.xe s
theorem wTs_pts {X : Cx} {ifs : List Expr} : PTs X ifs (wTs X ifs) := ⟨fun pins s σ H Q I h => h pins s I⟩
def EvTs (c : Cs) (ifs : List Expr) (en : En) (Q : Bool → En → Prop) : Prop :=
  ∀ X, Hs c X → ∀ σ I H (k : Bool → Hp → Prop), Ok c.g.K σ I H en → (∀ b en' I' H', Ok c.g.K σ I' H' en' → Go en I H en' I' H' → Q b en' → k b H') → wTs X ifs σ H k
theorem ets_nil {QT : Bool → En → Prop} (h : QT true en) : EvTs c [] en QT := fun X hx σ I H k o f => fun pins s J => pts_nil.run pins s σ H k J (f true en I H o (Go.refl en I H) h)
theorem ets_one {QT : Bool → En → Prop} (h : EvT c t en QT) : EvTs c [t] en QT := fun X hx σ I H k o f => fun pins s J => (pts_one wT_pt).run pins s σ H k J (h X hx σ I H k o f)
/-- a comprehension's readings hold at every frame of its block: the weakest over all of them -/
def uG (X : Cx) (scope : Scope) (tg : Expr) : TG := fun v σ H Q => ∀ s H0 C cl fp, wG (X.blk s H0 scope (compEnvC scope cl C X.env) fp) tg v σ H Q
def uT (X : Cx) (scope : Scope) (ifs : List Expr) : TT := fun σ H Q => ∀ s H0 C cl fp, wTs (X.blk s H0 scope (compEnvC scope cl C X.env) fp) ifs σ H Q
def uE (X : Cx) (scope : Scope) (e : Expr) : TE := fun σ H Q => ∀ s H0 C cl fp, wE (X.blk s H0 scope (compEnvC scope cl C X.env) fp) e σ H Q
theorem lc_read {scope : Scope} (own : List (Str × Nat)) (hb : blkC c.N c.sc scope own = true)
    (h : EvI c tg iter en fun ds en1 => ∃ P : Nat → List PyData → En → Prop, P 0 [] (wipeE en1 (own.map (·.2))) ∧
      (∀ (i : Nat) d acc en2, ds[i]? = some d → P i acc en2 → acc.length ≤ i ∧ EvG (c.blk scope) (fun j => j ∈ own.map (·.2)) tg d (wipeE en2 (own.map (·.2))) fun en3 => EvTs (c.blk scope) ifs en3 fun k en4 => (k = true → EvE (c.blk scope) elt en4 fun y en5 => P (i + 1) (acc ++ [y]) (wipeE en5 (own.map (·.2)))) ∧ (k = false → P (i + 1) acc (wipeE en4 (own.map (·.2))))) ∧
      ds.length ≤ 1000 ∧ ∀ acc en2, P ds.length acc en2 → ∀ p, ¬ Cin en2 p → QN p acc en2)
    : ∀ X, Hs c X → ∀ σ I H (k : VK), Ok c.g.K σ I H en → (∀ v a xs en' I' H', Ok c.g.K σ I' H' en' → Go en I H en' I' H' → Nw c.g.K en' I' H' H v a xs → QN a xs en' → k v H') → tLc (wI X tg iter) (uG X scope tg) (uT X scope ifs) (uE X scope elt) (own.map (·.2)) σ H k := fun X hx σ I H k o f => by
  have hb' := blkOk_by hb
  refine h X hx σ I H _ o fun J ds en1 I1 H1 o1 g1 yl ⟨P, p0, ps, pl, pd⟩ => fun Dl hD => ?_
  obtain ⟨o2, g2, n2⟩ := o1.own (vs := []) (xs := []) hD .nil
  have hD0 : H Dl = none := by
    cases ee : H Dl with
    | none => rfl
    | some u => exact absurd hD (g1.k Dl (some_ne ee))
  -- the list being made stands apart from all that is known
  refine ⟨fun i m H' => m = ds.length - i ∧ i ≤ ds.length ∧ ∃ acc en2 I2, Ok c.g.K σ I2 H' en2 ∧ Go en I H en2 I2 H' ∧ Ex I1 I2 ∧ Nw c.g.K en2 I2 H' H (.ref Dl) Dl acc ∧ P i acc en2 ∧ acc.length ≤ i, ⟨ds.length, rfl, Nat.zero_le _, [], wipeE en1 (own.map (·.2)), I1, ?_⟩, ?_⟩
  · obtain ⟨o3, c3⟩ := ok_wipe o2 (own.map (·.2)) rfl (fun _ _ => rfl)
    exact ⟨o3, g1.trans (g2.trans (go_sub c3)), Ex.refl I1, ⟨n2.ref, n2.i, fun z => n2.c (c3 _ z), hD0, n2.l⟩, p0, Nat.le_refl _⟩
  rintro i m H' ⟨rfl, hi, acc, en2, I2, o2, g2, x2, n2, p2, la⟩
  by_cases q : i < ds.length
  · refine .inr ⟨yl.go i I2 H' q x2 o2.ex, fun H3 => ∃ acc en3 I3, Ok c.g.K σ I3 H3 en3 ∧ Go en I H en3 I3 H3 ∧ Ex I1 I3 ∧ Nw c.g.K en3 I3 H3 H (.ref Dl) Dl acc ∧ P (i + 1) acc en3 ∧ acc.length ≤ i + 1, ?_, ?_⟩
    · rintro H3 ⟨acc, en3, I3, r⟩
      exact ⟨ds.length - (i + 1), by omega, rfl, by omega, acc, en3, I3, r⟩
    · intro x H'' y
      obtain ⟨I3, d, hd, o3, g3, r3⟩ := yl.yld σ en2 i I2 H' x H'' q x2 o2 y
      obtain ⟨la, pp⟩ := ps i d acc en2 hd p2
      obtain ⟨o4, c4⟩ := ok_wipe (τ := wipe σ (own.map (·.2))) o3 (own.map (·.2)) (wipe_length _ _) (fun j hj => wipe_get hj)
      -- what stays of the list being made
      have far : ∀ {en5 : En} {I5 H5 : Hp}, Go en2 I2 H' en5 I5 H5 → I5 Dl = none ∧ ¬ Cin en5 Dl ∧ ∃ vs, H5 Dl = some (.lst vs) ∧ DpAll c.g.K I5 vs acc := fun {en5 I5 H5} g => by
        obtain ⟨_, z2, z3, z4, vs, z5, z6⟩ := n2
        refine ⟨g.n Dl (some_ne z5) z2 z3, fun z => ?_, vs, g.h Dl _ z5 z3, g.i.dpa z6⟩
        rcases g.c Dl z with w | w
        · exact z3 w
        · rw [z5] at w; cases w
      intro s0 H0 C cl fp
      have hxb := hs_blk hx hb' s0 H0 C cl fp
      refine pp _ hxb x _ I3 H'' _ o4 r3 fun σ5 en5 I5 H5 o5 g5 n5 q5 => ?_
      have wq : wipe σ5 (own.map (·.2)) = wipe σ (own.map (·.2)) := by
        apply List.ext_getElem?
        intro j
        by_cases hj : j ∈ own.map (·.2)
        · rw [wipe_in hj (by rw [n5.1, wipe_length]), wipe_in hj (by rfl)]
        · rw [wipe_get hj, wipe_get hj, n5.2 j hj, wipe_get hj]
      refine ⟨wq, fun s1 H1' C1 cl1 fp1 => ?_⟩
      refine q5 _ (hs_blk hx hb' s1 H1' C1 cl1 fp1) σ5 I5 H5 _ o5 fun kk en6 I6 H6 o6 g6 q6 => ?_
      have ga : Go en2 I2 H' en6 I6 H6 := (g3.trans (go_sub c4)).trans (g5.trans g6)
      have ls : σ.length = σ5.length := by rw [n5.1, wipe_length]
      have bk : ∀ {I7 H7 : Hp} {en7 : En}, Ok c.g.K σ5 I7 H7 en7 → Ok c.g.K σ I7 H7 (wipeE en7 (own.map (·.2))) ∧ ∀ b, Cin (wipeE en7 (own.map (·.2))) b → Cin en7 b := fun {I7 H7 en7} o7 => ok_wipe (τ := σ) o7 (own.map (·.2)) ls fun j hj => by
        rw [n5.2 j hj, wipe_get hj]
      cases kk with
      | false =>
        show ∃ acc en3 I3, _
        obtain ⟨o7, c7⟩ := bk o6
        obtain ⟨f1, f2, f3⟩ := far ga
        exact ⟨acc, _, I6, o7, g2.trans (ga.trans (go_sub c7)), x2.trans ga.i, ⟨rfl, f1, fun z => f2 (c7 _ z), hD0, f3⟩, q6.2 rfl, by omega⟩
      | true =>
        show uE X scope elt σ5 H6 _
        intro s2 H2' C2 cl2 fp2
        refine q6.1 rfl _ (hs_blk hx hb' s2 H2' C2 cl2 fp2) σ5 I6 H6 _ o6 fun v dy en7 I7 H7 o7 g7 r7 q7 => ?_
        have gb := ga.trans g7
        obtain ⟨f1, f2, vs, f3, f4⟩ := far gb
        refine ⟨vs, f3, Nat.lt_of_le_of_lt (by rw [dpa_len f4]; exact la) (Nat.lt_of_lt_of_le (Nat.lt_of_lt_of_le q pl) (by decide)), ?_⟩
        obtain ⟨o8, c8⟩ := bk o7
        have nbD : ∀ b, Cin (wipeE en7 (own.map (·.2))) b → b ≠ Dl := fun b hb z => f2 (by rw [← z]; exact c8 b hb)
        have o9 : Ok c.g.K σ I7 (upd H7 Dl (.lst (vs ++ [v]))) (wipeE en7 (own.map (·.2))) := o8.mono (Ex.refl I7) (o8.ex.upd f1) fun b hb => ⟨(o8.cin hb).1, upd_ne (nbD b hb)⟩
        have gc : Go en I H (wipeE en7 (own.map (·.2))) I7 H7 := g2.trans (gb.trans (go_sub c8))
        refine ⟨acc ++ [dy], _, I7, o9, ⟨gc.i, fun b u hb hn => ?_, gc.n, gc.c, fun b hb => ?_⟩, x2.trans gb.i, ⟨rfl, f1, fun z => f2 (c8 _ z), hD0, vs ++ [v], upd_same, dpa_append f4 (.cons r7 .nil)⟩, q7, by rw [List.length_append]; simp; omega⟩
        · rw [upd_ne (fun z => by rw [z, hD0] at hb; cases hb)]
          exact gc.h b u hb hn
        · rw [upd_ne (fun z => hb (by rw [z]; exact hD0))]
          exact gc.k b hb
  · have e : i = ds.length := by omega
    subst e
    exact .inl ⟨yl.stop I2 H' x2 o2.ex, f (.ref Dl) Dl acc en2 I2 H' o2 g2 n2 (pd acc en2 p2 Dl n2.c)⟩
abbrev LcQ (c : Cs) (tg iter elt : Expr) (ifs : List Expr) (scope : Scope) (own : List (Str × Nat)) (en : En) (QN : Addr → List PyData → En → Prop) : Prop :=
  EvI c tg iter en fun ds en1 => ∃ P : Nat → List PyData → En → Prop, P 0 [] (wipeE en1 (own.map (·.2))) ∧
      (∀ (i : Nat) d acc en2, ds[i]? = some d → P i acc en2 → acc.length ≤ i ∧ EvG (c.blk scope) (fun j => j ∈ own.map (·.2)) tg d (wipeE en2 (own.map (·.2))) fun en3 => EvTs (c.blk scope) ifs en3 fun k en4 => (k = true → EvE (c.blk scope) elt en4 fun y en5 => P (i + 1) (acc ++ [y]) (wipeE en5 (own.map (·.2)))) ∧ (k = false → P (i + 1) acc (wipeE en4 (own.map (·.2))))) ∧
      ds.length ≤ 1000 ∧ ∀ acc en2, P ds.length acc en2 → ∀ p, ¬ Cin en2 p → QN p acc en2
theorem en_lc {scope : Scope} (own : List (Str × Nat)) (hb : blkC c.N c.sc scope own = true) (h : LcQ c tg iter elt ifs scope own en QN)
    (hs : ∀ env x, foldedSetIterable iter env x = pure x := by intro _ _; rfl) : EvN c (.ListComp elt [⟨tg, iter, ifs, 0⟩] scope pos) en QN := fun X hx σ I H k o f => by
  have hbX : BlkOk X.N X.env.scope scope own := by rw [hx.N, hx.sc]; exact blkOk_by hb
  refine wE_of (pe_lc (own := own) (g := uG X scope tg) (tt := uT X scope ifs) (te := uE X scope elt) hx.calm (by rw [hx.N]; exact hx.nd) wI_pi hbX (fun s H C cl fp => ⟨fun pins s' σ H v u Q J r q => q s _ C cl fp pins s' u J r⟩) (fun s H C cl fp => ⟨fun pins s' σ H Q J q => q s _ C cl fp pins s' J⟩) (fun s H C cl fp => ⟨fun pins s' σ H Q J q => q s _ C cl fp pins s' J⟩) (hs _)) ?_
  exact lc_read own hb h X hx σ I H k o f
/-- name = [..], the name a plain local, on one line -/
theorem es_lc {scope : Scope} {py : Pos} (i : Nat) (own : List (Str × Nat)) (hb : blkC c.N c.sc scope own = true) (hN : c.N[i]? = some x) (hl : c.sc.names.lookup x = some .local)
    (h : LcQ c tg iter elt ifs scope own en fun A xs en1 => D.nx (en1.set i (.cel A xs))) (hp : (py.line == pos.line) = true := by rfl) (ha : (scope.names.any fun (n, k) => n == x && (k == .local || k == .cell)) = false := by decide +kernel)
    (hs : ∀ env x, foldedSetIterable iter env x = pure x := by intro _ _; rfl) : EvS c (.Assign [.Name x py] (.ListComp elt [⟨tg, iter, ifs, 0⟩] scope pos) p) en D := fun X hx σ I H E o t => by
  have hbX : BlkOk X.N X.env.scope scope own := by rw [hx.N, hx.sc]; exact blkOk_by hb
  refine wS_of (ps_setLc (i := i) (own := own) (g := uG X scope tg) (tt := uT X scope ifs) (te := uE X scope elt) hx.calm (by rw [hx.N]; exact hx.nd) (by rw [hx.N]; exact hN) (by rw [hx.sc]; exact hl) (sw_true (by rw [hx.sc]; exact hx.fk) (by rw [hx.sc]; exact hl) hp ha) wI_pi hbX (fun s H C cl fp => ⟨fun pins s' σ H v u Q J r q => q s _ C cl fp pins s' u J r⟩) (fun s H C cl fp => ⟨fun pins s' σ H Q J q => q s _ C cl fp pins s' J⟩) (fun s H C cl fp => ⟨fun pins s' σ H Q J q => q s _ C cl fp pins s' J⟩) (hs _)) ?_
  refine lc_read own hb h X hx σ I H _ o fun v A xs en1 I1 H1 o1 g1 n1 q1 => ?_
  obtain ⟨o2, g2⟩ := go_setN g1 o1 i n1
  exact t.nx _ _ I1 H1 o2 g2 q1
end
end Ly
namespace Ly
open PySem PySem.Spec PyProof.Rows L2

/-! ### two sequences of any kinds, in new pairs -/
/-- a list (true) or a tuple (false) -/
def SqB (K : PySem.W.Frag) (H : Hp) (b : Bool) (a : Addr) (xs : List V) : Prop := if b = true then SqL K H a xs else SqT K H a xs
def ItB (h : Heap) (b : Bool) (it a : Addr) (i : Nat) : Prop := if b = true then h.IsListIter it a i else h.IsTupleIter it a i
def IsB (h : Heap) (b : Bool) (a : Addr) (items : Array Value) : Prop := if b = true then h.IsList a items else h.IsTuple a items
theorem SqB.at {X : Cx} {pins : List (Addr × Obj)} {σ : L2.St} {H : Hp} {s : Shared} (J : Inv X pins σ H s) {b : Bool} {a : Addr} {xs : List V} (h : SqB X.K H b a xs) : ∃ its : List Value, Vals xs its ∧ IsB s.heap b a its.toArray := by
  cases b with
  | true =>
    obtain ⟨its, r, p, _⟩ := J.list h
    exact ⟨its, r, p.isList⟩
  | false =>
    obtain ⟨its, r, p, _⟩ := J.tuple h
    exact ⟨its, r, p⟩
theorem SqB.inj {X : Cx} {pins : List (Addr × Obj)} {σ : L2.St} {H : Hp} {s : Shared} (J : Inv X pins σ H s) {b : Bool} {a : Addr} {xs ys : List V} (h : SqB X.K H b a xs) (k : SqB X.K H b a ys) : xs = ys := by
  cases b with
  | true => exact J.list_inj h k
  | false => exact J.tuple_inj h k
theorem ItB.at {h h' : Heap} {b : Bool} {it a : Addr} {i : Nat} (x : ItB h b it a i) (k : ∀ o, h.get? it = some o → h'.get? it = some o) : ItB h' b it a i := by
  cases b with
  | true => exact (show h.IsListIter it a i from x).at k
  | false => exact (show h.IsTupleIter it a i from x).at k
theorem ItB.obj {h : Heap} {b : Bool} {it a : Addr} {i : Nat} (x : ItB h b it a i) : ∃ o, h.get? it = some o ∧ ∀ v, o.data ≠ .cell v := by
  cases b with
  | true =>
    obtain ⟨o, e, _, d⟩ := (show h.IsListIter it a i from x)
    exact ⟨o, e, fun v q => by rw [d] at q; cases q⟩
  | false =>
    obtain ⟨o, e, _, d⟩ := (show h.IsTupleIter it a i from x)
    exact ⟨o, e, fun v q => by rw [d] at q; cases q⟩
theorem IsB.lt {h : Heap} {b : Bool} {a : Addr} {items : Array Value} (x : IsB h b a items) : a < h.objs.size := by
  cases b with
  | true =>
    obtain ⟨o, e, _⟩ := (show h.IsList a items from x)
    exact Heap.lt_size e
  | false =>
    obtain ⟨o, e, _⟩ := (show h.IsTuple a items from x)
    exact Heap.lt_size e
theorem drawsB {prog : Program} {w : World} {A : Around} (hh : A.handled = none) (b : Bool) (it a : Addr) (hne : a ≠ it) (items : Array Value) :
    Draws prog w A it [it, a] items.size (fun i v => items[i]? = some v) (fun i h => ItB h b it a i ∧ IsB h b a items) := by
  cases b with
  | true => exact Draws.list hh it a hne items
  | false => exact Draws.tuple hh it a hne items
def objB (b : Bool) (a : Addr) : Obj := if b = true then { cls := .type "list_iterator", data := .fields #[.ref a, .int 0 0] } else { cls := .type "tuple_iterator", data := .fields #[.ref a, .int 0 0] }
theorem beginsB (b : Bool) (a : Addr) (items : Array Value) : Begins (.ref a) (objB b a) fun h => IsB h b a items := by
  cases b with
  | true => exact begins_list a items
  | false => exact begins_tuple a items
theorem itB_new {h : Heap} {b : Bool} {it a : Addr} (e : h.get? it = some (objB b a)) : ItB h b it a 0 := by
  cases b with
  | true => exact ⟨_, e, rfl, rfl⟩
  | false => exact ⟨_, e, rfl, rfl⟩
def Itz2 (K : PySem.W.Frag) (b1 b2 : Bool) (a1 a2 : Addr) : It :=
  ⟨fun i H => ∃ (xs ys : List V) (x y : V), SqB K H b1 a1 xs ∧ SqB K H b2 a2 ys ∧ xs[i]? = some x ∧ ys[i]? = some y,
    fun i H v H' => ∃ T x y, v = .ref T ∧ H T = none ∧ H' = upd H T (.tup [x, y]) ∧ (∀ xs, SqB K H b1 a1 xs → xs[i]? = some x) ∧ ∀ ys, SqB K H b2 a2 ys → ys[i]? = some y,
    fun i H => ∃ xs ys : List V, SqB K H b1 a1 xs ∧ SqB K H b2 a2 ys ∧ i = min xs.length ys.length⟩
theorem turn_zip2 {P : Program} {w : World} {K : PySem.W.Frag} {elts : List Expr} {kk : Nat} {tpos : Pos} {b1 b2 : Bool} {a1 a2 z TI TO i1 i2 : Addr} (S : ZipSep2 z TI TO i1 i2 [i1, a1] [i2, a2]) (n1 : a1 ≠ i1) (n2 : a2 ≠ i2) :
    Turn P w K (.Tuple elts kk tpos) (Itz2 K b1 b2 a1 a2) [z, TI, TO, i1, i2] z (fun i h => IsZip h z TI TO .none ∧ IsTupOf2 h TI (.ref i1) (.ref i2) ∧ (∃ x y, IsTupOf2 h TO x y) ∧ ItB h b1 i1 a1 i ∧ ItB h b2 i2 a2 i) where
  mem := by simp
  obj := fun i h st d hd => by
    obtain ⟨hz, hTI, ⟨x, y, hTO⟩, t1, t2⟩ := st
    have dd : d = z ∨ d = TI ∨ d = TO ∨ d = i1 ∨ d = i2 := by simpa using hd
    rcases dd with q | q | q | q | q
    · subst q; exact ⟨_, hz, fun v q => nomatch q⟩
    · subst q; exact ⟨_, hTI, fun v q => nomatch q⟩
    · subst q; exact ⟨_, hTO, fun v q => nomatch q⟩
    · subst q; exact t1.obj
    · subst q; exact t2.obj
  keep := fun i h h' st k => by
    obtain ⟨hz, hTI, ⟨x, y, hTO⟩, t1, t2⟩ := st
    exact ⟨k z (by simp) _ hz, k TI (by simp) _ hTI, ⟨x, y, k TO (by simp) _ hTO⟩, t1.at fun o q => k i1 (by simp) o q, t2.at fun o q => k i2 (by simp) o q⟩
  item := by
    intro X hP hw hK hc i pins s σ H E J hf st hg
    subst hP hw hK
    obtain ⟨hz, hTI, ⟨x0, y0, hTO⟩, t1, t2⟩ := st
    obtain ⟨xs, ys, x, y, qx, qy, ex, ey⟩ := hg
    obtain ⟨l1, r1, p1⟩ := SqB.at J qx
    obtain ⟨l2, r2, p2⟩ := SqB.at J qy
    obtain ⟨u1, hu1, ru1⟩ := r1.get ex
    obtain ⟨u2, hu2, ru2⟩ := r2.get ey
    have hh : X.A.in1.handled = none := J.ok.hd hc
    have W := GoesN.zip2 (prog := X.prog) (w := X.w) (A := X.A) (elts := elts) (x1 := kk) (pos := tpos) S (drawsB hh b1 i1 a1 n1 l1.toArray) (drawsB hh b2 i2 a2 n2 l2.toArray)
    have hi1 : i < l1.length := (List.getElem?_eq_some_iff.mp hu1).1
    have hi2 : i < l2.length := (List.getElem?_eq_some_iff.mp hu2).1
    refine W.goes i s _ E (by simp; omega) ⟨hz, hTI, ⟨x0, y0, hTO⟩, ⟨t1, p1⟩, ⟨t2, p2⟩⟩ fun v h' tk hY st' hk htk => ?_
    obtain ⟨T, v1, v2, rfl, hT, e1, e2, hTT⟩ := hY
    obtain ⟨hz', hTI', hTO', ⟨t1', _⟩, ⟨t2', _⟩⟩ := st'
    have w1 : u1 = v1 := by
      have : l1[i]? = some v1 := by simpa using e1
      rw [hu1] at this
      exact Option.some.inj this
    have w2 : u2 = v2 := by
      have : l2[i]? = some v2 := by simpa using e2
      rw [hu2] at this
      exact Option.some.inj this
    subst w1 w2
    have new : ObjOk X.prog X.w (upd H T (.tup [x, y])) h' T (.tup [x, y]) := ⟨by show 2 ≤ sizeLine; decide, [u1, u2], .cons ru1 (.cons ru2 .nil), hTT⟩
    have ltT : ∀ d ∈ [z, TI, TO, i1, i2], d < s.heap.objs.size := fun d hd => by
      have dd : d = z ∨ d = TI ∨ d = TO ∨ d = i1 ∨ d = i2 := by simpa using hd
      rcases dd with q | q | q | q | q
      · subst q; exact Heap.lt_size hz
      · subst q; exact Heap.lt_size hTI
      · subst q; exact Heap.lt_size hTO
      · subst q; obtain ⟨o, e, _⟩ := t1.obj; exact Heap.lt_size e
      · subst q; obtain ⟨o, e, _⟩ := t2.obj; exact Heap.lt_size e
    have J1 : Inv X pins σ (upd H T (.tup [x, y])) { s with heap := h', toks := tk } := J.turnedNew (ch := [z, TI, TO, i1, i2]) (fun d o hd q => hk d o (fun q' => hd (by
      have dd : d = z ∨ d = TO ∨ d = i1 ∨ d = i2 := by simpa using q'
      rcases dd with q | q | q | q <;> simp [q])) q) hf hT new
    refine ⟨.ref T, _, J1, rfl, ⟨T, x, y, rfl, J.hok.fresh hT, rfl, fun l hl => by rw [SqB.inj J hl qx]; exact ex, fun l hl => by rw [SqB.inj J hl qy]; exact ey⟩, ⟨hz', hTI', hTO', t1', t2'⟩, fun d hd => ?_⟩
    rw [upd_ne (Nat.ne_of_lt (Nat.lt_of_lt_of_le (ltT d hd) hT))]
    exact (hf d hd).1
  done := by
    intro X hP hw hK hc i pins s σ H E J hf st hg
    subst hP hw hK
    obtain ⟨hz, hTI, hTO, t1, t2⟩ := st
    obtain ⟨xs, ys, qx, qy, hend⟩ := hg
    obtain ⟨l1, r1, p1⟩ := SqB.at J qx
    obtain ⟨l2, r2, p2⟩ := SqB.at J qy
    have hh : X.A.in1.handled = none := J.ok.hd hc
    have W := GoesN.zip2 (prog := X.prog) (w := X.w) (A := X.A) (elts := elts) (x1 := kk) (pos := tpos) S (drawsB hh b1 i1 a1 n1 l1.toArray) (drawsB hh b2 i2 a2 n2 l2.toArray)
    have hn : i = min l1.toArray.size l2.toArray.size := by
      rw [List.size_toArray, List.size_toArray, ← r1.length, ← r2.length]
      exact hend
    subst hn
    refine W.stops s _ E ⟨hz, hTI, hTO, ⟨t1, p1⟩, ⟨t2, p2⟩⟩ fun h' tk hk htk => ?_
    exact J.turnedL (ch := [z, TI, TO, i1, i2]) (fun d o hd q => hk d o (fun q' => hd (by
      have dd : d = z ∨ d = TO ∨ d = i1 ∨ d = i2 := by simpa using q'
      rcases dd with q | q | q | q <;> simp [q])) q) hf
  self := fun A i s Q E st h => wpAny_pyIter_zip st.1 h
/-- a seq by data -/
def seqB : Bool → List PyData → PyData
  | true, ds => .list ds
  | false, ds => .tuple ds
theorem dp_seqB {K : PySem.W.Frag} {I : Hp} {v : V} {b : Bool} {ds : List PyData} (r : Dp K I v (seqB b ds)) : ∃ a vs, v = .ref a ∧ SqB K I b a vs ∧ DpAll K I vs ds := by
  cases b with
  | true =>
    cases r with
    | lst s ra => exact ⟨_, _, rfl, s, ra⟩
  | false =>
    cases r with
    | tup s ra => exact ⟨_, _, rfl, s, ra⟩
theorem Ex.sqb {K : PySem.W.Frag} {H H' : Hp} {b : Bool} {a : Addr} {xs : List V} (e : Ex H H') (h : SqB K H b a xs) : SqB K H' b a xs := by
  cases b with
  | true => exact e.sql h
  | false => exact e.sqt h
def zipD (ds es : List PyData) : List PyData := (ds.zip es).map fun p => .tuple [p.1, p.2]
theorem zipD_len (ds es : List PyData) : (zipD ds es).length = min ds.length es.length := by unfold zipD; rw [List.length_map, List.length_zip]
theorem yl_zip2 {K : PySem.W.Frag} {I : Hp} {b1 b2 : Bool} {a1 a2 : Addr} {vs us : List V} {ds es : List PyData} (s1 : SqB K I b1 a1 vs) (r1 : DpAll K I vs ds) (s2 : SqB K I b2 a2 us) (r2 : DpAll K I us es) : Yl K (Itz2 K b1 b2 a1 a2) (zipD ds es) I := by
  have lt : ∀ {i : Nat}, i < (zipD ds es).length → i < ds.length ∧ i < es.length := fun {i} h => by rw [zipD_len] at h; omega
  refine yl_pair (f := fun i => ds.getD i .none) (g := fun i => es.getD i .none) (fun i hi => ?_) (fun i I' H' hi e1 e2 => ?_) (fun I' H' e1 e2 => ?_) (fun i I' H' x H'' hi e1 e2 y => ?_)
  · obtain ⟨h1, h2⟩ := lt hi
    unfold zipD
    have hz : (ds.zip es)[i]? = some (ds[i], es[i]) := by
      rw [List.getElem?_zip_eq_some]
      exact ⟨List.getElem?_eq_getElem h1, List.getElem?_eq_getElem h2⟩
    rw [List.getElem?_map, hz]
    rw [List.getD_eq_getElem?_getD, List.getD_eq_getElem?_getD, List.getElem?_eq_getElem h1, List.getElem?_eq_getElem h2]
    rfl
  · obtain ⟨h1, h2⟩ := lt hi
    rw [← dpa_len r1] at h1
    rw [← dpa_len r2] at h2
    exact ⟨vs, us, vs[i], us[i], e2.sqb (e1.sqb s1), e2.sqb (e1.sqb s2), List.getElem?_eq_getElem h1, List.getElem?_eq_getElem h2⟩
  · exact ⟨vs, us, e2.sqb (e1.sqb s1), e2.sqb (e1.sqb s2), by rw [zipD_len, dpa_len r1, dpa_len r2]⟩
  · obtain ⟨T, u, v, rfl, hT, rfl, h1, h2⟩ := y
    obtain ⟨d, q1, q2⟩ := dpa_at r1 (h1 vs (e2.sqb (e1.sqb s1)))
    obtain ⟨e, q3, q4⟩ := dpa_at r2 (h2 us (e2.sqb (e1.sqb s2)))
    refine ⟨T, u, v, rfl, hT, rfl, ?_, ?_⟩
    · rw [List.getD_eq_getElem?_getD, q1]; exact e1.dp q2
    · rw [List.getD_eq_getElem?_getD, q3]; exact e1.dp q4
theorem ei_zip {c : Cs} {e e2 : Expr} {en : En} {R : List PyData → En → Prop} {p pos tpos : Pos} {elts : List Expr} {kk : Nat} (hg : glB (c.sc.names.lookup (("zip" : Str))) = true) (hm : c.g.mg "zip" = none)
    (h : EvA c [e, e2] en fun ds en1 => ∃ b1 b2 xs ys, ds = [seqB b1 xs, seqB b2 ys] ∧ R (zipD xs ys) en1)
    (hs : ∀ env, starEach [e, e2] env = (false, eval e env) :: starEach [e2] env := by intro _; rfl) (hpl : ∀ env, (backTo pos (starEach [e2] env)).any (·.1) = false := by intro _; rfl) :
    EvI c (.Tuple elts kk tpos) (.Call (.Name "zip" p) [e, e2] [] pos) en R := fun X hx σ I H k o f => fun pins s J => by
  have hA : wA X [e, e2] σ H fun vs H1 => ∃ (b1 b2 : Bool) (a1 a2 : Addr) (us ws : List V), vs = [.ref a1, .ref a2] ∧ SqB c.g.K H1 b1 a1 us ∧ SqB c.g.K H1 b2 a2 ws ∧ k (Itz2 c.g.K b1 b2 a1 a2) H1 := by
    refine h X hx σ I H _ o fun vs ds en1 I1 H1 o1 g1 r1 ⟨b1, b2, xs, ys, ed, q⟩ => ?_
    subst ed
    obtain ⟨v, u, rfl, rv, ru⟩ := dpa2 r1
    obtain ⟨a1, us, rfl, s1, d1⟩ := dp_seqB rv
    obtain ⟨a2, ws, rfl, s2, d2⟩ := dp_seqB ru
    exact ⟨b1, b2, a1, a2, us, ws, rfl, o1.ex.sqb s1, o1.ex.sqb s2, f _ _ en1 I1 H1 o1 g1 (yl_zip2 s1 d1 s2 d2) q⟩
  -- the kinds are known only behind the arguments
  have hrun := wA_pa.run pos pins s σ H _ J hA
  refine Call_ (ld_blt J (gl_of hx hg) (by rw [hx.mg]; exact hm) PyProof.Rows.boot_zip (PyProof.Rows.callWith_type1 (thn hrun fun us s1 ⟨vs, H1, I1, rs, b1, b2, a1, a2, xs, ys, ev, q1, q2, q⟩ => ?_) (hs _) (hpl _)))
  subst ev
  rw [← hx.K] at q1 q2 q
  obtain ⟨u1, u2, rfl, ru1, ru2⟩ := vals2 rs
  cases ru1
  cases ru2
  obtain ⟨l1, r1, p1⟩ := SqB.at I1 q1
  obtain ⟨l2, r2, p2⟩ := SqB.at I1 q2
  have lt1 := p1.lt
  have lt2 := p2.lt
  refine zip_begins2 (beginsB b1 a1 l1.toArray) (beginsB b2 a2 l2.toArray) p1 p2 fun h' hz hTI hTO g1 g2 hsz hk => wpAny_pyIter_zip hz ?_
  have I2 : Inv X pins σ H1 { s1 with heap := h' } := I1.kept (t' := s1.toks) hk
  refine ⟨s1.heap.objs.size + 4, [s1.heap.objs.size + 4, s1.heap.objs.size + 2, s1.heap.objs.size + 3, s1.heap.objs.size, s1.heap.objs.size + 1], _, _, H1, rfl, I2, turn_zip2 (zip_sep2 (fp1 := [a1]) (fp2 := [a2]) (by simpa using lt1) (by simpa using lt2)) (Nat.ne_of_lt lt1) (Nat.ne_of_lt (Nat.lt_succ_of_lt lt2)), ⟨hz, hTI, ⟨_, _, hTO⟩, itB_new g1, itB_new g2⟩, fun d hd => ?_, q⟩
  have hle : s1.heap.objs.size ≤ d := by
    have dd : d = s1.heap.objs.size + 4 ∨ d = s1.heap.objs.size + 2 ∨ d = s1.heap.objs.size + 3 ∨ d = s1.heap.objs.size ∨ d = s1.heap.objs.size + 1 := by simpa using hd
    rcases dd with q | q | q | q | q <;> (rw [q]; first | exact Nat.le_add_right _ _ | exact Nat.le_refl _)
  exact I1.fpOk hle (I1.hok.fresh hle)
end Ly
namespace Ly
open PySem PySem.Spec PyProof.Rows L2

/-- enumerate(a tuple): its two new cells -/
theorem meets_enum_tup (a : Addr) (items : Array Value) :
    Meets (Builtin.«enumerate.__new__» ⟨[.type "enumerate", .ref a], []⟩) (fun _ R s => s.heap.IsTuple a items ∧ R (.ok (.ret (.ref (s.heap.push (objB false a)).objs.size)))
        { s with heap := (s.heap.push (objB false a)).push { cls := .type "enumerate", data := .fields #[.none, .bool false, .ref s.heap.objs.size, rawInt 0, .none, .none] } }) :=
  .of_wp fun prog w A R s h => by
    obtain ⟨hp, gg, dd, tk, os⟩ := s
    obtain ⟨ht, h⟩ := h
    have hsub := sub_enumerate
    have hT : Heap.IsTuple (Shared.heap ⟨hp, gg, dd, tk, os⟩) a items := ht
    wp_walk using wpAny_pyIter_tuple hT
    refine wpAny_stack_any fun frames => wpAny_pure ?_
    split
    · rename_i cl _ _ _ _ _
      cases (cl == Value.type "enumerate") <;> (wp_walk using wpAny_pyIter_tuple hT; exact ⟨_, rfl, h⟩)
    · wp_walk using wpAny_pyIter_tuple hT
      exact ⟨_, rfl, h⟩
theorem call_enum_tup {prog : Program} {w : World} {A : Around} {E : Value → Shared → Prop} {s : Shared} {a : Addr} {items : Array Value} {Q : Value → Shared → Prop} (ht : s.heap.IsTuple a items)
    (h : ∀ h', IsEnum h' (s.heap.objs.size + 1) s.heap.objs.size 0 .none → ItB h' false s.heap.objs.size a 0 → h'.objs.size = s.heap.objs.size + 2 → (∀ d o, s.heap.get? d = some o → h'.get? d = some o) → Q (.ref (s.heap.objs.size + 1)) { s with heap := h' }) :
    wpAny (model prog w) A (call (.type "enumerate") [.ref a]) Q E s := by
  refine callType_new F.called_enumerate (by decide) (F.typeCall_enumerate_1 _) (F.newCall_enumerate_1 _) (fun obj => F.args_object_init_2 obj _) F.entry_enumerate_new (meets_enum_tup a items) ⟨ht, ?_⟩
  have z1 : (s.heap.push (objB false a)).objs.size = s.heap.objs.size + 1 := Heap.size_push ..
  show _ ∧ _
  have g1 := Heap.get?_push_size (s.heap.push (objB false a)) (o := { cls := .type "enumerate", data := .fields #[.none, .bool false, .ref s.heap.objs.size, rawInt 0, .none, .none] }) rfl
  rw [z1] at g1 ⊢
  exact ⟨⟨_, g1, rfl⟩, h _ g1 (itB_new (Heap.get?_push_of_some _ (Heap.get?_push_size _ rfl))) (by rw [Heap.size_push, z1]) fun d o x => Heap.get?_push_of_some _ (Heap.get?_push_of_some _ x)⟩
def Ite2 (K : PySem.W.Frag) (b : Bool) (a : Addr) : It :=
  ⟨fun i H => ∃ (xs : List V) (x : V), SqB K H b a xs ∧ xs[i]? = some x,
    fun i H v H' => ∃ T x, v = .ref T ∧ H T = none ∧ H' = upd H T (.tup [.int (i : Nat), x]) ∧ ∀ xs, SqB K H b a xs → xs[i]? = some x,
    fun i H => ∃ xs : List V, SqB K H b a xs ∧ i = xs.length⟩
theorem turn_enum2 {P : Program} {w : World} {K : PySem.W.Frag} {elts : List Expr} {kk : Nat} {tpos : Pos} {b : Bool} {a e it : Addr} (n1 : a ≠ it) (n2 : a ≠ e) (n3 : e ≠ it) :
    Turn P w K (.Tuple elts kk tpos) (Ite2 K b a) [e, it] e (fun i h => (∃ old, IsEnum h e it ((0 : Int) + (i : Int)) old) ∧ ItB h b it a i) where
  mem := by simp
  obj := fun i h st d hd => by
    obtain ⟨⟨old, he⟩, t1⟩ := st
    have dd : d = e ∨ d = it := by simpa using hd
    rcases dd with q | q
    · subst q; exact ⟨_, he, fun v q => nomatch q⟩
    · subst q; exact t1.obj
  keep := fun i h h' st k => by
    obtain ⟨⟨old, he⟩, t1⟩ := st
    exact ⟨⟨old, k e (by simp) _ he⟩, t1.at fun o q => k it (by simp) o q⟩
  item := by
    intro X hP hw hK hc i pins s σ H E J hf st hg
    subst hP hw hK
    obtain ⟨he, t1⟩ := st
    obtain ⟨xs, x, qx, ex⟩ := hg
    obtain ⟨l1, r1, p1⟩ := SqB.at J qx
    obtain ⟨u1, hu1, ru1⟩ := r1.get ex
    have hh : X.A.in1.handled = none := J.ok.hd hc
    have W := GoesN.enumFrom (prog := X.prog) (w := X.w) (A := X.A) (elts := elts) (x1 := kk) (pos := tpos) 0 (drawsB hh b it a n1 l1.toArray) e n3 (by simp [n2.symm, n3]) (by simp)
    have hi1 : i < l1.length := (List.getElem?_eq_some_iff.mp hu1).1
    refine W.goes i s _ E (by simpa using hi1) ⟨he, t1, p1⟩ fun v h' tk hY st' hk htk => ?_
    obtain ⟨T, t, v1, rfl, hT, e1, hTT⟩ := hY
    obtain ⟨he', t1', _⟩ := st'
    have w1 : u1 = v1 := by
      have : l1[i]? = some v1 := by simpa using e1
      rw [hu1] at this
      exact Option.some.inj this
    subst w1
    have new : ObjOk X.prog X.w (upd H T (.tup [.int (i : Nat), x])) h' T (.tup [.int (i : Nat), x]) := ⟨by show 2 ≤ sizeLine; decide, [.int ((0 : Int) + (i : Int)) t, u1], .cons ⟨t, by rw [Int.zero_add]⟩ (.cons ru1 .nil), hTT⟩
    obtain ⟨old, he0⟩ := he
    have lte := Heap.lt_size he0
    obtain ⟨oo, eo, _⟩ := t1.obj
    have lti := Heap.lt_size eo
    have J1 : Inv X pins σ (upd H T (.tup [.int (i : Nat), x])) { s with heap := h', toks := tk } := J.turnedNew (ch := [e, it]) (fun d o hd q => hk d o (fun q' => hd (by simpa using q')) q) hf hT new
    refine ⟨.ref T, _, J1, rfl, ⟨T, x, rfl, J.hok.fresh hT, rfl, fun l hl => by rw [SqB.inj J hl qx]; exact ex⟩, ⟨he', t1'⟩, fun d hd => ?_⟩
    have ltd : d < s.heap.objs.size := by
      have dd : d = e ∨ d = it := by simpa using hd
      rcases dd with q | q
      · rw [q]; exact lte
      · rw [q]; exact lti
    rw [upd_ne (Nat.ne_of_lt (Nat.lt_of_lt_of_le ltd hT))]
    exact (hf d hd).1
  done := by
    intro X hP hw hK hc i pins s σ H E J hf st hg
    subst hP hw hK
    obtain ⟨he, t1⟩ := st
    obtain ⟨xs, qx, hend⟩ := hg
    obtain ⟨l1, r1, p1⟩ := SqB.at J qx
    have hh : X.A.in1.handled = none := J.ok.hd hc
    have W := GoesN.enumFrom (prog := X.prog) (w := X.w) (A := X.A) (elts := elts) (x1 := kk) (pos := tpos) 0 (drawsB hh b it a n1 l1.toArray) e n3 (by simp [n2.symm, n3]) (by simp)
    have hn : i = l1.toArray.size := by
      rw [List.size_toArray, ← r1.length]
      exact hend
    subst hn
    refine W.stops s _ E ⟨he, t1, p1⟩ fun h' tk hk htk => ?_
    exact J.turnedL (ch := [e, it]) (fun d o hd q => hk d o (fun q' => hd (by simpa using q')) q) hf
  self := fun A i s Q E st h => let ⟨⟨_, he⟩, _⟩ := st; wpAny_pyIter_enum he h
def enumD (ds : List PyData) : List PyData := (List.range ds.length).map fun i => .tuple [.int (i : Nat), ds.getD i .none]
theorem enumD_len (ds : List PyData) : (enumD ds).length = ds.length := by unfold enumD; simp
theorem enumD_get {ds : List PyData} {i : Nat} {d : PyData} (h : ds[i]? = some d) : (enumD ds)[i]? = some (.tuple [.int (i : Nat), d]) := by
  have hi : i < ds.length := (List.getElem?_eq_some_iff.mp h).1
  unfold enumD
  rw [List.getElem?_map, List.getElem?_range hi]
  show some (PyData.tuple [.int (i : Nat), ds.getD i .none]) = _
  rw [List.getD_eq_getElem?_getD, h]
  rfl
theorem yl_enum2 {K : PySem.W.Frag} {I : Hp} {b : Bool} {a : Addr} {vs : List V} {ds : List PyData} (s1 : SqB K I b a vs) (r1 : DpAll K I vs ds) : Yl K (Ite2 K b a) (enumD ds) I := by
  refine yl_pair (f := fun i => .int (i : Nat)) (g := fun i => ds.getD i .none) (fun i hi => ?_) (fun i I' H' hi e1 e2 => ?_) (fun I' H' e1 e2 => ?_) (fun i I' H' x H'' hi e1 e2 y => ?_)
  · rw [enumD_len] at hi
    have h := List.getElem?_eq_getElem hi
    rw [enumD_get h, List.getD_eq_getElem?_getD, h]
    rfl
  · rw [enumD_len, ← dpa_len r1] at hi
    exact ⟨vs, vs[i], e2.sqb (e1.sqb s1), List.getElem?_eq_getElem hi⟩
  · exact ⟨vs, e2.sqb (e1.sqb s1), by rw [enumD_len, dpa_len r1]⟩
  · obtain ⟨T, u, rfl, hT, rfl, h1⟩ := y
    obtain ⟨d, q1, q2⟩ := dpa_at r1 (h1 vs (e2.sqb (e1.sqb s1)))
    refine ⟨T, _, u, rfl, hT, rfl, .int _, ?_⟩
    rw [List.getD_eq_getElem?_getD, q1]; exact e1.dp q2
theorem ei_enum {c : Cs} {e : Expr} {en : En} {R : List PyData → En → Prop} {p pos tpos : Pos} {elts : List Expr} {kk : Nat} (hg : glB (c.sc.names.lookup (("enumerate" : Str))) = true) (hm : c.g.mg "enumerate" = none)
    (h : EvE c e en fun d en1 => ∃ b xs, d = seqB b xs ∧ R (enumD xs) en1) (hs : ∀ env, starEach [e] env = [(false, eval e env)] := by intro _; rfl) :
    EvI c (.Tuple elts kk tpos) (.Call (.Name "enumerate" p) [e] [] pos) en R := fun X hx σ I H k o f => fun pins s J => by
  have hA : wE X e σ H fun v H1 => ∃ (b : Bool) (a : Addr) (us : List V), v = .ref a ∧ SqB c.g.K H1 b a us ∧ k (Ite2 c.g.K b a) H1 := by
    refine h X hx σ I H _ o fun v d en1 I1 H1 o1 g1 r1 ⟨b, xs, ed, q⟩ => ?_
    subst ed
    obtain ⟨a1, us, rfl, s1, d1⟩ := dp_seqB r1
    exact ⟨b, a1, us, rfl, o1.ex.sqb s1, f _ _ en1 I1 H1 o1 g1 (yl_enum2 s1 d1) q⟩
  have hrun := (pa_cons (wE_pe (X := X) (e := e)) pa_nil (hs _)).run pos pins s σ H (fun vs H1 => ∃ v, vs = [v] ∧ ∃ (b : Bool) (a : Addr) (us : List V), v = .ref a ∧ SqB c.g.K H1 b a us ∧ k (Ite2 c.g.K b a) H1) J (by
    intro pins' s' J'
    refine wpAny_mono (hA pins' s' J') (fun u s1 hu => ?_) fun _ _ z => z
    obtain ⟨v, H1, J1, rv, z⟩ := hu
    exact ⟨v, H1, J1, rv, v, rfl, z⟩)
  refine Call_ (ld_blt J (gl_of hx hg) (by rw [hx.mg]; exact hm) boot_enumerate (PyProof.Rows.callWith_type1 (thn hrun fun us s1 ⟨vs, H1, I1, rs, v, ev, b, a, xs, ea, q1, q⟩ => ?_) (hs _) rfl))
  subst ev ea
  rw [← hx.K] at q1 q
  obtain ⟨u1, rfl, ru1⟩ := vals1 rs
  cases ru1
  obtain ⟨l1, r1, p1⟩ := SqB.at I1 q1
  have lt1 := p1.lt
  have go : ∀ h', IsEnum h' (s1.heap.objs.size + 1) s1.heap.objs.size 0 .none → ItB h' b s1.heap.objs.size a 0 → (∀ b o, s1.heap.get? b = some o → h'.get? b = some o) → PIE X pins σ (.Tuple elts kk tpos) k (.ref (s1.heap.objs.size + 1)) { s1 with heap := h' } := fun h' he hit hk => by
    have I2 : Inv X pins σ H1 { s1 with heap := h' } := I1.kept (t' := s1.toks) hk
    refine ⟨s1.heap.objs.size + 1, [s1.heap.objs.size + 1, s1.heap.objs.size], _, _, H1, rfl, I2, turn_enum2 (Nat.ne_of_lt lt1) (Nat.ne_of_lt (Nat.lt_succ_of_lt lt1)) (Nat.succ_ne_self _), ⟨⟨.none, he⟩, hit⟩, fun d hd => ?_, q⟩
    have hle : s1.heap.objs.size ≤ d := by
      have dd : d = s1.heap.objs.size + 1 ∨ d = s1.heap.objs.size := by simpa using hd
      rcases dd with q | q <;> (rw [q]; first | exact Nat.le_add_right _ _ | exact Nat.le_refl _)
    exact I1.fpOk hle (I1.hok.fresh hle)
  cases b with
  | true => exact call_enumerate_list p1 fun h' he hit hsz hk => wpAny_pyIter_enum he (go h' he hit hk)
  | false => exact call_enum_tup p1 fun h' he hit hsz hk => wpAny_pyIter_enum he (go h' he hit hk)

end Ly
namespace Ly
open PySem PySem.Spec PyProof.Rows L2

section
variable {c : Cs} {e a b d t tg iter elt : Expr} {es ifs : List Expr} {en : En} {D : Eds} {Q : PyData → En → Prop} {QN : Addr → List PyData → En → Prop} {pos p p2 p3 pt pt2 px py pz : Pos} {x y z : Str} {kt kt2 : Nat}
/-! ### several targets -/
def envS (sc : Scope) : Env := { scope := sc, locals := 0, globals := 0, cells := [], qual := "", func := none, code := .none, frame := none, builtins := 0 }
theorem sw_scope (ts : List Expr) (v : Expr) (env : Env) : swappedStores ts v env = swappedStores ts v (envS env.scope) := rfl
theorem es_asgT {tg : Expr} (h : EvE c e en fun d en1 => EvG c anyS tg d en1 D.nx) (hw : swappedStores [tg] e (envS c.sc) = pure none := by kernel_rfl) (hs : ∀ env, swapsWithSole [tg] e pos.line env = pure false := by intro _; rfl)
    (h1 : ∀ env, (assignEach [tg] env).map (·.2) = [assign tg env] := by intro _; rfl) : EvS c (.Assign [tg] e pos) en D := fun X hx σ I H E o t => by
  refine wS_of (ps_asg wE_pe wG_pg (hs _) (by rw [sw_scope, hx.sc]; exact hw) (h1 _)) ?_
  refine h X hx σ I H _ o fun v d en1 I1 H1 o1 g1 r1 q1 => ?_
  exact q1 X hx v σ I1 H1 _ o1 r1 fun σ' en' I' H' o' g' _ n => t.nx σ' en' I' H' o' (g1.trans g') n
theorem es_par2 (i j : Nat) (hN : c.N[i]? = some x) (hM : c.N[j]? = some y) (hij : i ≠ j) (hx1 : c.sc.names.lookup x = some .local) (hy1 : c.sc.names.lookup y = some .local)
    (h : EvA c [a, b] en fun ds en1 => ∃ d1 d2, ds = [d1, d2] ∧ D.nx ((en1.set i (.dat d1)).set j (.dat d2)))
    (hw : swappedStores [.Tuple [.Name x px, .Name y py] kt pt] (.Tuple [a, b] kt2 pt2) (envS c.sc) = pure (some [x, y]) := by kernel_rfl)
    (hs : ∀ env, swapsWithSole [.Tuple [.Name x px, .Name y py] kt pt] (.Tuple [a, b] kt2 pt2) pos.line env = pure false := by intro _; rfl) :
    EvS c (.Assign [.Tuple [.Name x px, .Name y py] kt pt] (.Tuple [a, b] kt2 pt2) pos) en D := fun X hx σ I H E o t => by
  refine wS_of (ps_par (i := i) (j := j) hx.calm (by rw [hx.N]; exact hx.nd) (by rw [hx.N]; exact hN) (by rw [hx.N]; exact hM) hij (by rw [hx.sc]; exact hx1) (by rw [hx.sc]; exact hy1) wA_pa (by rw [sw_scope, hx.sc]; exact hw) (hs _)) ?_
  refine h X hx σ I H _ o fun vs ds en1 I1 H1 o1 g1 r1 ⟨d1, d2, ed, q⟩ => ?_
  subst ed
  obtain ⟨v, u, rfl, rv, ru⟩ := dpa2 r1
  obtain ⟨o2, g2⟩ := ok_set o1 i rv
  obtain ⟨o3, g3⟩ := ok_set o2 j ru
  exact ⟨v, u, rfl, t.nx _ _ I1 H1 o3 (g1.trans (g2.trans g3)) q⟩
theorem es_par3 (i j l : Nat) (hN : c.N[i]? = some x) (hM : c.N[j]? = some y) (hL : c.N[l]? = some z) (hij : i ≠ j) (hil : i ≠ l) (hjl : j ≠ l) (hx1 : c.sc.names.lookup x = some .local) (hy1 : c.sc.names.lookup y = some .local) (hz1 : c.sc.names.lookup z = some .local)
    (h : EvA c [a, b, d] en fun ds en1 => ∃ d1 d2 d3, ds = [d1, d2, d3] ∧ D.nx (((en1.set i (.dat d1)).set j (.dat d2)).set l (.dat d3)))
    (hw : swappedStores [.Tuple [.Name x px, .Name y py, .Name z pz] kt pt] (.Tuple [a, b, d] kt2 pt2) (envS c.sc) = pure (some [x, y, z]) := by kernel_rfl)
    (hs : ∀ env, swapsWithSole [.Tuple [.Name x px, .Name y py, .Name z pz] kt pt] (.Tuple [a, b, d] kt2 pt2) pos.line env = pure false := by intro _; rfl) :
    EvS c (.Assign [.Tuple [.Name x px, .Name y py, .Name z pz] kt pt] (.Tuple [a, b, d] kt2 pt2) pos) en D := fun X hx σ I H E o t => by
  refine wS_of (ps_par3 (i := i) (j := j) (l := l) hx.calm (by rw [hx.N]; exact hx.nd) (by rw [hx.N]; exact hN) (by rw [hx.N]; exact hM) (by rw [hx.N]; exact hL) hij hil hjl (by rw [hx.sc]; exact hx1) (by rw [hx.sc]; exact hy1) (by rw [hx.sc]; exact hz1) wA_pa (by rw [sw_scope, hx.sc]; exact hw) (hs _)) ?_
  refine h X hx σ I H _ o fun vs ds en1 I1 H1 o1 g1 r1 ⟨d1, d2, d3, ed, q⟩ => ?_
  subst ed
  cases r1 with
  | cons rv rr =>
    obtain ⟨u, w, rfl, ru, rw'⟩ := dpa2 rr
    obtain ⟨o2, g2⟩ := ok_set o1 i rv
    obtain ⟨o3, g3⟩ := ok_set o2 j ru
    obtain ⟨o4, g4⟩ := ok_set o3 l rw'
    exact ⟨_, u, w, rfl, t.nx _ _ I1 H1 o4 (g1.trans (g2.trans (g3.trans g4))) q⟩
/-- two new lists -/
theorem es_par2N (i j : Nat) (hN : c.N[i]? = some x) (hM : c.N[j]? = some y) (hij : i ≠ j) (hx1 : c.sc.names.lookup x = some .local) (hy1 : c.sc.names.lookup y = some .local)
    (h : EvN c a en fun A xs en1 => EvN c b en1 fun B ys en2 => D.nx ((en2.set i (.cel A xs)).set j (.cel B ys)))
    (hw : swappedStores [.Tuple [.Name x px, .Name y py] kt pt] (.Tuple [a, b] kt2 pt2) (envS c.sc) = pure (some [x, y]) := by kernel_rfl)
    (hs : ∀ env, swapsWithSole [.Tuple [.Name x px, .Name y py] kt pt] (.Tuple [a, b] kt2 pt2) pos.line env = pure false := by intro _; rfl)
    (h1 : ∀ env, starEach [a, b] env = (false, eval a env) :: starEach [b] env := by intro _; rfl) (h2 : ∀ env, starEach [b] env = [(false, eval b env)] := by intro _; rfl) :
    EvS c (.Assign [.Tuple [.Name x px, .Name y py] kt pt] (.Tuple [a, b] kt2 pt2) pos) en D := fun X hx σ I H E o t => by
  refine wS_of (ps_par (i := i) (j := j) hx.calm (by rw [hx.N]; exact hx.nd) (by rw [hx.N]; exact hN) (by rw [hx.N]; exact hM) hij (by rw [hx.sc]; exact hx1) (by rw [hx.sc]; exact hy1) (pa_cons wE_pe (pa_cons wE_pe pa_nil (h2 _)) (h1 _)) (by rw [sw_scope, hx.sc]; exact hw) (hs _)) ?_
  refine h X hx σ I H _ o fun v A xs en1 I1 H1 o1 g1 n1 q1 => ?_
  refine q1 X hx σ I1 H1 _ o1 fun u B ys en2 I2 H2 o2 g2 n2 q2 => ?_
  obtain ⟨rfl, m2, m3, m4, vs, m5, m6⟩ := n1
  have cA : ¬ Cin en2 A := fun z => by
    rcases g2.c A z with w | w
    · exact m3 w
    · rw [m5] at w
      cases w
  have nA : Nw c.g.K en2 I2 H2 H (.ref A) A xs := ⟨rfl, g2.n A (some_ne m5) m2 m3, cA, m4, vs, g2.h A _ m5 m3, g2.i.dpa m6⟩
  obtain ⟨rfl, k2, k3, k4, k5⟩ := n2
  have hB0 : H B = none := by
    cases ee : H B with
    | none => rfl
    | some u => exact absurd k4 (g1.k B (some_ne ee))
  have nB : Nw c.g.K en2 I2 H2 H (.ref B) B ys := ⟨rfl, k2, k3, hB0, k5⟩
  have hAB : A ≠ B := fun z => by rw [z, k4] at m5; cases m5
  obtain ⟨o3, g3⟩ := go_setN (g1.trans g2) o2 i nA
  have cB : ¬ Cin (en2.set i (.cel A xs)) B := fun ⟨m, zs, z⟩ => by
    rcases set_at z with ⟨_, e2, _⟩ | ⟨_, e2⟩
    · cases e2
      exact hAB rfl
    · exact k3 ⟨m, zs, e2⟩
  have nB' : Nw c.g.K (en2.set i (.cel A xs)) I2 H2 H (.ref B) B ys := ⟨rfl, k2, cB, nB.f, k5⟩
  obtain ⟨o4, g4⟩ := go_setN g3 o3 j nB'
  exact ⟨_, _, rfl, t.nx _ _ I2 H2 o4 g4 q2⟩

/-! ### put together -/
theorem ee_catT (h : EvE c a en fun d en1 => EvE c b en1 fun d2 en2 => ∃ xs ys, d = .tuple xs ∧ d2 = .tuple ys ∧ xs.length + ys.length ≤ 1000 ∧ Q (.tuple (xs ++ ys)) en2) : EvE c (.BinOp a .Add b pos) en Q := fun X hx σ I H k o f => by
  refine wE_of (pe_op op_catA wE_pe wE_pe) ?_
  refine h X hx σ I H _ o fun v d en1 I1 H1 o1 g1 r1 q1 => ?_
  refine q1 X hx σ I1 H1 _ o1 fun v2 d2 en2 I2 H2 o2 g2 r2 ⟨xs, ys, e1, e2, hl, q⟩ => ?_
  subst e1 e2
  have r1' := g2.i.dp r1
  cases r1' with
  | tup s1 ra =>
    cases r2 with
    | tup s2 rb =>
      have rab := dpa_append ra rb
      refine ⟨_, _, _, _, rfl, rfl, by rw [hx.K]; exact o2.ex.sqt s1, by rw [hx.K]; exact o2.ex.sqt s2, Nat.le_trans (by rw [dpa_len ra, dpa_len rb]; exact hl) (by decide), fun e => ?_, fun _ e => ?_, fun _ _ p hp => ?_⟩
      · subst e
        exact f _ _ en2 I2 H2 o2 (g1.trans g2) (.tup s2 (by simpa using rab)) q
      · subst e
        exact f _ _ en2 I2 H2 o2 (g1.trans g2) (.tup s1 (by simpa using rab)) q
      · obtain ⟨o3, g3⟩ := o2.lay (o := .tup _) hp
        exact f _ _ en2 _ _ o3 (g1.trans (g2.trans g3)) (.tup (.inl (.inl upd_same)) (g3.i.dpa rab)) q
def rCatS (K : PySem.W.Frag) : R2 := fun x y H Q => ∃ l m xs zs, x = .ref l ∧ y = .ref m ∧ SqL K H l xs ∧ SqL K H m zs ∧ xs.length + zs.length ≤ sizeLine ∧ ∀ p, H p = none → Q (.ref p) (upd H p (.lst (xs ++ zs)))
theorem op_catS {X : Cx} : OpR X (binaryOp .Add) (rCatS X.K) := by
  intro pins s σ H x y v u Q I rx ry h
  obtain ⟨l, m, xs, zs, rfl, rfl, h1, h2, hz, q⟩ := h
  cases rx
  cases ry
  obtain ⟨i1, v1, ⟨⟨c1, dd1, dt1, sl1⟩, n1, ho1, hc1, _, hd1⟩, _⟩ := I.list h1
  obtain ⟨i2, v2, ⟨⟨c2, dd2, dt2, sl2⟩, n2, ho2, hc2, _, hd2⟩, _⟩ := I.list h2
  simp only at hc1 hd1 hc2 hd2
  subst hc1 hd1 hc2 hd2
  have ea : i1.toArray ++ i2.toArray = (i1 ++ i2).toArray := by simp
  have el : i1.toArray.size + i2.toArray.size ≤ sizeLine := by
    rw [List.size_toArray, List.size_toArray, ← v1.length, ← v2.length]
    exact hz
  refine concat_meets ⟨_, ho1, rfl⟩ ⟨_, ho2, rfl⟩ noFill_list_add seq_list_add PySem.F.slot_list_add PySem.F.entry_list_add (PySem.F.args_list_add_2 _ _) (list_addW l m i1.toArray i2.toArray n1 n2 dd1 dd2 sl1 sl2 el) ⟨ho1, ho2, ?_⟩
  rw [ea]
  have hf : H s.heap.objs.size = none := I.hok.fresh (Nat.le_refl _)
  have new : ObjOk X.prog X.w (upd H s.heap.objs.size (.lst (xs ++ zs))) (s.heap.push { cls := Value.type "list", data := Data.seq (i1 ++ i2).toArray }) s.heap.objs.size (.lst (xs ++ zs)) := ⟨by rw [List.length_append]; exact hz, i1 ++ i2, 0, v1.append v2, Heap.get?_push_size _ rfl⟩
  exact ⟨.ref _, _, I.laid (t' := s.toks) (fun b u e => Heap.get?_push_of_some _ e) (Nat.le_refl _) new, rfl, q _ hf⟩
theorem en_catL (h : EvE c a en fun d en1 => EvE c b en1 fun d2 en2 => ∃ xs ys, d = .list xs ∧ d2 = .list ys ∧ xs.length + ys.length ≤ 1000 ∧ ∀ p, ¬ Cin en2 p → QN p (xs ++ ys) en2) : EvN c (.BinOp a .Add b pos) en QN := fun X hx σ I H k o f => by
  refine wE_of (pe_op op_catS wE_pe wE_pe) ?_
  refine h X hx σ I H _ o fun v d en1 I1 H1 o1 g1 r1 q1 => ?_
  refine q1 X hx σ I1 H1 _ o1 fun v2 d2 en2 I2 H2 o2 g2 r2 ⟨xs, ys, e1, e2, hl, q⟩ => ?_
  subst e1 e2
  have r1' := g2.i.dp r1
  cases r1' with
  | lst s1 ra =>
    cases r2 with
    | lst s2 rb =>
      refine ⟨_, _, _, _, rfl, rfl, by rw [hx.K]; exact o2.ex.sql s1, by rw [hx.K]; exact o2.ex.sql s2, Nat.le_trans (by rw [dpa_len ra, dpa_len rb]; exact hl) (by decide), fun p hp => ?_⟩
      obtain ⟨o3, g3, n3⟩ := o2.own hp (dpa_append ra rb)
      refine f _ p _ en2 _ _ o3 (g1.trans (g2.trans g3)) ⟨n3.ref, n3.i, n3.c, ?_, n3.l⟩ (q p n3.c)
      cases ee : H p with
      | none => rfl
      | some u => exact absurd hp ((g1.trans g2).k p (some_ne ee))
theorem dpa_rep {K : PySem.W.Frag} {I : Hp} {vs : List V} {ds : List PyData} (r : DpAll K I vs ds) : ∀ n : Nat, DpAll K I (List.replicate n vs).flatten (List.replicate n ds).flatten
  | 0 => .nil
  | n + 1 => by
    rw [List.replicate_succ, List.replicate_succ, List.flatten_cons, List.flatten_cons]
    exact dpa_append r (dpa_rep r n)
/-- [..] * n -/
theorem en_rep (h : EvN c a en fun A xs en1 => EvE c b en1 fun d2 en2 => ∃ n : Int, d2 = .int n ∧ (0 ≤ n ∧ n ≤ 1000 ∧ xs.length ≤ 1000) ∧ ∀ p, ¬ Cin en2 p → QN p (List.replicate n.toNat xs).flatten en2) : EvN c (.BinOp a .Mult b pos) en QN := fun X hx σ I H k o f => by
  refine wE_of (pe_op op_rep wE_pe wE_pe) ?_
  refine h X hx σ I H _ o fun v A xs en1 I1 H1 o1 g1 n1 q1 => ?_
  refine q1 X hx σ I1 H1 _ o1 fun v2 d2 en2 I2 H2 o2 g2 r2 ⟨n, e2, hn, q⟩ => ?_
  subst e2
  cases r2
  obtain ⟨rfl, m2, m3, m4, vs, m5, m6⟩ := n1
  refine ⟨A, n, vs, rfl, rfl, g2.h A _ m5 m3, by omega, by omega, ?_, fun p hp => ?_⟩
  · have h1 : vs.length ≤ 1000 := by rw [dpa_len m6]; exact hn.2.2
    have h2 : n.toNat ≤ 1000 := by omega
    exact Nat.le_trans (Nat.mul_le_mul h1 h2) (by decide)
  · obtain ⟨o3, g3, n3⟩ := o2.own hp (dpa_rep (g2.i.dpa m6) n.toNat)
    refine f _ p _ en2 _ _ o3 (g1.trans (g2.trans g3)) ⟨n3.ref, n3.i, n3.c, ?_, n3.l⟩ (q p n3.c)
    cases ee : H p with
    | none => rfl
    | some u => exact absurd hp ((g1.trans g2).k p (some_ne ee))
/-! ### the module's constants -/
theorem ee_globI {i : Int} {tk : Tok} (hg : glB (c.sc.names.lookup x) = true) (hm : c.g.mg x = some (.int i tk)) (q : Q (.int i) en) (hd : (x == ("__debug__" : Str)) = false := by decide) : EvE c (.Name x pos) en Q := fun X hx σ I H k o f =>
  wE_of (pe_glob (v := .int i) (gl_of hx hg) (by rw [hx.mg]; exact hm) ⟨tk, rfl⟩ hd) (f _ _ en I H o (Go.refl en I H) (.int i) q)
theorem ee_globD {A : Addr} {d : PyData} (hg : glB (c.sc.names.lookup x) = true) (hm : c.g.mg x = some (.ref A)) (hD : Dp c.g.K (fun _ => none) (.ref A) d) (q : Q d en) (hd : (x == ("__debug__" : Str)) = false := by decide) : EvE c (.Name x pos) en Q := fun X hx σ I H k o f =>
  wE_of (pe_glob (v := .ref A) (gl_of hx hg) (by rw [hx.mg]; exact hm) rfl hd) (f _ _ en I H o (Go.refl en I H) (Ex.dp (fun _ _ z => by cases z) hD) q)
/-! ### calls without arguments, by keywords -/
theorem ee_call0 {k : Nat} {ps : List Str} {pr : List PyData → (PyData → Prop) → Prop} (F : KnowsP c.g x k ps pr) (hk : k ≤ c.lv) (hg : glB (c.sc.names.lookup x) = true) (h : pr [] fun d => Q d en) (hdb : (x == ("__debug__" : Str)) = false := by decide) :
    EvE c (.Call (.Name x p) [] [] pos) en Q := fun X hx σ I H kk o f => fun pins s J => by
  obtain ⟨fa, fd, F, hm, hkp, hb⟩ := F.ex
  refine wpAny_Call_Name_kw (ld_glob J (gl_of hx hg) (by rw [hx.mg]; exact hm) ?_ hdb)
  refine PySem.W.callWith_K0 J.kIn (by rw [hx.K]; exact hkp) (runG (us := []) (vs := []) hx F hk hb J .nil ?_)
  refine ⟨I, [], fun s _ => RDat Q s en, ok_args (ds := []) (vs := []) o.ex .nil, ⟨[], rfl, h⟩, fun v s args' I' H' o' g' r' q' => ?_⟩
  have nc : ∀ b, ¬ Cin [] b := fun b ⟨_, _, z⟩ => by simp at z
  have o2 : Ok c.g.K σ I' H' en := o.mono g'.i o'.ex fun b hb => by
    obtain ⟨h1, h2⟩ := o.cin hb
    obtain ⟨u, hu⟩ := ne_some h2
    exact ⟨g'.n b h2 h1 (nc b), by rw [hu, g'.h b u hu (nc b)]⟩
  have g2 : Go en I H en I' H' := ⟨g'.i, fun b u hb _ => g'.h b u hb (nc b), fun b h1 h2 _ => g'.n b h1 h2 (nc b), fun b hb => .inl hb, g'.k⟩
  cases s with
  | dat d => exact f v d en I' H' o2 g2 r' q'
  | no => exact q'.elim
  | cel a xs => exact q'.elim
/-! ### our own lists lent to what only reads -/
def frzE (en : En) : En := en.map fun
  | .cel _ xs => .dat (.list xs)
  | s => s
theorem frzE_get {en : En} {i : Nat} {s : Sl} (h : (frzE en)[i]? = some s) : (∃ A xs, s = .dat (.list xs) ∧ en[i]? = some (Sl.cel A xs)) ∨ en[i]? = some s := by
  unfold frzE at h
  rw [List.getElem?_map] at h
  cases e : en[i]? with
  | none => rw [e] at h; cases h
  | some t =>
    rw [e] at h
    cases t with
    | no => cases h; exact .inr rfl
    | dat d => cases h; exact .inr rfl
    | cel A xs => cases h; exact .inl ⟨A, xs, rfl, rfl⟩
theorem frzE_cin {en : En} {b : Addr} : ¬ Cin (frzE en) b := fun ⟨i, xs, h⟩ => by
  unfold frzE at h
  rw [List.getElem?_map] at h
  cases e : en[i]? with
  | none => rw [e] at h; cases h
  | some t =>
    rw [e] at h
    cases t <;> cases h
theorem ok_frzE {K : PySem.W.Frag} {σ : L2.St} {I H : Hp} (o : Ok K σ I H en) : ∃ I', Ok K σ I' H (frzE en) ∧ Ex I I' := by
  classical
  let I' : Hp := fun b => if Cin en b then H b else I b
  have ex : Ex I I' := fun b u hb => by
    show (if Cin en b then H b else I b) = some u
    by_cases q : Cin en b
    · rw [(o.cin q).1] at hb
      cases hb
    · rw [if_neg q]
      exact hb
  have ex2 : Ex I' H := fun b u hb => by
    have hb : (if Cin en b then H b else I b) = some u := hb
    by_cases q : Cin en b
    · rw [if_pos q] at hb
      exact hb
    · rw [if_neg q] at hb
      exact o.ex b u hb
  refine ⟨I', ⟨by unfold frzE; rw [List.length_map, o.len], ex2, fun i d h => ?_, fun i A xs h => absurd ⟨i, xs, h⟩ frzE_cin, fun i j A xs ys h => absurd ⟨i, xs, h⟩ frzE_cin⟩, ex⟩
  rcases frzE_get h with ⟨A, xs, e1, e2⟩ | h
  · cases e1
    obtain ⟨h1, _, vs, h3, h4⟩ := o.cel i A xs e2
    refine ⟨_, h1, .lst (.inl (.inl ?_)) (ex.dpa h4)⟩
    show (if Cin en A then H A else I A) = _
    rw [if_pos ⟨i, xs, e2⟩]
    exact h3
  · obtain ⟨v, h1, h2⟩ := o.dat i d h
    exact ⟨v, h1, ex.dp h2⟩
/-- what was lent is as it was -/
theorem ok_lent {K : PySem.W.Frag} {σ : L2.St} {I I0 H I' H' : Hp} (o : Ok K σ I H en) (ex : Ex I I0) (g : Go (frzE en) I0 H (frzE en) I' H') (o' : Ok K σ I' H' (frzE en)) : Ok K σ I H' en ∧ Go en I H en I H' := by
  have kp : ∀ b u, H b = some u → H' b = some u := fun b u hb => g.h b u hb frzE_cin
  have e2 : Ex I H' := ex.trans (g.i.trans o'.ex)
  refine ⟨o.mono (Ex.refl I) e2 fun b hb => ?_, Ex.refl I, fun b u hb _ => kp b u hb, fun b _ hi _ => hi, fun b hb => .inl hb, g.k⟩
  obtain ⟨h1, h2⟩ := o.cin hb
  obtain ⟨u, hu⟩ := ne_some h2
  exact ⟨h1, by rw [hu, kp b u hu]⟩
/-- no place in it -/
def plainD : PyData → Bool
  | .none => true
  | .bool _ => true
  | .int _ => true
  | .str _ => true
  | _ => false
theorem plain_dp {K : PySem.W.Frag} {I I' : Hp} {v : V} {d : PyData} (h : plainD d = true) (r : Dp K I v d) : Dp K I' v d := by
  cases r with
  | non => exact .non
  | bl b => exact .bl b
  | int i => exact .int i
  | str x => exact .str x
  | lst _ _ => cases h
  | tup _ _ => cases h
theorem ee_lend (h : EvE c e (frzE en) fun d en' => en' = frzE en ∧ plainD d = true ∧ Q d en) : EvE c e en Q := fun X hx σ I H k o f => by
  obtain ⟨I0, o0, ex⟩ := ok_frzE o
  refine h X hx σ I0 H k o0 fun v d en' I' H' o' g' r' ⟨e1, e2, q⟩ => ?_
  subst e1
  obtain ⟨o2, g2⟩ := ok_lent o ex g' o'
  exact f v d en I H' o2 g2 (plain_dp e2 r') q
theorem en_lend (h : EvN c e (frzE en) fun A xs en' => en' = frzE en ∧ (∃ ns : List Int, xs = ns.map .int) ∧ (¬ Cin en A → QN A xs en)) : EvN c e en QN := fun X hx σ I H k o f => by
  obtain ⟨I0, o0, ex⟩ := ok_frzE o
  refine h X hx σ I0 H k o0 fun v A xs en' I' H' o' g' n' ⟨e1, ⟨ns, e2⟩, q⟩ => ?_
  subst e1
  obtain ⟨o2, g2⟩ := ok_lent o ex g' o'
  obtain ⟨rfl, m2, m3, m4, vs, m5, m6⟩ := n'
  have nc : ¬ Cin en A := fun z => (o.cin z).2 m4
  have nI : I A = none := by
    cases ee : I A with
    | none => rfl
    | some u =>
      have := o.ex A u ee
      rw [m4] at this
      cases this
  subst e2
  exact f _ A _ en I H' o2 g2 ⟨rfl, nI, nc, m4, vs, m5, by rw [dpa_ints_inv m6]; exact dpa_ints ns⟩ (q nc)
end
end Ly
namespace Ly
open PySem PySem.Spec PyProof.Rows L2

section
variable {c : Cs} {e a b t tg iter elt : Expr} {es ifs : List Expr} {st : Stmt} {sts as bs body : List Stmt} {en : En} {D : Eds} {Q : PyData → En → Prop} {QN : Addr → List PyData → En → Prop} {R : List PyData → En → Prop} {pos p p2 p3 : Pos} {x y z : Str}
theorem wipeE_set_no {en : En} {v : Nat} : ∀ {vs : List Nat}, v ∈ vs → (wipeE en vs).set v .no = wipeE en vs
  | u :: vs, h => by
    by_cases q : v = u
    · subst q
      unfold wipeE
      rw [List.set_set]
    · unfold wipeE
      rw [List.set_comm _ _ (Ne.symm q), wipeE_set_no (vs := vs) (by simpa [q] using h)]
theorem wipeE_sub {en : En} {ws : List Nat} : ∀ {vs : List Nat}, (∀ v, v ∈ vs → v ∈ ws) → wipeE (wipeE en ws) vs = wipeE en ws
  | [], _ => rfl
  | v :: vs, h => by
    show (wipeE (wipeE en ws) vs).set v .no = _
    rw [wipeE_sub fun u hu => h u (by simp [hu]), wipeE_set_no (h v (by simp))]
theorem wipeE_two {en : En} {ws : List Nat} : wipeE (wipeE en ws) ws = wipeE en ws := wipeE_sub fun _ h => h
/-- the block's own slots -/
abbrev ow (own : List (Str × Nat)) : List Nat := own.map (·.2)
theorem lcq_map {α : Type} {scope : Scope} {own : List (Str × Nat)} (xs : List α) (F E : α → PyData)
    (h : EvI c tg iter en fun ds en1 => ds = xs.map F ∧ xs.length ≤ 1000 ∧ (∀ x, x ∈ xs → EvG (c.blk scope) (fun j => j ∈ own.map (·.2)) tg (F x) (wipeE en1 (ow own)) fun en3 => EvE (c.blk scope) elt en3 fun y en5 => y = E x ∧ wipeE en5 (ow own) = wipeE en1 (ow own)) ∧ ∀ p, ¬ Cin (wipeE en1 (ow own)) p → QN p (xs.map E) (wipeE en1 (ow own))) : LcQ c tg iter elt [] scope own en QN := fun X hx σ I H k o f => by
  refine h X hx σ I H k o fun J ds en1 I1 H1 o1 g1 yl ⟨ed, hl, hb, hq⟩ => f J ds en1 I1 H1 o1 g1 yl ?_
  subst ed
  refine ⟨fun i acc en2 => acc = (xs.take i).map E ∧ en2 = wipeE en1 (ow own), ⟨rfl, rfl⟩, fun i d acc en2 hd ⟨ha, he⟩ => ⟨?_, ?_⟩, by simpa using hl, fun acc en2 ⟨ha, he⟩ p hp => ?_⟩
  · rw [ha, List.length_map, List.length_take]; omega
  · subst ha he
    rw [List.getElem?_map] at hd
    cases hx : xs[i]? with
    | none => rw [hx] at hd; cases hd
    | some x =>
      rw [hx] at hd
      cases hd
      have hm : x ∈ xs := List.mem_of_getElem? hx
      have hi : i < xs.length := (List.getElem?_eq_some_iff.mp hx).1
      have := hb x hm
      rw [wipeE_two]
      refine fun X hx' v σ I H k o r f => this X hx' v σ I H k o r fun σ' en' I' H' o' g' n' q' => f σ' en' I' H' o' g' n' ?_
      refine ets_nil ⟨fun _ => ?_, fun z => nomatch z⟩
      refine q'.mono fun y en5 ⟨ey, e5⟩ => ⟨?_, e5⟩
      rw [List.take_add_one, hx, List.map_append, ey]
      rfl
  · subst ha he
    rw [List.length_map, List.take_length] at *
    exact hq p hp
theorem lcq_filter {α : Type} {scope : Scope} {own : List (Str × Nat)} (xs : List α) (F E : α → PyData) (pr : α → Bool)
    (h : EvI c tg iter en fun ds en1 => ds = xs.map F ∧ xs.length ≤ 1000 ∧ (∀ x, x ∈ xs → EvG (c.blk scope) (fun j => j ∈ own.map (·.2)) tg (F x) (wipeE en1 (ow own)) fun en3 => EvT (c.blk scope) t en3 fun k en4 => k = pr x ∧ (k = true → EvE (c.blk scope) elt en4 fun y en5 => y = E x ∧ wipeE en5 (ow own) = wipeE en1 (ow own)) ∧ (k = false → wipeE en4 (ow own) = wipeE en1 (ow own))) ∧ ∀ p, ¬ Cin (wipeE en1 (ow own)) p → QN p ((xs.filter pr).map E) (wipeE en1 (ow own))) : LcQ c tg iter elt [t] scope own en QN := fun X hx σ I H k o f => by
  refine h X hx σ I H k o fun J ds en1 I1 H1 o1 g1 yl ⟨ed, hl, hb, hq⟩ => f J ds en1 I1 H1 o1 g1 yl ?_
  subst ed
  refine ⟨fun i acc en2 => acc = ((xs.take i).filter pr).map E ∧ en2 = wipeE en1 (ow own), ⟨rfl, rfl⟩, fun i d acc en2 hd ⟨ha, he⟩ => ⟨?_, ?_⟩, by simpa using hl, fun acc en2 ⟨ha, he⟩ p hp => ?_⟩
  · rw [ha, List.length_map]
    refine Nat.le_trans (List.length_filter_le _ _) ?_
    rw [List.length_take]; omega
  · subst ha he
    rw [List.getElem?_map] at hd
    cases hx : xs[i]? with
    | none => rw [hx] at hd; cases hd
    | some x =>
      rw [hx] at hd
      cases hd
      have hm : x ∈ xs := List.mem_of_getElem? hx
      have := hb x hm
      rw [wipeE_two]
      refine fun X hx' v σ I H k o r f => this X hx' v σ I H k o r fun σ' en' I' H' o' g' n' q' => f σ' en' I' H' o' g' n' ?_
      refine ets_one ?_
      refine fun X hX σ I H kk o f => q' X hX σ I H kk o fun b en4 I4 H4 o4 g4 ⟨eb, q1, q2⟩ => f b en4 I4 H4 o4 g4 ⟨fun hk => (q1 hk).mono fun y en5 ⟨ey, e5⟩ => ⟨?_, e5⟩, fun hk => ⟨?_, q2 hk⟩⟩
      · rw [List.take_add_one, hx, List.filter_append, List.map_append, ey]
        have hpx : pr x = true := by rw [← eb]; exact hk
        simp [hpx]
      · rw [List.take_add_one, hx, List.filter_append, List.map_append]
        have hpx : pr x = false := by rw [← eb]; exact hk
        simp [hpx]
  · subst ha he
    rw [List.length_map, List.take_length] at *
    exact hq p hp
theorem es_expr (h : EvE c e en fun _ en1 => D.nx en1) (hs : ∀ env, swapsWith e none pos.line env = pure false := by intro _; rfl) : EvS c (.Expr e pos) en D := fun X hx σ I H E o t => by
  refine wS_of (ps_expr wE_pe (hs _)) ?_
  exact h X hx σ I H _ o fun v d en1 I1 H1 o1 g1 r1 q1 => t.nx σ en1 I1 H1 o1 g1 q1
theorem ei_B (b : Bool) (h : EvE c e en fun d en1 => ∃ ds, d = seqB b ds ∧ R ds en1) : EvI c tg e en R := by
  cases b with
  | true => exact ei_list h
  | false => exact ei_tup h
theorem rgD_map (n : Nat) : rgD 0 n = (List.range n).map fun i => PyData.int (i : Nat) := by
  unfold rgD
  refine List.map_congr_left fun i _ => ?_
  simp
theorem zipD_map {α β : Type} (F : α → PyData) (G : β → PyData) (xs : List α) (ys : List β) : zipD (xs.map F) (ys.map G) = (xs.zip ys).map fun p => PyData.tuple [F p.1, G p.2] := by
  unfold zipD
  rw [List.zip_map, List.map_map]
  rfl
theorem enumD_map {α : Type} (F : α → PyData) (xs : List α) : enumD (xs.map F) = (xs.zipIdx).map fun p => PyData.tuple [.int (p.2 : Nat), F p.1] := by
  unfold enumD
  apply List.ext_getElem
  · simp
  · intro i h1 h2
    simp at h1 h2
    simp [h1]
end
end Ly
namespace Ly
open PySem PySem.Spec PyProof.Rows L2
section
variable {c : Cs} {e a b : Expr} {es : List Expr} {en : En} {Q : PyData → En → Prop} {QN : Addr → List PyData → En → Prop} {D : Eds} {pos p p2 p3 : Pos} {x y : Str}
theorem frzE_cel {en : En} {i : Nat} {A : Addr} {xs : List PyData} (h : en[i]? = some (Sl.cel A xs)) : (frzE en)[i]? = some (Sl.dat (.list xs)) := by
  unfold frzE
  rw [List.getElem?_map, h]
  rfl
theorem frzE_dat {en : En} {i : Nat} {d : PyData} (h : en[i]? = some (Sl.dat d)) : (frzE en)[i]? = some (Sl.dat d) := by
  unfold frzE
  rw [List.getElem?_map, h]
  rfl
/-- len of our own list -/
theorem ee_lenC (i : Nat) {A : Addr} {xs : List PyData} (hN : c.N[i]? = some x) (hv : visB (c.sc.names.lookup x) = true) (hi : en[i]? = some (Sl.cel A xs)) (hg : glB (c.sc.names.lookup (("len" : Str))) = true) (hm : c.g.mg "len" = none) (q : Q (.int ((xs.length : Nat) : Int)) en)
    (h1 : (x == ("__debug__" : Str)) = false := by decide) (h2 : (x == ("__classdict__" : Str)) = false := by decide)
    (hs : ∀ env, starEach [.Name x p2] env = [(false, eval (.Name x p2) env)] := by intro _; rfl) : EvE c (.Call (.Name "len" p) [.Name x p2] [] pos) en Q :=
  ee_lend (ee_callB bc_len hg hm (by decide +kernel) (ea_cons (ee_name i (d := .list xs) hN hv (frzE_cel hi) (ea_nil ⟨_, ⟨_, xs, rfl, rfl, rfl⟩, rfl, rfl, q⟩) h1 h2)) (by decide) (by decide) (fun _ => hs _) (fun _ => rfl))
theorem rgD_at {n i : Nat} {d : PyData} (h : (rgD 0 n)[i]? = some d) : i < n ∧ d = .int ((i : Nat) : Int) := by
  have hi : i < n := by
    have := (List.getElem?_eq_some_iff.mp h).1
    rw [rgD_len] at this
    exact this
  rw [rgD_get hi] at h
  cases h
  exact ⟨hi, by rw [Int.zero_add]⟩
/-- one side is small -/
theorem ee_mulS (h : EvE c a en fun d en1 => EvE c b en1 fun d2 en2 => ∃ i j, d = .int i ∧ d2 = .int j ∧ CMul i j ∧ Q (.int (i * j)) en2) : EvE c (.BinOp a .Mult b pos) en Q :=
  ee_opI (C := CMul) (fun X => op_mul) h
end
end Ly
namespace Ly
open PySem PySem.Spec PyProof.Rows L2
section
variable {c : Cs} {e a b t tg iter elt : Expr} {es ifs : List Expr} {en : En} {Q : PyData → En → Prop} {QN : Addr → List PyData → En → Prop} {D : Eds} {pos p p2 p3 py : Pos} {x y : Str}
theorem rgV_dpa {K : PySem.W.Frag} {I : Hp} (lo hi : Int) : DpAll K I (rgV lo hi) (rgD lo (hi - lo).toNat) := by
  have e1 : rgV lo hi = ((List.range (hi - lo).toNat).map fun i => lo + ((i : Nat) : Int)).map V.int := by
    unfold rgV; rw [List.map_map]; rfl
  have e2 : rgD lo (hi - lo).toNat = ((List.range (hi - lo).toNat).map fun i => lo + ((i : Nat) : Int)).map PyData.int := by
    unfold rgD; rw [List.map_map]; rfl
  rw [e1, e2]
  exact dpa_ints _
/-- list(range(a, b)) -/
theorem en_listRg2 (hg : glB (c.sc.names.lookup (("list" : Str))) = true) (hm : c.g.mg "list" = none) (hg2 : glB (c.sc.names.lookup (("range" : Str))) = true) (hm2 : c.g.mg "range" = none)
    (h : EvE c a en fun d en1 => EvE c b en1 fun d2 en2 => ∃ lo hi : Int, d = .int lo ∧ d2 = .int hi ∧ (-1000 ≤ lo ∧ lo ≤ 100000 ∧ -1000 ≤ hi ∧ hi ≤ 100000) ∧ ∀ p, ¬ Cin en2 p → QN p (rgD lo (hi - lo).toNat) en2)
    (na : ∀ env, starEach [.Call (.Name "range" p) [a, b] [] p2] env = [(false, eval (.Call (.Name "range" p) [a, b] [] p2) env)] := by intro _; rfl) (nb : ∀ env, starEach [a, b] env = (false, eval a env) :: starEach [b] env := by intro _; rfl) (nc : ∀ env, starEach [b] env = [(false, eval b env)] := by intro _; rfl) :
    EvN c (.Call (.Name "list" p3) [.Call (.Name "range" p) [a, b] [] p2] [] pos) en QN := fun X hx σ I H k o f => by
  refine wE_of (pe_listRg hx.calm (gl_of hx hg) (by rw [hx.mg]; exact hm) (prg_2 (gl_of hx hg2) (by rw [hx.mg]; exact hm2) (wE_pe (X := X) (e := a)) (wE_pe (X := X) (e := b)) (nb _) (nc _) (by rw [nc]; rfl)) (na _)) ?_
  refine h X hx σ I H _ o fun v d en1 I1 H1 o1 g1 r1 q1 => ?_
  refine q1 X hx σ I1 H1 _ o1 fun v2 d2 en2 I2 H2 o2 g2 r2 ⟨lo, hi, e1, e2, hb, q⟩ => ?_
  subst e1 e2
  cases r1
  cases r2
  refine ⟨lo, hi, rfl, rfl, ⟨by omega, by omega, by omega, by omega, by omega⟩, fun q' hq' => ?_⟩
  obtain ⟨o3, g3, n3⟩ := o2.own hq' (rgV_dpa (K := c.g.K) (I := I2) lo hi)
  refine f _ q' _ en2 _ _ o3 (g1.trans (g2.trans g3)) ⟨n3.ref, n3.i, n3.c, ?_, n3.l⟩ (q q' n3.c)
  cases ee : H q' with
  | none => rfl
  | some u => exact absurd hq' ((g1.trans g2).k q' (some_ne ee))
/-- behind a lending -/
theorem nw_lent {K : PySem.W.Frag} {σ : L2.St} {I I0 H I' H' : Hp} {v : V} {A : Addr} {ns : List Int} (o : Ok K σ I H en) (ex : Ex I I0) (g : Go (frzE en) I0 H (frzE en) I' H') (o' : Ok K σ I' H' (frzE en)) (n : Nw K (frzE en) I' H' H v A (ns.map .int)) :
    Ok K σ I H' en ∧ Go en I H en I H' ∧ Nw K en I H' H v A (ns.map .int) := by
  obtain ⟨o2, g2⟩ := ok_lent o ex g o'
  obtain ⟨rfl, m2, m3, m4, vs, m5, m6⟩ := n
  have nc : ¬ Cin en A := fun z => (o.cin z).2 m4
  have nI : I A = none := by
    cases ee : I A with
    | none => rfl
    | some u =>
      have := o.ex A u ee
      rw [m4] at this
      cases this
  exact ⟨o2, g2, rfl, nI, nc, m4, vs, m5, by rw [dpa_ints_inv m6]; exact dpa_ints ns⟩
/-- name = [..], our own lists lent to it -/
theorem es_lcL {scope : Scope} (i : Nat) (own : List (Str × Nat)) (hb : blkC c.N c.sc scope own = true) (hN : c.N[i]? = some x) (hl : c.sc.names.lookup x = some .local)
    (h : LcQ c tg iter elt ifs scope own (frzE en) fun A xs en1 => en1 = frzE en ∧ (∃ ns : List Int, xs = ns.map .int) ∧ D.nx (en.set i (.cel A xs))) (hp : (py.line == pos.line) = true := by rfl) (ha : (scope.names.any fun (n, k) => n == x && (k == .local || k == .cell)) = false := by decide +kernel)
    (hs : ∀ env x, foldedSetIterable iter env x = pure x := by intro _ _; rfl) : EvS c (.Assign [.Name x py] (.ListComp elt [⟨tg, iter, ifs, 0⟩] scope pos) p) en D := fun X hx σ I H E o t => by
  have hbX : BlkOk X.N X.env.scope scope own := by rw [hx.N, hx.sc]; exact blkOk_by hb
  refine wS_of (ps_setLc (i := i) (own := own) (g := uG X scope tg) (tt := uT X scope ifs) (te := uE X scope elt) hx.calm (by rw [hx.N]; exact hx.nd) (by rw [hx.N]; exact hN) (by rw [hx.sc]; exact hl) (sw_true (by rw [hx.sc]; exact hx.fk) (by rw [hx.sc]; exact hl) hp ha) wI_pi hbX (fun s H C cl fp => ⟨fun pins s' σ H v u Q J r q => q s _ C cl fp pins s' u J r⟩) (fun s H C cl fp => ⟨fun pins s' σ H Q J q => q s _ C cl fp pins s' J⟩) (fun s H C cl fp => ⟨fun pins s' σ H Q J q => q s _ C cl fp pins s' J⟩) (hs _)) ?_
  obtain ⟨I0, o0, ex⟩ := ok_frzE o
  refine lc_read own hb h X hx σ I0 H _ o0 fun v A xs en1 I1 H1 o1 g1 n1 ⟨e1, ⟨ns, e2⟩, q1⟩ => ?_
  subst e1 e2
  obtain ⟨o2, g2, n2⟩ := nw_lent o ex g1 o1 n1
  obtain ⟨o3, g3⟩ := go_setN g2 o2 i n2
  exact t.nx _ _ I H1 o3 g3 q1
end
end Ly
namespace Ly
open PySem PySem.Spec PyProof.Rows L2
section
variable {c : Cs} {e a b t tg iter elt : Expr} {es ifs : List Expr} {gs : List Comprehension} {en : En} {Q : PyData → En → Prop} {QN : Addr → List PyData → En → Prop} {D : Eds} {pos p p2 p3 py : Pos} {x y : Str}
theorem eb_en {sts : List Stmt} (en' : En) (h : en = en') (k : EvB c sts en' D) : EvB c sts en D := by subst h; exact k
theorem sw_cell {scope : Scope} {l : Nat} {env : Env} (hy : env.scope.names.lookup y = some .cell) : swapsWith (.ListComp elt gs scope pos) (some (.Name y py)) l env = pure false := by
  have ky : env.kindOf y = some .cell := hy
  unfold swapsWith
  simp only [ky]
  have : (some NameKind.cell == some NameKind.local) = false := rfl
  simp only [this, Bool.and_false, Bool.false_and]
/-- name = [..], the name used within blocks -/
theorem es_lcK {scope : Scope} (i : Nat) (hN : c.N[i]? = some x) (hl : c.sc.names.lookup x = some .cell) (h : EvN c (.ListComp elt gs scope pos) en fun A xs en1 => D.nx (en1.set i (.cel A xs))) (hf : c.df x = true := by rfl) : EvS c (.Assign [.Name x py] (.ListComp elt gs scope pos) p) en D := fun X hx σ I H E o t => by
  have hloc : L2.Loc X.env.scope x := loc_of (by rw [hx.sc, hl]; rfl)
  refine wS_of (ps_set (X := X) (i := i) (by rw [hx.N]; exact hx.nd) (by rw [hx.N]; exact hN) hloc wE_pe (sw_cell (by rw [hx.sc]; exact hl)) (fn_ok hx (.inl hf))) ?_
  refine h X hx σ I H _ o fun v A xs en1 I1 H1 o1 g1 n1 q1 => ?_
  obtain ⟨o2, g2⟩ := go_setN g1 o1 i n1
  exact t.nx _ _ I1 H1 o2 g2 q1
end
end Ly
set_option maxHeartbeats 4000000
namespace Ly
open PySem PySem.Spec PyProof.Rows L2 PySem.W
/-! sorted(xs, key=f), f a def of the module -/
theorem runG2 {X : Cx} {c : Cs} (hx : Hs c X) {k : Nat} {f : Addr} {fd : FuncData} {ps : List Str} {sp : Sp} (F : FnG c.g k f fd ps sp) (hk : k + 2 ≤ c.lv) (hb : Binds c.g.K fd ps []) {pins : List (Addr × Obj)} {σ : L2.St} {H : Hp} {s : Shared} {Q : VK} {us : List Value} {vs : List V}
    (J : Inv X pins σ H s) (r : Vals vs us) (h : sp vs H Q E0) : wpAny (model X.prog X.w) X.A.in1.in1 (call (.ref f) us) (EP X pins σ Q) (fun _ _ => False) s := by
  have hl : us.length = ps.length := by
    rw [← r.length]
    exact F.len _ _ _ _ h
  have e0 := J.env0.in1.in1
  have kin := J.kIn
  rw [hx.p, hx.w, hx.K, hx.mg, hx.base] at e0
  rw [hx.K] at kin
  have bt : BindsTo s fd ⟨us, []⟩ (ps.zip us) := by
    have := hb s us kin (by simpa using hl)
    simpa using this
  have rm : Room k X.A.in1.in1 := (hx.room.mono hk).in1.in1
  have q := F.run X.A.in1.in1 X.stack s H ⟨us, []⟩ us vs Q rm hx.gu e0 bt r h
  rw [← hx.p, ← hx.w] at q
  refine wpAny_call (codeAny_mono q fun z s' hz => ?_)
  cases z with
  | error e => exact hz.elim
  | ok fl =>
    cases fl with
    | ret u => exact J.after hz
    | next => exact False.elim hz
    | brk => exact False.elim hz
    | cont => exact False.elim hz
/-- a call's data, whatever the frame -/
theorem call_data {X : Cx} {c : Cs} (hx : Hs c X) {k : Nat} {f : Addr} {fd : FuncData} {ps : List Str} {pr : List PyData → (PyData → Prop) → Prop} (F : FnG c.g k f fd ps (spD c.g.K (preP pr))) (hk : k + 2 ≤ c.lv) (hb : Binds c.g.K fd ps []) {pins : List (Addr × Obj)} {σ : L2.St} {I H : Hp} {en : En} {s : Shared} {u : Value} {v : V} {d : PyData} {m : Int}
    (J : Inv X pins σ H s) (o : Ok c.g.K σ I H en) (r : RelV v u) (rd : Dp c.g.K I v d) (hp : ∀ post : PyData → Prop, post (.int m) → pr [d] post) :
    wpAny (model X.prog X.w) X.A.in1.in1 (call (.ref f) [u]) (fun z s' => (∃ t, z = .int m t) ∧ ∃ I' H', Inv X pins σ H' s' ∧ Ok c.g.K σ I' H' en ∧ Go en I H en I' H') (fun _ _ => False) s := by
  have q := runG2 (Q := fun v' H' => v' = .int m ∧ ∃ I', Ok c.g.K σ I' H' en ∧ Go en I H en I' H') hx F hk hb J (.cons r .nil) (by
    refine ⟨I, [.dat d], fun s _ => s = .dat (.int m), ok_args (ds := [d]) (vs := [v]) o.ex (.cons rd .nil), ⟨[d], rfl, hp _ rfl⟩, fun v' s' args' I' H' o' g' r' q' => ?_⟩
    subst q'
    have nc : ∀ b, ¬ Cin [Sl.dat d] b := fun b ⟨i, xs, z⟩ => by
      cases i with
      | zero => cases z
      | succ i => simp at z
    have keep : ∀ b u, H b = some u → H' b = some u := fun b u hb => g'.h b u hb (nc b)
    have keepI : ∀ b, H b ≠ none → I b = none → I' b = none := fun b h1 h2 => g'.n b h1 h2 (nc b)
    have o2 : Ok c.g.K σ I' H' en := o.mono g'.i o'.ex fun b hb => by
      obtain ⟨h1, h2⟩ := o.cin hb
      obtain ⟨u, hu⟩ := ne_some h2
      exact ⟨keepI b h2 h1, by rw [hu, keep b u hu]⟩
    have g2 : Go en I H en I' H' := ⟨g'.i, fun b u hb _ => keep b u hb, fun b h1 h2 _ => keepI b h1 h2, fun b hb => .inl hb, g'.k⟩
    have r'' : Dp c.g.K I' v' (.int m) := r'
    cases r''
    exact ⟨rfl, I', o2, g2⟩)
  refine wpAny_mono q (fun z s' hz => ?_) fun _ _ z => z
  obtain ⟨v', H', J', rv, e, I', o', g'⟩ := hz
  subst e
  exact ⟨rv, I', H', J', o', g'⟩
/-- where a place of ours lies -/
def Fp (X : Cx) (pins : List (Addr × Obj)) (b : Addr) : Prop := b ≠ X.env.locals ∧ b ∉ X.fs ∧ (b ∈ X.ex ∨ X.s_0.heap.objs.size ≤ b) ∧ (∀ x c, X.env.cells.lookup x = some c → c ≠ b) ∧ ∀ p ∈ X.pn ++ pins, p.1 ≠ b
theorem intsEach {h : Heap} : ∀ {vs : List Value} {ns : List Int}, IntsAre vs ns → EachIs (fun v k => ∃ as, Reads h v k as) vs (ns.map PyData.int)
  | _, _, .nil => .nil
  | _, _, .cons n t r => .cons ⟨[], .int n t⟩ (intsEach r)
theorem ints_get {vs : List Value} {ns : List Int} (h : IntsAre vs ns) : vs.length = ns.length := h.length
section
variable {X : Cx} {c : Cs} {en : En} {pins : List (Addr × Obj)} {σ : L2.St} {I H : Hp} {s : Shared} {a kS : Addr} {vs : List Value} {kz : List Int} {f : Value} {e1 : Nat} {P : PySem.Fin → Shared → Prop} {E : Value → Shared → Prop}
theorem sk_rest (hh : X.A.handled = none) (hroom : X.A.units + 200 < cLine)
    (turn : ∀ (pins' : List (Addr × Obj)) (I' H' : Hp) (s' : Shared) (i : Nat) (v : Value) (m : Int), vs[i]? = some v → kz[i]? = some m → Inv X pins' σ H' s' → Ok c.g.K σ I' H' en → Go en I H en I' H' →
      wpAny (model X.prog X.w) X.A.in1.in1 (call f [v]) (fun z s'' => (∃ t, z = .int m t) ∧ ∃ I'' H'', Inv X pins' σ H'' s'' ∧ Ok c.g.K σ I'' H'' en ∧ Go en I' H' en I'' H'') (fun _ _ => False) s')
    (J : Inv X pins σ H s) (o : Ok c.g.K σ I H en) (ha : H a = none) (hk : H kS = none) (fa : Fp X pins a) (fk : Fp X pins kS) (hka : kS ≠ a) (nk : s.heap.get? kS = some (seqObj "list" #[] 0)) (na : s.heap.get? a = some (seqObj "list" #[] e1)) (hlen : kz.length = vs.length) (h64 : vs.length < 64)
    (h : ∀ (I' H' : Hp) (s' : Shared) (G h3 : Heap) (tk : Nat) (out : List Value) (ep : Nat), Inv X pins σ H' { s' with heap := G } → G.get? a = none → H' a = none → Ok c.g.K σ I' H' en → Go en I H en I' H' → (∀ b u, G.get? b = some u → h3.get? b = some u) → h3.get? a = some (seqObj "list" (List.toArray out) ep) → KeyedOut false (kz.map PyData.int) vs out → P (.done (.ret .none)) { s' with heap := h3, toks := tk }) :
    wpAny (model X.prog X.w) X.A.in1.in1 (ksk_rest a f false vs.toArray e1 (.ref kS)) P E s := by
  unfold ksk_rest
  refine wpAny_bind (wpAny_rule ?_)
  first
    | rw [List.forIn_toArray]
    | (rw [← Array.forIn_toList]; simp only [List.toList_toArray])
    | rw [← Array.forIn_toList]
  refine wpAny_bind (ksk_fold (fun i s' => ∃ I' H' kA ep, Inv X pins σ H' s' ∧ Ok c.g.K σ I' H' en ∧ Go en I H en I' H' ∧ H' a = none ∧ H' kS = none ∧ s'.heap.get? kS = some (seqObj "list" kA ep) ∧ s'.heap.get? a = some (seqObj "list" #[] e1) ∧ IntsAre kA.toList (kz.take i)) vs 0 s
    ⟨I, H, #[], 0, J, o, Go.refl en I H, ha, hk, nk, na, by simpa using IntsAre.nil⟩ ?step ?done)
  case step =>
    rintro j x s' hx ⟨I', H', kA, ep, J', o', g', ha', hk', nk', na', hi⟩
    simp only [Nat.zero_add] at hi ⊢
    have hj : j < vs.length := (List.getElem?_eq_some_iff.mp hx).1
    obtain ⟨k, hkj⟩ : ∃ k, kz[j]? = some k := ⟨_, List.getElem?_eq_getElem (by omega)⟩
    have hz : kA.size ≤ vs.length := by
      have h1 := hi.length
      rw [Array.length_toList, List.length_take] at h1
      omega
    have Jp : Inv X ([(a, seqObj "list" #[] e1), (kS, seqObj "list" kA ep)] ++ pins) σ H' s' := J'.pins_of fun p hp => by
      rcases List.mem_append.mp hp with z | z
      · rcases List.mem_cons.mp z with rfl | z
        · exact ⟨na', ha', fa.1, fa.2.1, fun v q => nomatch q⟩
        · rw [List.mem_singleton.mp z]
          exact ⟨nk', hk', fk.1, fk.2.1, fun v q => nomatch q⟩
      · exact J'.pin p (List.mem_append_right _ z)
    refine wpAny_bind (wpAny_attempt (wpAny_mono (turn _ I' H' s' j x k hx hkj Jp o' g') (fun v s'' he => ?_) fun _ _ hF => hF.elim))
    obtain ⟨⟨t, rfl⟩, I2, H2, J2, o2, g2⟩ := he
    try dsimp only
    have pa := J2.pin (a, seqObj "list" #[] e1) (List.mem_append_right _ (by simp))
    have pk := J2.pin (kS, seqObj "list" kA ep) (List.mem_append_right _ (by simp))
    have J3 : Inv X pins σ H2 s'' := J2.pins_of fun p hp => J2.pin p (List.mem_append_right _ (List.mem_append_right _ hp))
    have s1 := Heap.SameBut.update s''.heap kS (Obj.mapSeq (·.push (.int k t)))
    obtain ⟨c2, hc2⟩ : ∃ c2, (s''.heap.update kS (Obj.mapSeq (·.push (.int k t)))).get? kS = some (seqObj "list" (kA.push (.int k t)) c2) := ⟨_, get?_update_seq pk.1 (·.push (.int k t))⟩
    have ek : kz.take (j + 1) = kz.take j ++ [k] := by rw [List.take_add_one, hkj]; simp
    have ea : (kA.push (Value.int k t)).toList = kA.toList ++ [Value.int k t] := by simp
    refine wpAny_bind (listUpdate_at pk.1 rfl ?_ (by rw [sizeLine_eq]; omega) (Nat.le_trans (Nat.le_of_eq (Array.size_push ..)) (by rw [sizeLine_eq]; omega)))
    have J4 : Inv X pins σ H2 { s'' with heap := s''.heap.update kS (Obj.mapSeq (·.push (.int k t))), toks := s''.toks } := J3.turnedL (ch := [kS]) (fun b ob hb e => (s1.2 b (fun z => hb (by simp [z]))).trans e) (fun b hb => by
      rw [List.mem_singleton.mp hb]
      exact ⟨pk.2.1, fk⟩)
    exact wpAny_pure ⟨rfl, I2, H2, kA.push (.int k t), c2, J4, o2, g'.trans g2, pa.2.1, pk.2.1, hc2, (s1.2 a hka.symm).trans pa.1, by rw [ea, ek]; exact ksk_snoc hi⟩
  case done =>
    rintro s' ⟨I', H', kA, ep, J', o', g', ha', hk', nk', na', hi⟩
    have hi' : IntsAre kA.toList kz := by
      have e3 : kz.take (0 + vs.length) = kz := List.take_of_length_le (by omega)
      rw [e3] at hi
      exact hi
    have hsz : kA.size = vs.length := by
      have h1 := hi'.length
      rw [Array.length_toList] at h1
      omega
    try dsimp only
    refine wpAny_bind (listItems_at nk' rfl ?_)
    obtain ⟨G, g1, g2⟩ := restrict s'.heap fun b => decide (b ≠ kS)
    obtain ⟨G2, g3, g4⟩ := restrict s'.heap fun b => decide (b ≠ a ∧ b ≠ kS)
    have kp : KeepsBut a G s'.heap := fun b ob hb e => by
      by_cases z : b = kS
      · rw [g2 b (by simp [z])] at e; cases e
      · rw [g1 b (by simp [z])] at e; exact e
    have al : AllAlike (kz.map PyData.int) := fun d hd d' hd' => by
      obtain ⟨m, _, rfl⟩ := List.mem_map.mp hd
      obtain ⟨m', _, rfl⟩ := List.mem_map.mp hd'
      rfl
    have so : Sortable (kz.map PyData.int) := Sortable.others fun b => ⟨fun z => (nomatch z), fun xs z => (nomatch z)⟩
    refine keyH_end (κ := dataKind s'.heap (kz.map PyData.int)) (h₁ := G) kp (g2 kS (by simp)) nk' na' hka (SortsAt.data (s := s') (intsEach hi') al so (fun d hd => ?_)) hsz (by rw [sizeLine_eq]; omega) fun h3 tk3 c3 k3 n3 => ?_
    · obtain ⟨m, _, rfl⟩ := List.mem_map.mp hd
      show X.A.units + 1 + 1 + 0 < cLine
      omega
    · have JG : Inv X pins σ H' { s' with heap := G2, toks := s'.toks } := J'.turnedL (ch := [a, kS]) (fun b ob hb e => by
        rw [g3 b (by simp at hb; simp [hb])]; exact e) (fun b hb => by
        rcases List.mem_cons.mp hb with rfl | hb
        · exact ⟨ha', fa⟩
        · rw [List.mem_singleton.mp hb]; exact ⟨hk', fk⟩)
      refine h I' H' s' G2 h3 tk3 _ c3 JG (g4 a (by simp)) ha' o' g' (fun b u e => ?_) n3 ⟨s'.heap, kA.toList, al, rfl, intsEach hi'⟩
      by_cases z : b = a
      · rw [z, g4 a (by simp)] at e; cases e
      · by_cases z2 : b = kS
        · rw [z2, g4 kS (by simp)] at e; cases e
        · refine k3 b u z ?_
          rw [g1 b (by simp [z2])]
          rw [g3 b (by simp [z, z2])] at e
          exact e
theorem sk_tree {n : Nat} (hh : X.A.handled = none) (hroom : X.A.units + 200 < cLine)
    (turn : ∀ (pins' : List (Addr × Obj)) (I' H' : Hp) (s' : Shared) (i : Nat) (v : Value) (m : Int), vs[i]? = some v → kz[i]? = some m → Inv X pins' σ H' s' → Ok c.g.K σ I' H' en → Go en I H en I' H' →
      wpAny (model X.prog X.w) X.A.in1.in1 (call f [v]) (fun z s'' => (∃ t, z = .int m t) ∧ ∃ I'' H'', Inv X pins' σ H'' s'' ∧ Ok c.g.K σ I'' H'' en ∧ Go en I' H' en I'' H'') (fun _ _ => False) s')
    (J : Inv X pins σ H s) (o : Ok c.g.K σ I H en) (ha : H a = none) (fa : Fp X pins a) (ho : s.heap.get? a = some (seqObj "list" vs.toArray n)) (hlen : kz.length = vs.length) (h64 : vs.length < 64)
    (h : ∀ (I' H' : Hp) (s' : Shared) (G h3 : Heap) (tk : Nat) (out : List Value) (ep : Nat), Inv X pins σ H' { s' with heap := G } → G.get? a = none → H' a = none → Ok c.g.K σ I' H' en → Go en I H en I' H' → (∀ b u, G.get? b = some u → h3.get? b = some u) → h3.get? a = some (seqObj "list" (List.toArray out) ep) → KeyedOut false (kz.map PyData.int) vs out → P (.done (.ret .none)) { s' with heap := h3, toks := tk }) :
    wpAny (model X.prog X.w) X.A.in1.in1 (ksk_tree a f false) P E s := by
  have hlt : a < s.heap.objs.size := Heap.lt_size ho
  obtain ⟨e1, ho1⟩ : ∃ e1, (s.heap.update a (Obj.mapSeq fun _ => (#[] : Array Value))).get? a = some (seqObj "list" #[] e1) := ⟨_, get?_update_seq ho fun _ => #[]⟩
  have hkS : ((s.heap.update a (Obj.mapSeq fun _ => (#[] : Array Value))).push (seqObj "tuple" vs.toArray 0)).objs.size = s.heap.objs.size + 1 := by rw [size_push', Heap.size_update]
  have hZ : vs.length ≤ sizeLine := by rw [sizeLine_eq]; omega
  unfold ksk_tree
  refine wpAny_bind (listItems_at ho rfl ?_)
  refine wpAny_bind (listUpdate_at ho rfl ?_ (by rw [List.size_toArray]; exact hZ) (Nat.zero_le _))
  refine wpAny_bind (seqEpoch_at ho1 rfl ?_)
  refine wpAny_bind (wpAny_newTuple ?_ (by show vs.length ≤ _; exact hZ))
  refine wpAny_bind (wpAny_newList ?_ (Nat.zero_le _))
  refine wpAny_holding ?_
  have J1 : Inv X pins σ H { s with heap := sortingHeap s.heap a vs, toks := s.toks } := J.turnedL (ch := [a]) (fun b ob hb e => sortingHeap_old (by simpa using hb) e) (fun b hb => by
    rw [List.mem_singleton.mp hb]
    exact ⟨ha, fa⟩)
  have hk0 : H (s.heap.objs.size + 1) = none := J.hok.fresh (Nat.le_succ _)
  have fk : Fp X pins (s.heap.objs.size + 1) := (J.fpOk (Nat.le_succ _) hk0).2
  rw [hkS]
  have J2 : Inv X pins σ H { s with heap := ((s.heap.update a (Obj.mapSeq fun _ => (#[] : Array Value))).push (seqObj "tuple" vs.toArray 0)).push (seqObj "list" #[] 0), toks := s.toks } := J1
  refine sk_rest hh hroom turn J2 o ha hk0 fa fk (Nat.ne_of_gt (Nat.lt_succ_of_lt hlt)) ?_ (Heap.get?_push_of_some _ (Heap.get?_push_of_some _ ho1)) hlen h64 h
  rw [← hkS]
  exact Heap.get?_push_size _ rfl
end
section
variable {c : Cs} {e : Expr} {en : En} {QN : Addr → List PyData → En → Prop} {pos p p2 kpos : Pos} {x y : Str} {k : Nat} {ps : List Str} {pr : List PyData → (PyData → Prop) → Prop}
theorem vals_each {α : Type} {K : PySem.W.Frag} {I : Hp} {F : α → PyData} : ∀ {bs : List α} {xs : List V} {us : List Value}, Vals xs us → DpAll K I xs (bs.map F) → EachIs (fun u b => ∃ v, RelV v u ∧ Dp K I v (F b)) us bs
  | [], _, _, r, d => by cases d; cases r; exact .nil
  | b :: bs, _, _, r, d => by
    cases d with
    | cons d1 d2 =>
      cases r with
      | cons r1 r2 => exact .cons ⟨_, r1, d1⟩ (vals_each r2 d2)
theorem each_vals {α : Type} {K : PySem.W.Frag} {I : Hp} {F : α → PyData} : ∀ {bs : List α} {us : List Value}, EachIs (fun u b => ∃ v, RelV v u ∧ Dp K I v (F b)) us bs → ∃ xs, Vals xs us ∧ DpAll K I xs (bs.map F)
  | _, _, .nil => ⟨[], .nil, .nil⟩
  | _, _, .cons h t => by
    obtain ⟨v, r1, d1⟩ := h
    obtain ⟨xs, r2, d2⟩ := each_vals t
    exact ⟨v :: xs, .cons r1 r2, .cons d1 d2⟩
theorem each_at {α β : Type} {R : α → β → Prop} : ∀ {as : List α} {bs : List β} {i : Nat} {u : α} {m : β}, EachIs R as bs → as[i]? = some u → bs[i]? = some m → R u m
  | _, _, _, _, _, .nil, h, _ => by simp at h
  | _, _, 0, _, _, .cons h t, h1, h2 => by
    simp at h1 h2
    rw [← h1, ← h2]; exact h
  | _, _, i + 1, _, _, .cons h t, h1, h2 => each_at t (i := i) (by simpa using h1) (by simpa using h2)
/-- sorted(xs, key=f): some order of the items -/
theorem en_sortedKey {α : Type} (F : KnowsP c.g y k ps pr) (hk : k + 2 ≤ c.lv) (hg : glB (c.sc.names.lookup (("sorted" : Str))) = true) (hm : c.g.mg "sorted" = none) (hgy : glB (c.sc.names.lookup y) = true)
    (h : EvE c e en fun d en1 => ∃ (bs : List α) (G : α → PyData) (K : α → Int), d = .list (bs.map G) ∧ bs.length < 60 ∧ (∀ b, b ∈ bs → ∀ post : PyData → Prop, post (.int (K b)) → pr [G b] post) ∧ ∀ p, ¬ Cin en1 p → ∀ cs : List α, cs.Perm bs → QN p (cs.map G) en1)
    (hdb : (y == ("__debug__" : Str)) = false := by decide) (hs : ∀ env, starEach [e] env = [(false, eval e env)] := by intro _; rfl) : EvN c (.Call (.Name "sorted" p) [e] [⟨some "key", .Name y p2, kpos⟩] pos) en QN := fun X hx σ I H kk o f => fun pins s J => by
  obtain ⟨fa, fd, F, hmy, hkp, hb⟩ := F.ex
  refine wpAny_Call_Name_kw (ld_blt J (gl_of hx hg) (by rw [hx.mg]; exact hm) (by decide +kernel : bootBuiltins (Str.ofString "sorted") = some (.builtin "sorted")) ?_ (by decide) (by decide))
  have hA : wA X [e] σ H fun vs H1 => ∃ (en1 : En) (I1 : Hp) (l : Addr) (us : List V) (bs : List α) (G : α → PyData) (K : α → Int), vs = [.ref l] ∧ Ok c.g.K σ I1 H1 en1 ∧ Go en I H en1 I1 H1 ∧ SqL c.g.K I1 l us ∧ DpAll c.g.K I1 us (bs.map G) ∧ bs.length < 60 ∧ (∀ b, b ∈ bs → ∀ post : PyData → Prop, post (.int (K b)) → pr [G b] post) ∧ ∀ p, ¬ Cin en1 p → ∀ cs : List α, cs.Perm bs → QN p (cs.map G) en1 := by
    refine wA_of (pa_cons wE_pe pa_nil (hs _)) ?_
    refine h X hx σ I H _ o fun v d en1 I1 H1 o1 g1 r1 ⟨bs, G, K, ed, hl, hp, q⟩ => ?_
    subst ed
    cases r1 with
    | lst s1 ra => exact ⟨en1, I1, _, _, bs, G, K, rfl, o1, g1, s1, ra, hl, hp, q⟩
  refine PyProof.Rows.callWith_kw (thn (wA_pa.run pos pins s σ H _ J hA) fun us s1 ⟨vs, H1, J1, rs, en1, I1, l, xs, bs, G, K, ev, o1, g1, sl, ra, hl, hp, q⟩ => ?_) (by rw [hs]; rfl) (by rw [hs]; rfl)
  subst ev
  have kw : PK X [⟨some "key", .Name y p2, kpos⟩] _ := pk_cons (pe_glob (v := .ref fa) (gl_of hx hgy) (by rw [hx.mg]; exact hmy) rfl hdb) pk_nil
  refine thn (kw.run pos pins s1 σ H1 (fun zs H2 => zs = [.ref fa] ∧ H1 = H2) J1 ⟨rfl, rfl⟩) fun ws s2 ⟨zs, H2, J2, rz, ez, eH⟩ => ?_
  subst ez eH
  obtain ⟨u, rfl, ru⟩ := vals1 rs
  obtain ⟨w, rfl, rw'⟩ := vals1 rz
  cases ru
  cases rw'
  show wpAny (model X.prog X.w) X.A (call (.builtin "sorted") [.ref l] [(Str.ofString "key", .ref fa)]) _ _ s2
  obtain ⟨its, rv, hil⟩ := SqB.at (b := true) J2 (show SqB X.K H1 true l xs from by rw [hx.K]; exact o1.ex.sql sl)
  have hil : s2.heap.IsList l its.toArray := hil
  have le : its.length = bs.length := by rw [← rv.length, dpa_len ra, List.length_map]
  have ei := vals_each rv ra
  refine sorted_of_sort hil (by rw [sizeLine_eq]; omega) (ksk_s1 _ _) (fun x => ksk_l1 _ _) fun E' => ?_
  rw [ksk_t1]
  have J3 : Inv X pins σ H1 { s2 with heap := copyHeap s2.heap its, toks := s2.toks } := J2.kept fun b u e => copyHeap_old e
  have hn : H1 (s2.heap.objs.size + 1) = none := J2.hok.fresh (Nat.le_succ _)
  have hf := (J2.fpOk (Nat.le_succ _) hn).2
  refine sk_tree (s := { s2 with heap := copyHeap s2.heap its, toks := s2.toks }) (kz := bs.map K) (hx.room.hd) (by have := hx.room.un; omega) (fun pins' I' H' s' i v m hv hm' J' o' g' => ?_) J3 o1 hn hf (copyHeap_at s2.heap its) (by rw [List.length_map, le]) (by omega) fun I' H' s' G' h3 tk out ep JG gN hN o' g' keep h3a ko => ⟨rfl, ?_⟩
  · rw [List.getElem?_map] at hm'
    cases eb : bs[i]? with
    | none => rw [eb] at hm'; cases hm'
    | some b =>
      rw [eb] at hm'
      cases hm'
      obtain ⟨vv, r1, d1⟩ := each_at ei hv eb
      exact call_data hx F hk hb J' o' r1 (g'.i.dp d1) (hp b (List.mem_of_getElem? eb))
  · have kz : (bs.map K).map PyData.int = bs.map fun b => PyData.int (K b) := by rw [List.map_map]; rfl
    rw [kz] at ko
    have eo := keyedOut_each (fun b => PyData.int (K b)) ko (ei.mono fun u b ⟨v, r1, d1⟩ => (⟨v, r1, g'.i.dp d1⟩ : ∃ v, RelV v u ∧ Dp c.g.K I' v (G b)))
    obtain ⟨ys, ry, dy⟩ := each_vals eo
    have perm : (bs.mergeSort (dataLe false fun b => PyData.int (K b))).Perm bs := List.mergeSort_perm _ _
    have ly : ys.length ≤ sizeLine := by
      rw [dpa_len dy, List.length_map, perm.length_eq, sizeLine_eq]; omega
    have new : ObjOk X.prog X.w (upd H' (s2.heap.objs.size + 1) (.lst ys)) h3 (s2.heap.objs.size + 1) (.lst ys) := ⟨ly, out, ep, ry, h3a⟩
    have J4 := JG.laidN (t' := tk) keep gN hN new
    obtain ⟨o5, g5, n5⟩ := o'.own (p := s2.heap.objs.size + 1) hN dy
    refine ⟨.ref (s2.heap.objs.size + 1), _, J4, rfl, f _ (s2.heap.objs.size + 1) _ en1 I' _ o5 (g1.trans (g'.trans g5)) ⟨n5.ref, n5.i, n5.c, ?_, n5.l⟩ (q _ n5.c _ perm)⟩
    cases ee : H (s2.heap.objs.size + 1) with
    | none => rfl
    | some u => exact absurd hn (g1.k _ (some_ne ee))
end
end Ly
namespace Ly
open PySem PySem.Spec PyProof.Rows L2
section
variable {c : Cs} {tg iter elt : Expr} {en : En} {QN : Addr → List PyData → En → Prop}
theorem wipeE_set {en : En} {j : Nat} {s : Sl} : ∀ {vs : List Nat}, j ∉ vs → wipeE (en.set j s) vs = (wipeE en vs).set j s
  | [], _ => rfl
  | v :: vs, h => by
    show (wipeE (en.set j s) vs).set v .no = ((wipeE en vs).set v .no).set j s
    rw [wipeE_set fun z => h (List.mem_cons_of_mem _ z), List.set_comm _ _ fun z => h (by rw [z]; exact List.mem_cons_self ..)]
/-- a block whose item writes a list of ours (a well) -/
theorem lcq_draw {α β : Type} {scope : Scope} {own : List (Str × Nat)} (W : List PyData → Prop) (Good : β → Prop) (j : Nat) (A : Addr) (F : α → PyData) (E : β → PyData) (hj : j ∉ ow own)
    (h : EvI c tg iter en fun ds en1 => ∃ xs : List α, ds = xs.map F ∧ xs.length ≤ 1000 ∧ (∃ w0, W w0 ∧ wipeE en1 (ow own) = (wipeE en1 (ow own)).set j (.cel A w0)) ∧
      (∀ x, x ∈ xs → ∀ w, W w → EvG (c.blk scope) (fun j => j ∈ own.map (·.2)) tg (F x) ((wipeE en1 (ow own)).set j (.cel A w)) fun en3 => EvE (c.blk scope) elt en3 fun y en5 => ∃ b w', y = E b ∧ Good b ∧ W w' ∧ wipeE en5 (ow own) = (wipeE en1 (ow own)).set j (.cel A w')) ∧
      ∀ (bs : List β) (w' : List PyData), bs.length = xs.length → (∀ b, b ∈ bs → Good b) → W w' → ∀ p, ¬ Cin ((wipeE en1 (ow own)).set j (.cel A w')) p → QN p (bs.map E) ((wipeE en1 (ow own)).set j (.cel A w'))) : LcQ c tg iter elt [] scope own en QN := fun X hx σ I H k o f => by
  refine h X hx σ I H k o fun J ds en1 I1 H1 o1 g1 yl ⟨xs, ed, hl, ⟨w0, hw0, e0⟩, hb, hq⟩ => f J ds en1 I1 H1 o1 g1 yl ?_
  subst ed
  refine ⟨fun i acc en2 => ∃ (bs : List β) (w : List PyData), bs.length = i ∧ (∀ b, b ∈ bs → Good b) ∧ W w ∧ acc = bs.map E ∧ en2 = (wipeE en1 (ow own)).set j (.cel A w), ⟨[], w0, rfl, fun _ z => (by cases z), hw0, rfl, e0⟩, fun i d acc en2 hd ⟨bs, w, hbl, hg, hw, ha, he⟩ => ⟨?_, ?_⟩, by simpa using hl, fun acc en2 ⟨bs, w, hbl, hg, hw, ha, he⟩ p hp => ?_⟩
  · rw [ha, List.length_map]; omega
  · subst ha he
    rw [List.getElem?_map] at hd
    cases hx : xs[i]? with
    | none => rw [hx] at hd; cases hd
    | some x =>
      rw [hx] at hd
      cases hd
      have hm : x ∈ xs := List.mem_of_getElem? hx
      have := hb x hm w hw
      rw [wipeE_set hj, wipeE_two]
      refine fun X hx' v σ I H k o r f => this X hx' v σ I H k o r fun σ' en' I' H' o' g' n' q' => f σ' en' I' H' o' g' n' ?_
      refine ets_nil ⟨fun _ => ?_, fun z => nomatch z⟩
      refine q'.mono fun y en5 ⟨b, w', ey, gb, hw', e5⟩ => ⟨bs ++ [b], w', by rw [List.length_append, hbl]; rfl, fun z hz => ?_, hw', by rw [List.map_append, ey]; rfl, e5⟩
      rcases List.mem_append.mp hz with hz | hz
      · exact hg z hz
      · rw [List.mem_singleton.mp hz]; exact gb
  · subst ha he
    rw [List.length_map] at hbl
    exact hq bs w hbl hg hw p hp
end
end Ly
namespace Ly
open PySem PySem.Spec PyProof.Rows L2
/-- two values by name, in the order of the parameters or against it -/
def sw2 {α : Type} (sw : Bool) (a b : α) : List α := if sw = true then [b, a] else [a, b]
def KB2 (K : PySem.W.Frag) (fd : FuncData) (ps : List Str) (k1 k2 : Str) (sw : Bool) : Prop := ∀ (s : Shared) (u1 u2 : Value), K.In s.heap → BindsTo s fd ⟨[], [(k1, u1), (k2, u2)]⟩ (ps.zip (sw2 sw u1 u2))
structure DefK (g : Gc) (x : Str) (st : Stmt) (ps : List Str) (k1 k2 : Str) (sw : Bool) : Prop where
  ex : ∃ f fd, Fun g.K x x st f fd ∧ g.mg x = some (.ref f) ∧ Binds g.K fd ps [] ∧ KB2 g.K fd ps k1 k2 sw
structure KnowsK (g : Gc) (x : Str) (k : Nat) (ps : List Str) (k1 k2 : Str) (sw : Bool) (pre : Pre) : Prop where
  ex : ∃ f fd, FnG g k f fd ps (spD g.K pre) ∧ g.mg x = some (.ref f) ∧ PySem.W.keepIn g.K (.ref f) = true ∧ Binds g.K fd ps [] ∧ KB2 g.K fd ps k1 k2 sw
theorem KnowsK.kn {g : Gc} {x : Str} {k : Nat} {ps : List Str} {k1 k2 : Str} {sw : Bool} {pre : Pre} (h : KnowsK g x k ps k1 k2 sw pre) : Knows g x k ps pre := by
  obtain ⟨f, fd, a, b, c, d, _⟩ := h.ex
  exact ⟨f, fd, a, b, c, d⟩
theorem KnowsK.mk' {g : Gc} {x : Str} {st : Stmt} {N ps : List Str} {k : Nat} {k1 k2 : Str} {sw : Bool} {pre : Pre} (F : DefK g x st ps k1 k2 sw) (S : FnScope N ps (defScope st)) (len : ∀ args post, pre args post → args.length = ps.length)
    (body : ∀ args post, pre args post → EvB ⟨g, N, defScope st, fun _ => true, k⟩ (defBody st) (args ++ nos (N.length - ps.length)) ⟨Rt args post (.dat .none), Rt args post, fun _ => False, fun _ => False⟩) : KnowsK g x (k + 1) ps k1 k2 sw pre := by
  obtain ⟨f, fd, F, hm, hb, hk⟩ := F.ex
  exact ⟨f, fd, fnG_body F S len body, hm, F.kp, hb, hk⟩
theorem KnowsK.mkP {g : Gc} {x : Str} {st : Stmt} {N ps : List Str} {k : Nat} {k1 k2 : Str} {sw : Bool} {pr : List PyData → (PyData → Prop) → Prop} (F : DefK g x st ps k1 k2 sw) (S : FnScope N ps (defScope st)) (len : ∀ ds post, pr ds post → ds.length = ps.length)
    (body : ∀ ds post, pr ds post → EvB ⟨g, N, defScope st, fun _ => true, k⟩ (defBody st) (ds.map Sl.dat ++ nos (N.length - ps.length)) ⟨fun _ => post .none, fun s _ => ∃ d, s = .dat d ∧ post d, fun _ => False, fun _ => False⟩) : KnowsK g x (k + 1) ps k1 k2 sw (preP pr) :=
  KnowsK.mk' F S (fun args post ⟨ds, e, h⟩ => by rw [e, List.length_map]; exact len ds _ h) fun args post ⟨ds, e, h⟩ => by
    subst e
    exact (body ds _ h).imp (fun e n => ⟨_, back_dat, n⟩) (fun s e ⟨d, z, n⟩ => by subst z; exact ⟨_, back_dat, n⟩) (fun _ z => z) (fun _ z => z)
theorem runGK {X : Cx} {c : Cs} (hx : Hs c X) {k : Nat} {f : Addr} {fd : FuncData} {ps : List Str} {k1 k2 : Str} {sw : Bool} {sp : Sp} (F : FnG c.g k f fd ps sp) (hk : k ≤ c.lv) (hb : KB2 c.g.K fd ps k1 k2 sw) {pins : List (Addr × Obj)} {σ : L2.St} {H : Hp} {s : Shared} {Q : VK} {u1 u2 : Value} {v1 v2 : V}
    (J : Inv X pins σ H s) (r1 : RelV v1 u1) (r2 : RelV v2 u2) (h : sp (sw2 sw v1 v2) H Q E0) : wpAny (model X.prog X.w) X.A (call (.ref f) [] [(k1, u1), (k2, u2)]) (EP X pins σ Q) X.xe s := by
  have e0 := J.env0
  have kin := J.kIn
  rw [hx.p, hx.w, hx.K, hx.mg, hx.base] at e0
  rw [hx.K] at kin
  have bt := hb s u1 u2 kin
  have r : Vals (sw2 sw v1 v2) (sw2 sw u1 u2) := by
    cases sw
    · exact .cons r1 (.cons r2 .nil)
    · exact .cons r2 (.cons r1 .nil)
  have q := F.run X.A X.stack s H ⟨[], [(k1, u1), (k2, u2)]⟩ (sw2 sw u1 u2) (sw2 sw v1 v2) Q (hx.room.mono hk) hx.gu e0 bt r h
  rw [← hx.p, ← hx.w] at q
  refine wpAny_call (codeAny_mono q fun z s' hz => ?_)
  cases z with
  | error e => exact hz.elim
  | ok fl =>
    cases fl with
    | ret u => exact J.after hz
    | next => exact False.elim hz
    | brk => exact False.elim hz
    | cont => exact False.elim hz
def two (P : V → V → Hp → Prop) : List V → Hp → Prop
  | [a, b], H => P a b H
  | _, _ => False
section
variable {c : Cs} {e1 e2 : Expr} {en : En} {Q : PyData → En → Prop} {pos p p1 p2 : Pos} {x : Str} {k : Nat} {ps : List Str} {k1 k2 : Str} {sw : Bool} {pr : List PyData → (PyData → Prop) → Prop}
theorem wE_callKW {X : Cx} (hx : Hs c X) {f : Addr} {fd : FuncData} {sp : Sp} (F : FnG c.g k f fd ps sp) (hk : k ≤ c.lv) (hg : glB (c.sc.names.lookup x) = true) (hm : c.g.mg x = some (.ref f)) (hkp : PySem.W.keepIn c.g.K (.ref f) = true) (hb : KB2 c.g.K fd ps k1 k2 sw)
    (hdb : (x == ("__debug__" : Str)) = false) {σ : L2.St} {H : Hp} {Q : VK} (h : wE X e1 σ H fun v1 H1 => wE X e2 σ H1 fun v2 H2 => sp (sw2 sw v1 v2) H2 Q E0) : wE X (.Call (.Name x p) [] [⟨some k1, e1, p1⟩, ⟨some k2, e2, p2⟩] pos) σ H Q := fun pins s I => by
  refine wpAny_Call_Name_kw (ld_glob I (gl_of hx hg) (by rw [hx.mg]; exact hm) ?_ hdb)
  refine PySem.W.callWith_KW0 (h₀ := X.base) I.ok.mod.kin (by rw [hx.K]; exact hkp) rfl (thn ((pk_cons wE_pe (pk_cons wE_pe pk_nil)).run pos pins s σ H (two fun v1 v2 H2 => sp (sw2 sw v1 v2) H2 Q E0) I h) fun ws s2 ⟨zs, H2, I2, rz, q2⟩ => ⟨I2.kIn, ?_⟩) rfl
  have hks : (backToKw pos (keywordEach [⟨some k1, e1, p1⟩, ⟨some k2, e2, p2⟩] X.env)).filterMap (·.1) = [k1, k2] := rfl
  rw [hks]
  cases zs with
  | nil => exact q2.elim
  | cons v1 zs =>
    cases zs with
    | nil => exact q2.elim
    | cons v2 zs =>
      cases zs with
      | cons _ _ => exact q2.elim
      | nil =>
        cases rz with
        | cons r1 rz =>
          cases rz with
          | cons r2 rz =>
            cases rz
            exact runGK hx F hk hb I2 r1 r2 q2
/-- a def that is given two data by name -/
theorem ee_callKW (F : KnowsK c.g x k ps k1 k2 sw (preP pr)) (hk : k ≤ c.lv) (hg : glB (c.sc.names.lookup x) = true) (h : EvE c e1 en fun d1 en1 => EvE c e2 en1 fun d2 en2 => pr (sw2 sw d1 d2) fun d => Q d en2)
    (hdb : (x == ("__debug__" : Str)) = false := by decide) : EvE c (.Call (.Name x p) [] [⟨some k1, e1, p1⟩, ⟨some k2, e2, p2⟩] pos) en Q := fun X hx σ I H kk o f => by
  obtain ⟨fa, fd, F, hm, hkp, hbb, hb⟩ := F.ex
  refine wE_callKW hx F hk hg hm hkp hb hdb ?_
  refine h X hx σ I H _ o fun v1 d1 en1 I1 H1 o1 g1 r1 h2 => ?_
  refine h2 X hx σ I1 H1 _ o1 fun v2 d2 en2 I2 H2 o2 g2 r2 q2 => ?_
  have r1' := g2.i.dp r1
  have rr : DpAll c.g.K I2 (sw2 sw v1 v2) (sw2 sw d1 d2) := by
    cases sw
    · exact .cons r1' (.cons r2 .nil)
    · exact .cons r2 (.cons r1' .nil)
  refine ⟨I2, (sw2 sw d1 d2).map Sl.dat, fun s _ => RDat Q s en2, ⟨?_, o2.ex, fun i d z => ?_, fun i a xs z => ?_, fun i j a xs ys z => ?_⟩, ⟨_, rfl, q2⟩, fun v s args' I' H' o' g' r' q' => ?_⟩
  · rw [List.length_map, List.length_map, dpa_len rr]
  · rw [List.getElem?_map] at z
    cases ee : (sw2 sw d1 d2)[i]? with
    | none => rw [ee] at z; cases z
    | some d' =>
      rw [ee] at z
      cases z
      obtain ⟨v, h1, h2⟩ := dpa_get rr ee
      exact ⟨v, by rw [List.getElem?_map, h1]; rfl, h2⟩
  · obtain ⟨d, y⟩ := dat_at z
    cases y
  · obtain ⟨d, y⟩ := dat_at z
    cases y
  · have keep : ∀ b u, H2 b = some u → H' b = some u := fun b u hb => g'.h b u hb dat_cin
    have keepI : ∀ b, H2 b ≠ none → I2 b = none → I' b = none := fun b h1 h2 => g'.n b h1 h2 dat_cin
    have o3 : Ok c.g.K σ I' H' en2 := o2.mono g'.i o'.ex fun b hb => by
      obtain ⟨h1, h2⟩ := o2.cin hb
      obtain ⟨u, hu⟩ := ne_some h2
      exact ⟨keepI b h2 h1, by rw [hu, keep b u hu]⟩
    have g3 : Go en2 I2 H2 en2 I' H' := ⟨g'.i, fun b u hb _ => keep b u hb, fun b h1 h2 _ => keepI b h1 h2, fun b hb => .inl hb, g'.k⟩
    cases s with
    | dat d => exact f v d en2 I' H' o3 ((g1.trans g2).trans g3) r' q'
    | no => exact q'.elim
    | cel a xs => exact q'.elim
end
end Ly
namespace Sp
open PySem PySem.Spec PyProof.Rows L2 Ly SV
def top (i : Nat) : Stmt := PySem.Challenge.pw_sevenpins_k63_whole_weights_of_ranges.main.body.getD i (.Pass ⟨0, 0, 0, 0⟩)
abbrev dI (n : Int) : PyData := .int n
abbrev dL (ns : List Int) : PyData := .list (ns.map .int)
abbrev fr (q : Rat) : PyData := .tuple [.int q.num, .int (q.den : Nat)]
abbrev d01 : PyData := .tuple [.int 0, .int 1]
abbrev dNT : PyData := .tuple [d01, d01, d01]
abbrev dNS : PyData := .tuple [d01, d01, d01, d01, d01, d01]
/-- what the top has left -/
structure Al (g : Gc) : Prop where
  d_is_whole : Def g "is_whole" (top 7) ["value"]
  d_common_part : Def g "common_part" (top 8) ["numbers"]
  d_lowest : Def g "lowest" (top 9) ["numbers"]
  d_lowest_over : Def g "lowest_over" (top 10) ["numbers", "below"]
  d_ratio : Def g "ratio" (top 11) ["top", "below"]
  d_product_sum : Def g "product_sum" (top 12) ["row", "other"]
  d_minus : Def g "minus" (top 14) ["one", "other"]
  d_times : Def g "times" (top 15) ["one", "other"]
  d_is_below : Def g "is_below" (top 16) ["one", "other"]
  d_over_one : Def g "over_one" (top 17) ["parts"]
  d_parts_over : Def g "parts_over" (top 18) ["numbers", "below"]
  d_is_fraction : Def g "is_fraction" (top 21) ["value"]
  d_are_fractions : Def g "are_fractions" (top 22) ["value", "many"]
  d_is_triple : Def g "is_triple" (top 23) ["value"]
  d_is_direction : Def g "is_direction" (top 24) ["value"]
  d_crossed : Def g "crossed" (top 25) ["one", "other"]
  d_row_of : Def g "row_of" (top 27) ["screw"]
  d_screw_of : Def g "screw_of" (top 28) ["row"]
  d_pushed : Def g "pushed" (top 29) ["point", "direction"]
  d_lowest_row : Def g "lowest_row" (top 31) ["row"]
  d_whole_row : Def g "whole_row" (top 32) ["parts"]
  d_first_place : Def g "first_place" (top 33) ["row"]
  d_cleared : Def g "cleared" (top 34) ["row", "step", "place"]
  d_stairs_of : Def g "stairs_of" (top 35) ["rows"]
  d_shares_for : Def g "shares_for" (top 36) ["rows", "wanted"]
  d_step_at : Def g "step_at" (top 38) ["table", "row", "column", "below"]
  d_entering : Def g "entering" (top 39) ["costs", "many"]
  d_leaving : Def g "leaving" (top 40) ["table", "leaders", "column"]
  d_descend : Def g "descend" (top 41) ["table", "leaders", "below", "many"]
  d_first_table : Def g "first_table" (top 42) ["rows", "numbers", "signs", "many"]
  d_helpers_out : Def g "helpers_out" (top 43) ["table", "leaders", "below", "many"]
  d_row_of_costs : Def g "row_of_costs" (top 44) ["table", "leaders", "below", "costs"]
  d_least_of : Def g "least_of" (top 45) ["rows", "numbers", "costs"]
  d_rows_across : Def g "rows_across" (top 47) ["columns", "height"]
  d_opposite_parts : Def g "opposite_parts" (top 48) ["parts"]
  d_is_pin : Def g "is_pin" (top 52) ["value"]
  d_wrong_pin : Def g "wrong_pin" (top 53) ["value"]
  d_check_gauge : Def g "check_gauge" (top 54) ["value"]
  d_is_mark : Def g "is_mark" (top 55) ["value"]
  d_check_marked : Def g "check_marked" (top 56) ["gauge", "mark"]
  d_pin_rows : Def g "pin_rows" (top 57) ["gauge"]
  d_mark_row : Def g "mark_row" (top 58) ["mark"]
  d_move_of_row : Def g "move_of_row" (top 59) ["parts"]
  d_bound_on : Def g "bound_on" (top 60) ["gauge", "wanted"]
  d_mark_shares : Def g "mark_shares" (top 61) ["gauge", "mark"]
  d_bounds_of : Def g "bounds_of" (top 62) ["gauge", "mark"]
  d_mark_range : DefK g "mark_range" (top 63) ["gauge", "mark"] "mark" "gauge" true
  d_range_weights : DefK g "range_weights" (top 64) ["gauge", "mark"] "gauge" "mark" false
  d__law_well : Def g "_law_well" (top 66) ["_law_script", "_law_turn"]
  d__law_draw : Def g "_law_draw" (top 67) ["_law_well_here", "_law_size"]
  d__law_pick : Def g "_law_pick" (top 68) ["_law_well_here", "_law_some"]
  d__law_lean : Def g "_law_lean" (top 69) ["_law_up", "_law_low"]
  d__law_summed : Def g "_law_summed" (top 70) ["_law_ones", "_law_twos"]
  d__law_added : Def g "_law_added" (top 71) ["_law_one", "_law_two"]
  d__law_times : Def g "_law_times" (top 72) ["_law_one", "_law_two"]
  d__law_is_less : Def g "_law_is_less" (top 73) ["_law_one", "_law_two"]
  d__law_minor : Def g "_law_minor" (top 74) ["_law_a", "_law_b", "_law_i", "_law_j"]
  d__law_cross : Def g "_law_cross" (top 75) ["_law_a", "_law_b"]
  d__law_plus : Def g "_law_plus" (top 76) ["_law_a", "_law_b"]
  d__law_scaled : Def g "_law_scaled" (top 77) ["_law_a", "_law_by"]
  d__law_is_nought : Def g "_law_is_nought" (top 78) ["_law_a"]
  d__law_axes : Def g "_law_axes" (top 79) []
  d__law_nought : Def g "_law_nought" (top 80) []
  d__law_line : Def g "_law_line" (top 81) ["_law_at", "_law_along_here"]
  d__law_power : Def g "_law_power" (top 82) ["_law_one", "_law_two"]
  d__law_mixed : Def g "_law_mixed" (top 83) ["_law_some", "_law_weights"]
  d__law_is_whole : Def g "_law_is_whole" (top 84) ["_law_thing"]
  d__law_is_fraction : Def g "_law_is_fraction" (top 85) ["_law_thing"]
  d__law_are : Def g "_law_are" (top 86) ["_law_thing", "_law_size"]
  d__law_cleared : Def g "_law_cleared" (top 87) ["_law_row"]
  d__law_rank : Def g "_law_rank" (top 88) ["_law_some"]
  d__law_number : Def g "_law_number" (top 89) ["_law_well_here", "_law_sort"]
  d__law_point : Def g "_law_point" (top 90) ["_law_well_here", "_law_sort"]
  d__law_along : Def g "_law_along" (top 91) ["_law_well_here", "_law_sort"]
  d__law_way : Def g "_law_way" (top 92) ["_law_well_here", "_law_sort"]
  d__law_scale : Def g "_law_scale" (top 93) ["_law_well_here"]
  d__law_little : Def g "_law_little" (top 94) ["_law_well_here"]
  d__law_less : Def g "_law_less" (top 95) ["_law_one", "_law_two"]
  d__law_within : Def g "_law_within" (top 96) ["_law_told", "_law_one"]
  d__law_pins : Def g "_law_pins" (top 97) ["_law_well_here", "_law_sort"]
  d__law_pushes : Def g "_law_pushes" (top 98) ["_law_pins_here"]
  d__law_room : Def g "_law_room" (top 99) ["_law_well_here"]
  d__law_stretched : Def g "_law_stretched" (top 100) ["_law_well_here", "_law_pins_here", "_law_way_here"]
  d__law_worth : Def g "_law_worth" (top 101) ["_law_pins_here", "_law_weights", "_law_most"]
  d__law_sign : Def g "_law_sign" (top 102) ["_law_well_here", "_law_pins_here", "_law_sort"]
  d__law_shared : Def g "_law_shared" (top 103) ["_law_pins_here", "_law_goal", "_law_shares"]
  d__law_right : Def g "_law_right" (top 104) ["_law_well_here"]
  d_law : Def g "law" (top 105) ["_law_script"]
  f_isinstance : g.mg "isinstance" = none
  f_int : g.mg "int" = none
  f_bool : g.mg "bool" = none
  f_tuple : g.mg "tuple" = none
  f_len : g.mg "len" = none
  f_range : g.mg "range" = none
  f_zip : g.mg "zip" = none
  f_enumerate : g.mg "enumerate" = none
  f_sum : g.mg "sum" = none
  f_list : g.mg "list" = none
  f_sorted : g.mg "sorted" = none
  f_abs : g.mg "abs" = none
  f_divmod : g.mg "divmod" = none
  f_repr : g.mg "repr" = none
  f_all : g.mg "all" = none
  gcd : g.mg "gcd" = some (.builtin "math.gcd")
  lcm : g.mg "lcm" = some (.builtin "math.lcm")
  most : ∃ tk, g.mg "MOST_PINS" = some (.int 12 tk)
  gl_NOUGHT_TRIPLE : ∃ a, g.mg "NOUGHT_TRIPLE" = some (.ref a) ∧ Dp g.K (fun _ => none) (.ref a) dNT
  gl_NOUGHTS : ∃ a, g.mg "NOUGHTS" = some (.ref a) ∧ Dp g.K (fun _ => none) (.ref a) dNS
theorem sc_is_whole : FnScope ["value"] ["value"] (defScope (top 7)) := ⟨rfl, rfl, rfl, by decide +kernel, rfl, by decide +kernel, by decide +kernel⟩
theorem sc_common_part : FnScope ["numbers", "found", "number"] ["numbers"] (defScope (top 8)) := ⟨rfl, rfl, rfl, by decide +kernel, rfl, by decide +kernel, by decide +kernel⟩
theorem sc_lowest : FnScope ["numbers", "part", "number"] ["numbers"] (defScope (top 9)) := ⟨rfl, rfl, rfl, by decide +kernel, rfl, by decide +kernel, by decide +kernel⟩
theorem sc_lowest_over : FnScope ["numbers", "below", "factor", "number"] ["numbers", "below"] (defScope (top 10)) := ⟨rfl, rfl, rfl, by decide +kernel, rfl, by decide +kernel, by decide +kernel⟩
theorem sc_ratio : FnScope ["top", "below"] ["top", "below"] (defScope (top 11)) := ⟨rfl, rfl, rfl, by decide +kernel, rfl, by decide +kernel, by decide +kernel⟩
theorem sc_product_sum : FnScope ["row", "other", "one", "two"] ["row", "other"] (defScope (top 12)) := ⟨rfl, rfl, rfl, by decide +kernel, rfl, by decide +kernel, by decide +kernel⟩
theorem sc_minus : FnScope ["one", "other"] ["one", "other"] (defScope (top 14)) := ⟨rfl, rfl, rfl, by decide +kernel, rfl, by decide +kernel, by decide +kernel⟩
theorem sc_times : FnScope ["one", "other"] ["one", "other"] (defScope (top 15)) := ⟨rfl, rfl, rfl, by decide +kernel, rfl, by decide +kernel, by decide +kernel⟩
theorem sc_is_below : FnScope ["one", "other"] ["one", "other"] (defScope (top 16)) := ⟨rfl, rfl, rfl, by decide +kernel, rfl, by decide +kernel, by decide +kernel⟩
theorem sc_over_one : FnScope ["parts", "below", "part"] ["parts"] (defScope (top 17)) := ⟨rfl, rfl, rfl, by decide +kernel, rfl, by decide +kernel, by decide +kernel⟩
theorem sc_parts_over : FnScope ["numbers", "below", "number"] ["numbers", "below"] (defScope (top 18)) := ⟨rfl, rfl, rfl, by decide +kernel, rfl, by decide +kernel, by decide +kernel⟩
theorem sc_is_fraction : FnScope ["value"] ["value"] (defScope (top 21)) := ⟨rfl, rfl, rfl, by decide +kernel, rfl, by decide +kernel, by decide +kernel⟩
theorem sc_are_fractions : FnScope ["value", "many", "part"] ["value", "many"] (defScope (top 22)) := ⟨rfl, rfl, rfl, by decide +kernel, rfl, by decide +kernel, by decide +kernel⟩
theorem sc_is_triple : FnScope ["value"] ["value"] (defScope (top 23)) := ⟨rfl, rfl, rfl, by decide +kernel, rfl, by decide +kernel, by decide +kernel⟩
theorem sc_is_direction : FnScope ["value"] ["value"] (defScope (top 24)) := ⟨rfl, rfl, rfl, by decide +kernel, rfl, by decide +kernel, by decide +kernel⟩
theorem sc_crossed : FnScope ["one", "other", "a", "b", "c", "d", "e", "f"] ["one", "other"] (defScope (top 25)) := ⟨rfl, rfl, rfl, by decide +kernel, rfl, by decide +kernel, by decide +kernel⟩
theorem sc_row_of : FnScope ["screw"] ["screw"] (defScope (top 27)) := ⟨rfl, rfl, rfl, by decide +kernel, rfl, by decide +kernel, by decide +kernel⟩
theorem sc_screw_of : FnScope ["row"] ["row"] (defScope (top 28)) := ⟨rfl, rfl, rfl, by decide +kernel, rfl, by decide +kernel, by decide +kernel⟩
theorem sc_pushed : FnScope ["point", "direction"] ["point", "direction"] (defScope (top 29)) := ⟨rfl, rfl, rfl, by decide +kernel, rfl, by decide +kernel, by decide +kernel⟩
theorem sc_lowest_row : FnScope ["row", "part", "number"] ["row"] (defScope (top 31)) := ⟨rfl, rfl, rfl, by decide +kernel, rfl, by decide +kernel, by decide +kernel⟩
theorem sc_whole_row : FnScope ["parts"] ["parts"] (defScope (top 32)) := ⟨rfl, rfl, rfl, by decide +kernel, rfl, by decide +kernel, by decide +kernel⟩
theorem sc_first_place : FnScope ["row", "place", "number"] ["row"] (defScope (top 33)) := ⟨rfl, rfl, rfl, by decide +kernel, rfl, by decide +kernel, by decide +kernel⟩
theorem sc_cleared : FnScope ["row", "step", "place", "here", "there", "factor", "one", "two"] ["row", "step", "place"] (defScope (top 34)) := ⟨rfl, rfl, rfl, by decide +kernel, rfl, by decide +kernel, by decide +kernel⟩
theorem sc_stairs_of : FnScope ["rows", "found", "row", "left", "step", "place"] ["rows"] (defScope (top 35)) := ⟨rfl, rfl, rfl, by decide +kernel, rfl, by decide +kernel, by decide +kernel⟩
theorem sc_shares_for : FnScope ["rows", "wanted", "many", "lines", "found", "step", "place", "at", "row"] ["rows", "wanted"] (defScope (top 36)) := ⟨rfl, rfl, rfl, by decide +kernel, rfl, by decide +kernel, by decide +kernel⟩
theorem sc_step_at : FnScope ["table", "row", "column", "below", "here", "part", "place", "factor", "number", "beside"] ["table", "row", "column", "below"] (defScope (top 38)) := ⟨rfl, rfl, rfl, by decide +kernel, rfl, by decide +kernel, by decide +kernel⟩
theorem sc_entering : FnScope ["costs", "many", "column"] ["costs", "many"] (defScope (top 39)) := ⟨rfl, rfl, rfl, by decide +kernel, rfl, by decide +kernel, by decide +kernel⟩
theorem sc_leaving : FnScope ["table", "leaders", "column", "best", "place", "part", "here", "there"] ["table", "leaders", "column"] (defScope (top 40)) := ⟨rfl, rfl, rfl, by decide +kernel, rfl, by decide +kernel, by decide +kernel⟩
theorem sc_descend : FnScope ["table", "leaders", "below", "many", "column", "row"] ["table", "leaders", "below", "many"] (defScope (top 41)) := ⟨rfl, rfl, rfl, by decide +kernel, rfl, by decide +kernel, by decide +kernel⟩
theorem sc_first_table : FnScope ["rows", "numbers", "signs", "many", "height", "table", "place", "unit", "row", "costs", "at", "number", "line"] ["rows", "numbers", "signs", "many"] (defScope (top 42)) := ⟨rfl, rfl, rfl, by decide +kernel, rfl, by decide +kernel, by decide +kernel⟩
theorem sc_helpers_out : FnScope ["table", "leaders", "below", "many", "place", "found", "at", "number"] ["table", "leaders", "below", "many"] (defScope (top 43)) := ⟨rfl, rfl, rfl, by decide +kernel, rfl, by decide +kernel, by decide +kernel⟩
theorem sc_row_of_costs : FnScope ["table", "leaders", "below", "costs", "row", "place", "factor", "cost", "number", "beside"] ["table", "leaders", "below", "costs"] (defScope (top 44)) := ⟨rfl, rfl, rfl, by decide +kernel, rfl, by decide +kernel, by decide +kernel⟩
theorem sc_least_of : FnScope ["rows", "numbers", "costs", "many", "height", "signs", "table", "leaders", "below", "_", "last", "column", "values", "place", "number", "at"] ["rows", "numbers", "costs"] (defScope (top 45)) := ⟨rfl, rfl, rfl, by decide +kernel, rfl, by decide +kernel, by decide +kernel⟩
theorem sc_rows_across : FnScope ["columns", "height", "at", "column"] ["columns", "height"] (defScope (top 47)) := ⟨rfl, rfl, rfl, by decide +kernel, rfl, by decide +kernel, by decide +kernel⟩
theorem sc_opposite_parts : FnScope ["parts", "part"] ["parts"] (defScope (top 48)) := ⟨rfl, rfl, rfl, by decide +kernel, rfl, by decide +kernel, by decide +kernel⟩
theorem sc_is_pin : FnScope ["value", "stretch", "part"] ["value"] (defScope (top 52)) := ⟨rfl, rfl, rfl, by decide +kernel, rfl, by decide +kernel, by decide +kernel⟩
theorem sc_wrong_pin : FnScope ["value", "index", "pin"] ["value"] (defScope (top 53)) := ⟨rfl, rfl, rfl, by decide +kernel, rfl, by decide +kernel, by decide +kernel⟩
theorem sc_check_gauge : FnScope ["value", "wrong"] ["value"] (defScope (top 54)) := ⟨rfl, rfl, rfl, by decide +kernel, rfl, by decide +kernel, by decide +kernel⟩
theorem sc_is_mark : FnScope ["value"] ["value"] (defScope (top 55)) := ⟨rfl, rfl, rfl, by decide +kernel, rfl, by decide +kernel, by decide +kernel⟩
theorem sc_check_marked : FnScope ["gauge", "mark"] ["gauge", "mark"] (defScope (top 56)) := ⟨rfl, rfl, rfl, by decide +kernel, rfl, by decide +kernel, by decide +kernel⟩
theorem sc_pin_rows : FnScope ["gauge", "pin"] ["gauge"] (defScope (top 57)) := ⟨rfl, rfl, rfl, by decide +kernel, rfl, by decide +kernel, by decide +kernel⟩
theorem sc_mark_row : FnScope ["mark"] ["mark"] (defScope (top 58)) := ⟨rfl, rfl, rfl, by decide +kernel, rfl, by decide +kernel, by decide +kernel⟩
theorem sc_move_of_row : FnScope ["parts"] ["parts"] (defScope (top 59)) := ⟨rfl, rfl, rfl, by decide +kernel, rfl, by decide +kernel, by decide +kernel⟩
theorem sc_bound_on : FnScope ["gauge", "wanted", "rows", "columns", "prices", "numbers", "scale", "pin", "costs", "coin", "size", "word", "below", "values", "duals", "shares", "move", "row", "number", "at"] ["gauge", "wanted"] (defScope (top 60)) := ⟨rfl, rfl, rfl, by decide +kernel, rfl, by decide +kernel, by decide +kernel⟩
theorem sc_mark_shares : FnScope ["gauge", "mark"] ["gauge", "mark"] (defScope (top 61)) := ⟨rfl, rfl, rfl, by decide +kernel, rfl, by decide +kernel, by decide +kernel⟩
theorem sc_bounds_of : FnScope ["gauge", "mark", "row", "word", "most", "shares", "far", "least", "others", "near"] ["gauge", "mark"] (defScope (top 62)) := ⟨rfl, rfl, rfl, by decide +kernel, rfl, by decide +kernel, by decide +kernel⟩
theorem sc_mark_range : FnScope ["gauge", "mark", "found"] ["gauge", "mark"] (defScope (top 63)) := ⟨rfl, rfl, rfl, by decide +kernel, rfl, by decide +kernel, by decide +kernel⟩
theorem sc_range_weights : FnScope ["gauge", "mark", "found"] ["gauge", "mark"] (defScope (top 64)) := ⟨rfl, rfl, rfl, by decide +kernel, rfl, by decide +kernel, by decide +kernel⟩
theorem sc__law_well : FnScope ["_law_script", "_law_turn", "_law_stirred", "_law_cell", "_law_own"] ["_law_script", "_law_turn"] (defScope (top 66)) := ⟨rfl, rfl, rfl, by decide +kernel, rfl, by decide +kernel, by decide +kernel⟩
theorem sc__law_draw : FnScope ["_law_well_here", "_law_size", "_law_digit", "_law_mixed_here"] ["_law_well_here", "_law_size"] (defScope (top 67)) := ⟨rfl, rfl, rfl, by decide +kernel, rfl, by decide +kernel, by decide +kernel⟩
theorem sc__law_pick : FnScope ["_law_well_here", "_law_some"] ["_law_well_here", "_law_some"] (defScope (top 68)) := ⟨rfl, rfl, rfl, by decide +kernel, rfl, by decide +kernel, by decide +kernel⟩
theorem sc__law_lean : FnScope ["_law_up", "_law_low", "_law_one", "_law_two", "_law_step"] ["_law_up", "_law_low"] (defScope (top 69)) := ⟨rfl, rfl, rfl, by decide +kernel, rfl, by decide +kernel, by decide +kernel⟩
theorem sc__law_summed : FnScope ["_law_ones", "_law_twos", "_law_up", "_law_low", "_law_one", "_law_two", "_law_under"] ["_law_ones", "_law_twos"] (defScope (top 70)) := ⟨rfl, rfl, rfl, by decide +kernel, rfl, by decide +kernel, by decide +kernel⟩
theorem sc__law_added : FnScope ["_law_one", "_law_two"] ["_law_one", "_law_two"] (defScope (top 71)) := ⟨rfl, rfl, rfl, by decide +kernel, rfl, by decide +kernel, by decide +kernel⟩
theorem sc__law_times : FnScope ["_law_one", "_law_two"] ["_law_one", "_law_two"] (defScope (top 72)) := ⟨rfl, rfl, rfl, by decide +kernel, rfl, by decide +kernel, by decide +kernel⟩
theorem sc__law_is_less : FnScope ["_law_one", "_law_two"] ["_law_one", "_law_two"] (defScope (top 73)) := ⟨rfl, rfl, rfl, by decide +kernel, rfl, by decide +kernel, by decide +kernel⟩
theorem sc__law_minor : FnScope ["_law_a", "_law_b", "_law_i", "_law_j", "_law_up"] ["_law_a", "_law_b", "_law_i", "_law_j"] (defScope (top 74)) := ⟨rfl, rfl, rfl, by decide +kernel, rfl, by decide +kernel, by decide +kernel⟩
theorem sc__law_cross : FnScope ["_law_a", "_law_b"] ["_law_a", "_law_b"] (defScope (top 75)) := ⟨rfl, rfl, rfl, by decide +kernel, rfl, by decide +kernel, by decide +kernel⟩
theorem sc__law_plus : FnScope ["_law_a", "_law_b", "_law_one", "_law_two"] ["_law_a", "_law_b"] (defScope (top 76)) := ⟨rfl, rfl, rfl, by decide +kernel, rfl, by decide +kernel, by decide +kernel⟩
theorem sc__law_scaled : FnScope ["_law_a", "_law_by", "_law_one"] ["_law_a", "_law_by"] (defScope (top 77)) := ⟨rfl, rfl, rfl, by decide +kernel, rfl, by decide +kernel, by decide +kernel⟩
theorem sc__law_is_nought : FnScope ["_law_a", "_law_each"] ["_law_a"] (defScope (top 78)) := ⟨rfl, rfl, rfl, by decide +kernel, rfl, by decide +kernel, by decide +kernel⟩
theorem sc__law_axes : FnScope [] [] (defScope (top 79)) := ⟨rfl, rfl, rfl, by decide +kernel, rfl, by decide +kernel, by decide +kernel⟩
theorem sc__law_nought : FnScope [] [] (defScope (top 80)) := ⟨rfl, rfl, rfl, by decide +kernel, rfl, by decide +kernel, by decide +kernel⟩
theorem sc__law_line : FnScope ["_law_at", "_law_along_here"] ["_law_at", "_law_along_here"] (defScope (top 81)) := ⟨rfl, rfl, rfl, by decide +kernel, rfl, by decide +kernel, by decide +kernel⟩
theorem sc__law_power : FnScope ["_law_one", "_law_two"] ["_law_one", "_law_two"] (defScope (top 82)) := ⟨rfl, rfl, rfl, by decide +kernel, rfl, by decide +kernel, by decide +kernel⟩
theorem sc__law_mixed : FnScope ["_law_some", "_law_weights", "_law_rows", "_law_six", "_law_each", "_law_k", "_law_row"] ["_law_some", "_law_weights"] (defScope (top 83)) := ⟨rfl, rfl, rfl, by decide +kernel, rfl, by decide +kernel, by decide +kernel⟩
theorem sc__law_is_whole : FnScope ["_law_thing"] ["_law_thing"] (defScope (top 84)) := ⟨rfl, rfl, rfl, by decide +kernel, rfl, by decide +kernel, by decide +kernel⟩
theorem sc__law_is_fraction : FnScope ["_law_thing"] ["_law_thing"] (defScope (top 85)) := ⟨rfl, rfl, rfl, by decide +kernel, rfl, by decide +kernel, by decide +kernel⟩
theorem sc__law_are : FnScope ["_law_thing", "_law_size", "_law_each"] ["_law_thing", "_law_size"] (defScope (top 86)) := ⟨rfl, rfl, rfl, by decide +kernel, rfl, by decide +kernel, by decide +kernel⟩
theorem sc__law_cleared : FnScope ["_law_row", "_law_low", "_law_each"] ["_law_row"] (defScope (top 87)) := ⟨rfl, rfl, rfl, by decide +kernel, rfl, by decide +kernel, by decide +kernel⟩
theorem sc__law_rank : FnScope ["_law_some", "_law_rows", "_law_rank_here", "_law_k", "_law_lead", "_law_first", "_law_row", "_law_j"] ["_law_some"] (defScope (top 88)) := ⟨rfl, rfl, rfl, by decide +kernel, rfl, by decide +kernel, by decide +kernel⟩
theorem sc__law_number : FnScope ["_law_well_here", "_law_sort"] ["_law_well_here", "_law_sort"] (defScope (top 89)) := ⟨rfl, rfl, rfl, by decide +kernel, rfl, by decide +kernel, by decide +kernel⟩
theorem sc__law_point : FnScope ["_law_well_here", "_law_sort", "_law_k"] ["_law_well_here", "_law_sort"] (defScope (top 90)) := ⟨rfl, rfl, rfl, by decide +kernel, rfl, by decide +kernel, by decide +kernel⟩
theorem sc__law_along : FnScope ["_law_well_here", "_law_sort", "_law_k", "_law_sign_here", "_law_found", "_law_j"] ["_law_well_here", "_law_sort"] (defScope (top 91)) := ⟨rfl, rfl, rfl, by decide +kernel, rfl, by decide +kernel, by decide +kernel⟩
theorem sc__law_way : FnScope ["_law_well_here", "_law_sort", "_law_shape", "_law_at", "_law_along_here"] ["_law_well_here", "_law_sort"] (defScope (top 92)) := ⟨rfl, rfl, rfl, by decide +kernel, rfl, by decide +kernel, by decide +kernel⟩
theorem sc__law_scale : FnScope ["_law_well_here"] ["_law_well_here"] (defScope (top 93)) := ⟨rfl, rfl, rfl, by decide +kernel, rfl, by decide +kernel, by decide +kernel⟩
theorem sc__law_little : FnScope ["_law_well_here"] ["_law_well_here"] (defScope (top 94)) := ⟨rfl, rfl, rfl, by decide +kernel, rfl, by decide +kernel, by decide +kernel⟩
theorem sc__law_less : FnScope ["_law_one", "_law_two"] ["_law_one", "_law_two"] (defScope (top 95)) := ⟨rfl, rfl, rfl, by decide +kernel, rfl, by decide +kernel, by decide +kernel⟩
theorem sc__law_within : FnScope ["_law_told", "_law_one"] ["_law_told", "_law_one"] (defScope (top 96)) := ⟨rfl, rfl, rfl, by decide +kernel, rfl, by decide +kernel, by decide +kernel⟩
theorem sc__law_pins : FnScope ["_law_well_here", "_law_sort", "_law_way_here", "_law_c", "_law_k", "_law_x", "_law_y", "_law_z", "_law_p", "_law_q", "_law_found", "_law_at", "_law_along_here", "_law_turn"] ["_law_well_here", "_law_sort"] (defScope (top 97)) := ⟨rfl, rfl, rfl, by decide +kernel, rfl, by decide +kernel, by decide +kernel⟩
theorem sc__law_pushes : FnScope ["_law_pins_here", "_law_pin"] ["_law_pins_here"] (defScope (top 98)) := ⟨rfl, rfl, rfl, by decide +kernel, rfl, by decide +kernel, by decide +kernel⟩
theorem sc__law_room : FnScope ["_law_well_here"] ["_law_well_here"] (defScope (top 99)) := ⟨rfl, rfl, rfl, by decide +kernel, rfl, by decide +kernel, by decide +kernel⟩
theorem sc__law_stretched : FnScope ["_law_well_here", "_law_pins_here", "_law_way_here", "_law_found", "_law_pin", "_law_here"] ["_law_well_here", "_law_pins_here", "_law_way_here"] (defScope (top 100)) := ⟨rfl, rfl, rfl, by decide +kernel, rfl, by decide +kernel, by decide +kernel⟩
theorem sc__law_worth : FnScope ["_law_pins_here", "_law_weights", "_law_most", "_law_pin", "_law_each"] ["_law_pins_here", "_law_weights", "_law_most"] (defScope (top 101)) := ⟨rfl, rfl, rfl, by decide +kernel, rfl, by decide +kernel, by decide +kernel⟩
theorem sc__law_sign : FnScope ["_law_well_here", "_law_pins_here", "_law_sort", "_law_at", "_law_along_here", "_law_way_here", "_law_there", "_law_each", "_law_step", "_law_pin"] ["_law_well_here", "_law_pins_here", "_law_sort"] (defScope (top 102)) := ⟨rfl, rfl, rfl, by decide +kernel, rfl, by decide +kernel, by decide +kernel⟩
theorem sc__law_shared : FnScope ["_law_pins_here", "_law_goal", "_law_shares"] ["_law_pins_here", "_law_goal", "_law_shares"] (defScope (top 103)) := ⟨rfl, rfl, rfl, by decide +kernel, rfl, by decide +kernel, by decide +kernel⟩
theorem sc__law_right : FnScope ["_law_well_here", "_law_sort", "_law_named", "_law_bare", "_law_way_here", "_law_pins_here", "_law_sign_here", "_law_goal", "_law_six", "_law_told", "_law_shares", "_law_ends", "_law_low", "_law_high", "_law_each"] ["_law_well_here"] (defScope (top 104)) := ⟨rfl, rfl, rfl, by decide +kernel, rfl, by decide +kernel, by decide +kernel⟩
theorem sc_law : FnScope ["_law_script", "_law_turn"] ["_law_script"] (defScope (top 105)) := ⟨rfl, rfl, rfl, by decide +kernel, rfl, by decide +kernel, by decide +kernel⟩
theorem _root_.Ly.Bd.sm {i : Int} (h : i.natAbs < 2 ^ 60) : Bd 400000 i := Bd.mono (n := 60) h (by decide)
theorem _root_.Ly.Bd.sml {i : Int} (h : i = 1 ∨ i = -1) : Bd 400000 i := Bd.sm (by rcases h with rfl | rfl <;> decide)
theorem _root_.SV.Sz.n {k m : Nat} {q : Rat} (h : Sz k q) (l : k ≤ m) : Bd m q.num := Bd.mono (n := k) h.1 l
theorem _root_.SV.Sz.d {k m : Nat} {q : Rat} (h : Sz k q) (l : k ≤ m) : Bd m ((q.den : Nat) : Int) := Bd.mono (n := k) h.2 l
theorem _root_.Ly.Bd.mul {n m k : Nat} {i j : Int} (h : Bd n i) (h2 : Bd m j) (l : n + m ≤ k) : Bd k (i * j) := Bd.mono (n := n + m) (by
  unfold Bd
  rw [Int.natAbs_mul, Nat.pow_add]
  exact Nat.mul_lt_mul'' h h2) l
theorem _root_.Ly.Bd.sub {n k : Nat} {i j : Int} (h : Bd n i) (h2 : Bd n j) (l : n + 1 ≤ k) : Bd k (i - j) := Bd.mono (n := n + 1) (by
  unfold Bd at *
  rw [Nat.pow_succ]
  omega) l
theorem _root_.Ly.Bd.add {n k : Nat} {i j : Int} (h : Bd n i) (h2 : Bd n j) (l : n + 1 ≤ k) : Bd k (i + j) := Bd.mono (n := n + 1) (by
  unfold Bd at *
  rw [Nat.pow_succ]
  omega) l
theorem den_ne0 (q : Rat) : ((q.den : Nat) : Int) ≠ 0 := by exact_mod_cast q.den_nz
theorem lt_dec (a b : Rat) : decide (a.num * ((b.den : Nat) : Int) < b.num * ((a.den : Nat) : Int)) = decide (a < b) := by
  rw [decide_eq_decide]
  exact (Rat.lt_iff a b).symm
theorem den_mul_ne (a b : Rat) : ((a.den : Nat) : Int) * ((b.den : Nat) : Int) ≠ 0 := Int.mul_ne_zero (den_ne0 a) (den_ne0 b)
end Sp
namespace Sp
open PySem PySem.Spec PyProof.Rows L2 Ly SV
variable {g : Gc}

theorem k_is_whole (A : Al g) : KnowsP g "is_whole" 1 ["value"] (fun ds post => ∃ i : Int, ds = [.int i] ∧ post (.bool true)) := by
  refine Knows.mkP A.d_is_whole sc_is_whole (fun ds post h => by obtain ⟨_, rfl, _⟩ := h; rfl) ?_
  rintro ds post ⟨i, rfl, q⟩
  refine eb_one (es_ret (ee_and (ee_isi (T := "int") (by decide) (by kernel_rfl) A.f_isinstance (by kernel_rfl) A.f_int (by kernel_rfl) (ee_name 0 rfl (by kernel_rfl) rfl (⟨_, rfl, fun _ => ee_one (ee_not (ee_isi (T := "bool") (by decide) (by kernel_rfl) A.f_isinstance (by kernel_rfl) A.f_bool (by kernel_rfl) (ee_name 0 rfl (by kernel_rfl) rfl (⟨_, rfl, ⟨_, rfl, q⟩⟩)))), fun _ => ?_⟩)))))
  all_goals first | exact q | (rename_i z; cases z)
theorem map_int_get {ns : List Int} {i : Nat} {d : PyData} (h : (ns.map PyData.int)[i]? = some d) : ∃ n, ns[i]? = some n ∧ d = .int n := by
  rw [List.getElem?_map] at h
  cases e : ns[i]? with
  | none => rw [e] at h; cases h
  | some n => rw [e] at h; cases h; exact ⟨n, rfl, rfl⟩
theorem map_get {α : Type} {F : α → PyData} {ns : List α} {i : Nat} {d : PyData} (h : (ns.map F)[i]? = some d) : ∃ n, ns[i]? = some n ∧ d = F n := by
  rw [List.getElem?_map] at h
  cases e : ns[i]? with
  | none => rw [e] at h; cases h
  | some n => rw [e] at h; cases h; exact ⟨n, rfl, rfl⟩
theorem k_common_part (A : Al g) : KnowsP g "common_part" 1 ["numbers"] (fun ds post => ∃ (b : Bool) (ns : List Int), ds = [seqB b (ns.map .int)] ∧ post (.int (gcdL ns : Nat))) := by
  refine Knows.mkP A.d_common_part sc_common_part (fun ds post h => by obtain ⟨_, _, rfl, _⟩ := h; rfl) ?_
  rintro ds post ⟨b, ns, rfl, q⟩
  refine eb_cons (es_asg 1 rfl (by kernel_rfl) (.inl rfl) (ee_int (eb_cons (es_for (ei_B b (ee_name 0 rfl (by kernel_rfl) rfl (⟨_, rfl, ⟨fun i en => ∃ s, en = [.dat (seqB b (ns.map .int)), .dat (.int (gcdL (ns.take i) : Nat)), s], ⟨_, rfl⟩, fun i d en2 hd hP => by (obtain ⟨s, rfl⟩ := hP; obtain ⟨n, hn, rfl⟩ := map_int_get hd; exact eg_name 2 rfl (by kernel_rfl) (.inl rfl) trivial (eb_one (es_asg 1 rfl (by kernel_rfl) (.inl rfl) (ee_callG bc_gcd (by kernel_rfl) A.gcd (ea_cons (ee_name 1 rfl (by kernel_rfl) rfl (ea_cons (ee_name 2 rfl (by kernel_rfl) rfl (ea_nil (⟨_, ⟨_, _, rfl, rfl⟩, ⟨_, by rw [gcdL_take hn]; rfl⟩⟩)))))))))), fun en2 hP => by (obtain ⟨s, rfl⟩ := hP; rw [List.length_map, List.take_length]; exact eb_one (es_ret (ee_name 1 rfl (by kernel_rfl) rfl (⟨_, rfl, q⟩))))⟩⟩)))))))

theorem k_lowest (A : Al g) : KnowsP g "lowest" 2 ["numbers"] (fun ds post => ∃ ns : List Int, ds = [dL ns] ∧ (ns.length ≤ 1000 ∧ 0 < gcdL ns ∧ gcdL ns < 2 ^ 9000) ∧ post (.tuple (ns.map fun n => .int (n / (gcdL ns : Int))))) := by
  refine Knows.mkP A.d_lowest sc_lowest (fun ds post h => by obtain ⟨_, rfl, _⟩ := h; rfl) ?_
  rintro ds post ⟨ns, rfl, ⟨h1, h2, h3⟩, q⟩
  refine eb_cons (es_asg 1 rfl (by kernel_rfl) (.inl rfl) (ee_call (k_common_part A) (Nat.le_of_ble_eq_true rfl) (by kernel_rfl) (ea_cons (ee_name 0 rfl (by kernel_rfl) rfl (ea_nil (⟨true, _, rfl, eb_one (es_ret (ee_tupleOf (by kernel_rfl) A.f_tuple ((en_lc [("number", 2)] (by kernel_rfl) (lcq_map ns PyData.int (fun n => .int (n / (gcdL ns : Int))) (ei_list (ee_name 0 rfl (by kernel_rfl) rfl (⟨_, rfl, ⟨?_, ?_, fun x hx => eg_name 2 rfl (by kernel_rfl) (.inr rfl) (by decide) (ee_div (ee_name 2 rfl (by kernel_rfl) rfl (ee_name 1 rfl (by kernel_rfl) rfl (⟨_, _, rfl, rfl, ⟨?_, ?_⟩, ⟨rfl, rfl⟩⟩)))), fun _ _ => ⟨_, rfl, ⟨_, rfl, q⟩⟩⟩⟩))))).frz)))⟩))))))
  · rfl
  · exact h1
  · exact Int.natCast_pos.mpr h2
  · exact h3
theorem low_pair {s n d : Int} (hs : s = 1 ∧ 0 < d ∨ s = -1 ∧ d < 0) : PyData.tuple (([s * n] ++ [s * d]).map fun x => .int (x / (gcdL ([s * n] ++ [s * d]) : Int))) = fr (Rat.divInt n d) := by
  have h : s = 1 ∨ s = -1 := hs.imp (·.1) (·.1)
  obtain ⟨h1, h2⟩ := dv_num (n := n) hs
  rw [gcdL_sg h]
  show PyData.tuple [.int (s * n / _), .int (s * d / _)] = _
  rw [h1, h2]
theorem dec_lt {a b : Int} {k : Bool} (h : decide (a < b) = k) : if k then a < b else ¬ a < b := by
  cases k with
  | true => exact of_decide_eq_true h
  | false => exact of_decide_eq_false h
theorem k_lowest_over (A : Al g) : KnowsP g "lowest_over" 3 ["numbers", "below"] (fun ds post => ∃ n d : Int, ds = [dL [n], .int d] ∧ (d ≠ 0 ∧ Bd 9000 n ∧ Bd 9000 d) ∧ post (fr (Rat.divInt n d))) := by
  refine Knows.mkP A.d_lowest_over sc_lowest_over (fun ds post h => by obtain ⟨_, _, rfl, _⟩ := h; rfl) ?_
  rintro ds post ⟨n, d, rfl, ⟨h1, h2, h3⟩, q⟩
  refine eb_cons (es_asg 2 rfl (by kernel_rfl) (.inl rfl) (ee_if (et_cmp cp_gt (nomark _) (ee_name 1 rfl (by kernel_rfl) rfl (ee_int (⟨_, ⟨_, _, rfl, rfl, rfl⟩, ⟨fun hk => ee_int (eb_one (es_ret (ee_call (k_lowest A) (Nat.le_of_ble_eq_true rfl) (by kernel_rfl) (ea_cons ((en_catL ((en_lc [("number", 3)] (by kernel_rfl) (lcq_map [n] PyData.int (fun x => .int (1 * x)) (ei_list (ee_name 0 rfl (by kernel_rfl) rfl (⟨_, rfl, ⟨?_, ?_, fun x hx => eg_name 3 rfl (by kernel_rfl) (.inr rfl) (by decide) (ee_mul (ee_name 2 rfl (by kernel_rfl) rfl (ee_name 3 rfl (by kernel_rfl) rfl (⟨_, _, rfl, rfl, ⟨?_, ?_⟩, ⟨rfl, rfl⟩⟩)))), fun _ _ => (en_lst (ea_cons (ee_mul (ee_name 2 rfl (by kernel_rfl) rfl (ee_name 1 rfl (by kernel_rfl) rfl (⟨_, _, rfl, rfl, ⟨?_, ?_⟩, ea_nil (⟨Nat.le_of_ble_eq_true rfl, fun _ _ => ⟨_, _, rfl, rfl, ?_, fun _ _ => ea_nil (⟨[1 * n] ++ [1 * d], rfl, ?_, ⟨_, rfl, ?_⟩⟩)⟩⟩)⟩)))))).frz⟩⟩))))).frz)).frz))))), fun hk => ee_neg (ee_int (⟨_, rfl, eb_one (es_ret (ee_call (k_lowest A) (Nat.le_of_ble_eq_true rfl) (by kernel_rfl) (ea_cons ((en_catL ((en_lc [("number", 3)] (by kernel_rfl) (lcq_map [n] PyData.int (fun x => .int ((-1) * x)) (ei_list (ee_name 0 rfl (by kernel_rfl) rfl (⟨_, rfl, ⟨?_, ?_, fun x hx => eg_name 3 rfl (by kernel_rfl) (.inr rfl) (by decide) (ee_mul (ee_name 2 rfl (by kernel_rfl) rfl (ee_name 3 rfl (by kernel_rfl) rfl (⟨_, _, rfl, rfl, ⟨?_, ?_⟩, ⟨rfl, rfl⟩⟩)))), fun _ _ => (en_lst (ea_cons (ee_mul (ee_name 2 rfl (by kernel_rfl) rfl (ee_name 1 rfl (by kernel_rfl) rfl (⟨_, _, rfl, rfl, ⟨?_, ?_⟩, ea_nil (⟨Nat.le_of_ble_eq_true rfl, fun _ _ => ⟨_, _, rfl, rfl, ?_, fun _ _ => ea_nil (⟨[(-1) * n] ++ [(-1) * d], rfl, ?_, ⟨_, rfl, ?_⟩⟩)⟩⟩)⟩)))))).frz⟩⟩))))).frz)).frz))))⟩))⟩⟩))))))
  all_goals (have hk' := dec_lt hk; simp only [if_true, if_false, Bool.false_eq_true] at hk')
  all_goals first
    | rfl
    | decide
    | exact Bd.sml (by omega)
    | exact h3.mono (by decide)
    | (rw [List.mem_singleton.mp hx]; exact h2.mono (by decide))
    | (show _ ≤ 1000; exact Nat.le_of_ble_eq_true rfl)
    | (show post _; rw [low_pair (by omega)]; exact q)
    | (refine ⟨by show 2 ≤ 1000; decide, ?_⟩; rw [gcdL_sg (by omega)]; exact ⟨gcd_pos' h1, gcd_lt h1 h3⟩)
    | skip
theorem k_ratio (A : Al g) : KnowsP g "ratio" 4 ["top", "below"] (fun ds post => ∃ n d : Int, ds = [.int n, .int d] ∧ (d ≠ 0 ∧ Bd 9000 n ∧ Bd 9000 d) ∧ post (fr (Rat.divInt n d))) := by
  refine Knows.mkP A.d_ratio sc_ratio (fun ds post h => by obtain ⟨_, _, rfl, _⟩ := h; rfl) ?_
  rintro ds post ⟨top, below, rfl, h, q⟩
  refine eb_one (es_ret (ee_call (k_lowest_over A) (Nat.le_of_ble_eq_true rfl) (by kernel_rfl) (ea_cons ((en_lst (ea_cons (ee_name 0 rfl (by kernel_rfl) rfl (ea_nil (⟨Nat.le_of_ble_eq_true rfl, fun _ _ => ea_cons (ee_name 1 rfl (by kernel_rfl) rfl (ea_nil (⟨top, below, rfl, h, ⟨_, rfl, q⟩⟩)))⟩))))).frz))))

theorem k_product_sum (A : Al g) : KnowsP g "product_sum" 1 ["row", "other"] (fun ds post => ∃ (b1 b2 : Bool) (ns ms : List Int), ds = [seqB b1 (ns.map .int), seqB b2 (ms.map .int)] ∧ (ns.length ≤ 1000 ∧ (∀ n, n ∈ ns → Bd 400000 n) ∧ ∀ n, n ∈ ms → Bd 400000 n) ∧ post (.int ((ns.zip ms).map fun p => p.1 * p.2).sum)) := by
  refine Knows.mkP A.d_product_sum sc_product_sum (fun ds post h => by obtain ⟨_, _, _, _, rfl, _⟩ := h; rfl) ?_
  rintro ds post ⟨b1, b2, ns, ms, rfl, ⟨h0, h1, h2⟩, q⟩
  refine eb_one (es_ret (ee_callB bc_sum (by kernel_rfl) A.f_sum (by kernel_rfl) (ea_cons ((en_lc [("one", 2), ("two", 3)] (by kernel_rfl) (lcq_map (ns.zip ms) (fun p : Int × Int => PyData.tuple [.int p.1, .int p.2]) (fun p : Int × Int => PyData.int (p.1 * p.2)) (ei_zip (by kernel_rfl) A.f_zip (ea_cons (ee_name 0 rfl (by kernel_rfl) rfl (ea_cons (ee_name 1 rfl (by kernel_rfl) rfl (ea_nil (⟨b1, b2, _, _, rfl, ⟨?_, ?_, fun x hx => eg_tup (egs_cons (eg_name 2 rfl (by kernel_rfl) (.inr rfl) (by decide) (egs_cons (eg_name 3 rfl (by kernel_rfl) (.inr rfl) (by decide) (egs_nil (ee_mul (ee_name 2 rfl (by kernel_rfl) rfl (ee_name 3 rfl (by kernel_rfl) rfl (⟨_, _, rfl, rfl, ⟨?_, ?_⟩, ⟨rfl, rfl⟩⟩))))))))), fun _ _ => ea_nil (⟨_, ⟨(ns.zip ms).map fun p => p.1 * p.2, by rw [List.map_map]; rfl, rfl⟩, ⟨_, rfl, q⟩⟩)⟩⟩))))))))).frz))))
  · exact zipD_map _ _ _ _
  · rw [List.length_zip]; omega
  · exact h1 _ (List.of_mem_zip hx).1
  · exact h2 _ (List.of_mem_zip hx).2
theorem k_minus (A : Al g) : KnowsP g "minus" 5 ["one", "other"] (fun ds post => ∃ a b : Rat, ds = [fr a, fr b] ∧ (Sz 4000 a ∧ Sz 4000 b) ∧ post (fr (a - b))) := by
  refine Knows.mkP A.d_minus sc_minus (fun ds post h => by obtain ⟨_, _, rfl, _⟩ := h; rfl) ?_
  rintro ds post ⟨a, b, rfl, ⟨h1, h2⟩, q⟩
  refine eb_one (es_ret (ee_call (k_ratio A) (Nat.le_of_ble_eq_true rfl) (by kernel_rfl) (ea_cons (ee_sub (ee_mul (ee_ix (ee_name 0 rfl (by kernel_rfl) rfl (ee_int (⟨_, _, _, rfl, rfl, rfl, ee_ix (ee_name 1 rfl (by kernel_rfl) rfl (ee_int (⟨_, _, _, rfl, rfl, rfl, ⟨_, _, rfl, rfl, ⟨?_, ?_⟩, ee_mul (ee_ix (ee_name 1 rfl (by kernel_rfl) rfl (ee_int (⟨_, _, _, rfl, rfl, rfl, ee_ix (ee_name 0 rfl (by kernel_rfl) rfl (ee_int (⟨_, _, _, rfl, rfl, rfl, ⟨_, _, rfl, rfl, ⟨?_, ?_⟩, ⟨_, _, rfl, rfl, ea_cons (ee_mul (ee_ix (ee_name 0 rfl (by kernel_rfl) rfl (ee_int (⟨_, _, _, rfl, rfl, rfl, ee_ix (ee_name 1 rfl (by kernel_rfl) rfl (ee_int (⟨_, _, _, rfl, rfl, rfl, ⟨_, _, rfl, rfl, ⟨?_, ?_⟩, ea_nil (⟨_, _, rfl, ?_, ⟨_, rfl, by rw [dv_sub]; exact q⟩⟩)⟩⟩)))⟩)))))⟩⟩⟩)))⟩))))⟩⟩)))⟩)))))))))
  all_goals first
    | exact h1.n (by decide)
    | exact h2.n (by decide)
    | exact h1.d (by decide)
    | exact h2.d (by decide)
    | exact ⟨den_mul_ne a b, ((h1.n (Nat.le_refl _)).mul (h2.d (Nat.le_refl _)) (Nat.le_refl _)).sub ((h2.n (Nat.le_refl _)).mul (h1.d (Nat.le_refl _)) (Nat.le_refl _)) (by decide), (h1.d (Nat.le_refl _)).mul (h2.d (Nat.le_refl _)) (by decide)⟩
    | exact ⟨den_mul_ne a b, (h1.n (Nat.le_refl _)).mul (h2.n (Nat.le_refl _)) (by decide), (h1.d (Nat.le_refl _)).mul (h2.d (Nat.le_refl _)) (by decide)⟩
theorem k_times (A : Al g) : KnowsP g "times" 5 ["one", "other"] (fun ds post => ∃ a b : Rat, ds = [fr a, fr b] ∧ (Sz 4000 a ∧ Sz 4000 b) ∧ post (fr (a * b))) := by
  refine Knows.mkP A.d_times sc_times (fun ds post h => by obtain ⟨_, _, rfl, _⟩ := h; rfl) ?_
  rintro ds post ⟨a, b, rfl, ⟨h1, h2⟩, q⟩
  refine eb_one (es_ret (ee_call (k_ratio A) (Nat.le_of_ble_eq_true rfl) (by kernel_rfl) (ea_cons (ee_mul (ee_ix (ee_name 0 rfl (by kernel_rfl) rfl (ee_int (⟨_, _, _, rfl, rfl, rfl, ee_ix (ee_name 1 rfl (by kernel_rfl) rfl (ee_int (⟨_, _, _, rfl, rfl, rfl, ⟨_, _, rfl, rfl, ⟨?_, ?_⟩, ea_cons (ee_mul (ee_ix (ee_name 0 rfl (by kernel_rfl) rfl (ee_int (⟨_, _, _, rfl, rfl, rfl, ee_ix (ee_name 1 rfl (by kernel_rfl) rfl (ee_int (⟨_, _, _, rfl, rfl, rfl, ⟨_, _, rfl, rfl, ⟨?_, ?_⟩, ea_nil (⟨_, _, rfl, ?_, ⟨_, rfl, by rw [dv_mul]; exact q⟩⟩)⟩⟩)))⟩)))))⟩⟩)))⟩))))))))
  all_goals first
    | exact h1.n (by decide)
    | exact h2.n (by decide)
    | exact h1.d (by decide)
    | exact h2.d (by decide)
    | exact ⟨den_mul_ne a b, ((h1.n (Nat.le_refl _)).mul (h2.d (Nat.le_refl _)) (Nat.le_refl _)).sub ((h2.n (Nat.le_refl _)).mul (h1.d (Nat.le_refl _)) (Nat.le_refl _)) (by decide), (h1.d (Nat.le_refl _)).mul (h2.d (Nat.le_refl _)) (by decide)⟩
    | exact ⟨den_mul_ne a b, (h1.n (Nat.le_refl _)).mul (h2.n (Nat.le_refl _)) (by decide), (h1.d (Nat.le_refl _)).mul (h2.d (Nat.le_refl _)) (by decide)⟩
theorem k_is_below (A : Al g) : KnowsP g "is_below" 1 ["one", "other"] (fun ds post => ∃ a b : Rat, ds = [fr a, fr b] ∧ (Sz 4000 a ∧ Sz 4000 b) ∧ post (.bool (decide (a < b)))) := by
  refine Knows.mkP A.d_is_below sc_is_below (fun ds post h => by obtain ⟨_, _, rfl, _⟩ := h; rfl) ?_
  rintro ds post ⟨a, b, rfl, ⟨h1, h2⟩, q⟩
  refine eb_one (es_ret (ee_cmp cp_lt (nomark _) (ee_mul (ee_ix (ee_name 0 rfl (by kernel_rfl) rfl (ee_int (⟨_, _, _, rfl, rfl, rfl, ee_ix (ee_name 1 rfl (by kernel_rfl) rfl (ee_int (⟨_, _, _, rfl, rfl, rfl, ⟨_, _, rfl, rfl, ⟨?_, ?_⟩, ee_mul (ee_ix (ee_name 1 rfl (by kernel_rfl) rfl (ee_int (⟨_, _, _, rfl, rfl, rfl, ee_ix (ee_name 0 rfl (by kernel_rfl) rfl (ee_int (⟨_, _, _, rfl, rfl, rfl, ⟨_, _, rfl, rfl, ⟨?_, ?_⟩, ⟨_, ⟨_, _, rfl, rfl, rfl⟩, ⟨_, rfl, by show post (.bool (decide (_ < _))); rw [lt_dec]; exact q⟩⟩⟩⟩)))⟩))))⟩⟩)))⟩)))))))
  all_goals first
    | exact h1.n (by decide)
    | exact h2.n (by decide)
    | exact h1.d (by decide)
    | exact h2.d (by decide)
    | exact ⟨den_mul_ne a b, ((h1.n (Nat.le_refl _)).mul (h2.d (Nat.le_refl _)) (Nat.le_refl _)).sub ((h2.n (Nat.le_refl _)).mul (h1.d (Nat.le_refl _)) (Nat.le_refl _)) (by decide), (h1.d (Nat.le_refl _)).mul (h2.d (Nat.le_refl _)) (by decide)⟩
    | exact ⟨den_mul_ne a b, (h1.n (Nat.le_refl _)).mul (h2.n (Nat.le_refl _)) (by decide), (h1.d (Nat.le_refl _)).mul (h2.d (Nat.le_refl _)) (by decide)⟩
end Sp
namespace Sp
open PySem PySem.Spec PyProof.Rows L2 Ly SV
variable {g : Gc}

theorem k_over_one (A : Al g) : KnowsP g "over_one" 1 ["parts"] (fun ds post => ∃ (b : Bool) (qs : List Rat), ds = [seqB b (qs.map fr)] ∧ (qs.length ≤ 1000 ∧ lcmL qs < 2 ^ 6000 ∧ ∀ q, q ∈ qs → q.num.natAbs < 2 ^ 6000) ∧ post (.tuple [dL (qs.map (ovr (lcmL qs))), .int (lcmL qs : Nat)])) := by
  refine Knows.mkP A.d_over_one sc_over_one (fun ds post h => by obtain ⟨_, _, rfl, _⟩ := h; rfl) ?_
  rintro ds post ⟨b, qs, rfl, ⟨h1, h2, h3⟩, q⟩
  refine eb_cons (es_asg 1 rfl (by kernel_rfl) (.inl rfl) (ee_int (eb_cons (es_for (ei_B b (ee_name 0 rfl (by kernel_rfl) rfl (⟨_, rfl, ⟨fun i en => ∃ s, en = [.dat (seqB b (qs.map fr)), .dat (.int (lcmL (qs.take i) : Nat)), s], ⟨_, rfl⟩, fun i d en2 hd hP => by (obtain ⟨s, rfl⟩ := hP; obtain ⟨n, hn, rfl⟩ := map_get hd; refine eg_name 2 rfl (by kernel_rfl) (.inl rfl) trivial (eb_one (es_asg 1 rfl (by kernel_rfl) (.inl rfl) (ee_callG bc_lcm (by kernel_rfl) A.lcm (ea_cons (ee_name 1 rfl (by kernel_rfl) rfl (ea_cons (ee_ix (ee_name 2 rfl (by kernel_rfl) rfl (ee_int (⟨_, _, _, rfl, rfl, rfl, ea_nil (⟨_, ⟨_, _, rfl, ?_, rfl⟩, ⟨_, by rw [lcmL_take hn]; rfl⟩⟩)⟩)))))))))); exact ⟨Nat.lt_of_le_of_lt (lcmL_le i) h2, Nat.lt_of_le_of_lt (Nat.le_of_dvd (lcmL_pos qs) (lcmL_dvd (List.mem_of_getElem? hn))) h2⟩), fun en2 hP => by (obtain ⟨s, rfl⟩ := hP; rw [List.length_map, List.take_length]; refine eb_one (es_ret (ee_tup (ea_cons ((en_lc [("part", 2)] (by kernel_rfl) (lcq_map qs fr (fun q => .int (ovr (lcmL qs) q)) (ei_B b (ee_name 0 rfl (by kernel_rfl) rfl (⟨_, rfl, ⟨?_, ?_, fun x hx => eg_name 2 rfl (by kernel_rfl) (.inr rfl) (by decide) (ee_mul (ee_ix (ee_name 2 rfl (by kernel_rfl) rfl (ee_int (⟨_, _, _, rfl, rfl, rfl, ee_div (ee_name 1 rfl (by kernel_rfl) rfl (ee_ix (ee_name 2 rfl (by kernel_rfl) rfl (ee_int (⟨_, _, _, rfl, rfl, rfl, ⟨_, _, rfl, rfl, ⟨?_, ?_⟩, ⟨_, _, rfl, rfl, ⟨?_, ?_⟩, ⟨rfl, rfl⟩⟩⟩⟩)))))⟩))))), fun _ _ => ea_cons (ee_name 1 rfl (by kernel_rfl) rfl (ea_nil (⟨Nat.le_of_ble_eq_true rfl, ⟨_, rfl, ?_⟩⟩)))⟩⟩))))).frz)))); (all_goals first | rfl | exact h1 | exact Int.natCast_pos.mpr x.den_pos | exact Nat.lt_of_le_of_lt (Nat.le_of_dvd (lcmL_pos qs) (lcmL_dvd hx)) (Nat.lt_of_lt_of_le h2 (Nat.pow_le_pow_right (by decide) (by decide))) | exact Bd.mono (n := 6000) (h3 x hx) (by decide) | exact Bd.mono (n := 6000) (Nat.lt_of_le_of_lt (Nat.div_le_self _ _) h2) (by decide) | (show post _; unfold dL at q; rw [List.map_map] at q; exact q)))⟩⟩)))))))

theorem k_parts_over (A : Al g) : KnowsP g "parts_over" 5 ["numbers", "below"] (fun ds post => ∃ (ns : List Int) (d : Int), ds = [dL ns, .int d] ∧ (ns.length ≤ 1000 ∧ d ≠ 0 ∧ Bd 9000 d ∧ ∀ n, n ∈ ns → Bd 9000 n) ∧ post (.tuple (ns.map fun n => fr (Rat.divInt n d)))) := by
  refine Knows.mkP A.d_parts_over sc_parts_over (fun ds post h => by obtain ⟨_, _, rfl, _⟩ := h; rfl) ?_
  rintro ds post ⟨ns, d, rfl, ⟨h1, h2, h3, h4⟩, q⟩
  refine eb_one (es_ret (ee_tupleOf (by kernel_rfl) A.f_tuple ((en_lc [("number", 2)] (by kernel_rfl) (lcq_map ns PyData.int (fun n => fr (Rat.divInt n d)) (ei_list (ee_name 0 rfl (by kernel_rfl) rfl (⟨_, rfl, ⟨?_, ?_, fun x hx => eg_name 2 rfl (by kernel_rfl) (.inr rfl) (by decide) (ee_call (k_ratio A) (Nat.le_of_ble_eq_true rfl) (by kernel_rfl) (ea_cons (ee_name 2 rfl (by kernel_rfl) rfl (ea_cons (ee_name 1 rfl (by kernel_rfl) rfl (ea_nil (⟨_, _, rfl, ?_, ⟨rfl, rfl⟩⟩))))))), fun _ _ => ⟨_, rfl, ⟨_, rfl, q⟩⟩⟩⟩))))).frz)))
  · rfl
  · exact h1
  · exact ⟨h2, h4 _ hx, h3⟩
theorem k_is_fraction (A : Al g) : KnowsP g "is_fraction" 2 ["value"] (fun ds post => ∃ a : Rat, ds = [fr a] ∧ post (.bool true)) := by
  refine Knows.mkP A.d_is_fraction sc_is_fraction (fun ds post h => by obtain ⟨_, rfl, _⟩ := h; rfl) ?_
  rintro ds post ⟨a, rfl, q⟩
  refine eb_cons (es_if (et_W (ew_or (et_not (et_val (ee_isi (T := "tuple") (by decide) (by kernel_rfl) A.f_isinstance (by kernel_rfl) A.f_tuple (by kernel_rfl) (ee_name 0 rfl (by kernel_rfl) rfl (⟨_, rfl, ⟨fun z => (by cases z), fun _ => ew_or (et_cmp cp_neI (nomark _) (ee_callB bc_len (by kernel_rfl) A.f_len (by kernel_rfl) (ea_cons (ee_name 0 rfl (by kernel_rfl) rfl (ea_nil (⟨_, ⟨_, _, rfl, rfl, rfl⟩, ee_int (⟨_, ⟨_, _, rfl, rfl, rfl⟩, ⟨fun z => (by cases z), fun _ => ew_or (et_not (et_val (ee_call (k_is_whole A) (Nat.le_of_ble_eq_true rfl) (by kernel_rfl) (ea_cons (ee_ix (ee_name 0 rfl (by kernel_rfl) rfl (ee_int (⟨_, _, _, rfl, rfl, rfl, ea_nil (⟨_, rfl, ⟨_, rfl, ⟨fun z => (by cases z), fun _ => ew_or1 (et_not (et_val (ee_call (k_is_whole A) (Nat.le_of_ble_eq_true rfl) (by kernel_rfl) (ea_cons (ee_ix (ee_name 0 rfl (by kernel_rfl) rfl (ee_int (⟨_, _, _, rfl, rfl, rfl, ea_nil (⟨_, rfl, ⟨_, rfl, ⟨fun z => (by cases z), fun hk => eb_nil (eb_one (es_ret (ee_and (ee_cmp cp_gt (nomark _) (ee_ix (ee_name 0 rfl (by kernel_rfl) rfl (ee_int (⟨_, _, _, rfl, rfl, rfl, ee_int (⟨_, ⟨_, _, rfl, rfl, rfl⟩, ⟨_, rfl, fun _ => ee_one (ee_cmp cp_eqI (nomark _) (ee_call (k_common_part A) (Nat.le_of_ble_eq_true rfl) (by kernel_rfl) (ea_cons (ee_name 0 rfl (by kernel_rfl) rfl (ea_nil (⟨false, [_, _], rfl, ee_int (⟨_, ⟨_, _, rfl, rfl, rfl⟩, ⟨_, rfl, ?_⟩⟩)⟩)))))), fun _ => ?_⟩⟩)⟩))))))))⟩⟩⟩)⟩))))))))⟩⟩⟩)⟩))))))))⟩⟩)⟩))))))⟩⟩))))))))
  · show post (.bool (decide ((gcdL [a.num, ((a.den : Nat) : Int)] : Int) = 1)))
    rw [gcdL_red]
    exact q
  · rename_i z
    exact absurd (Int.natCast_pos.mpr a.den_pos) (of_decide_eq_false z)
end Sp
namespace Sp
open PySem PySem.Spec PyProof.Rows L2 Ly SV
variable {g : Gc}

theorem filter_no {α : Type} (xs : List α) : (xs.filter fun _ => false) = [] := by simp
abbrev tr (v : V3) : PyData := .tuple [fr v.x, fr v.y, fr v.z]
abbrev frs (qs : List Rat) : PyData := .tuple (qs.map fr)
abbrev pinD (p : Pin) : PyData := .tuple [tr p.at_, tr p.al, .tuple [fr p.lo, fr p.hi]]
abbrev linD (p : V3 × V3) : PyData := .tuple [tr p.1, tr p.2]
theorem eqv_int (a b : Int) : PyData.eqv (.int a) (.int b) = decide (a = b) := by
  unfold PyData.eqv
  by_cases h : a = b
  · subst h; simp
  · rw [decide_eq_false h]; simpa using h
theorem eqv_fr (a b : Rat) : PyData.eqv (fr a) (fr b) = decide (a = b) := by
  show ((PyData.eqv (.int a.num) (.int b.num)) && ((PyData.eqv (.int (a.den : Nat)) (.int (b.den : Nat))) && true)) = _
  rw [eqv_int, eqv_int, Bool.and_true, Bool.eq_iff_iff, Bool.and_eq_true, decide_eq_true_iff, decide_eq_true_iff, decide_eq_true_iff]
  constructor
  · rintro ⟨h1, h2⟩
    exact Rat.ext h1 (by exact_mod_cast h2)
  · rintro rfl
    exact ⟨rfl, rfl⟩
theorem eqvAll_map {α : Type} [DecidableEq α] {F : α → PyData} (h : ∀ a b, PyData.eqv (F a) (F b) = decide (a = b)) : ∀ xs ys : List α, PyData.eqvAll (xs.map F) (ys.map F) = decide (xs = ys)
  | [], [] => rfl
  | [], _ :: _ => rfl
  | _ :: _, [] => rfl
  | x :: xs, y :: ys => by
    show (PyData.eqv (F x) (F y) && PyData.eqvAll (xs.map F) (ys.map F)) = _
    rw [h, eqvAll_map h xs ys, Bool.eq_iff_iff, Bool.and_eq_true, decide_eq_true_iff, decide_eq_true_iff, decide_eq_true_iff]
    simp
theorem eqv_tr (a b : V3) : PyData.eqv (tr a) (tr b) = decide (a = b) := by
  show PyData.eqvAll (a.li.map fr) (b.li.map fr) = _
  rw [eqvAll_map eqv_fr, decide_eq_decide]
  constructor
  · intro h
    cases a; cases b
    simp at h
    simp [h]
  · rintro rfl; rfl
theorem eqv_lin (a b : V3 × V3) : PyData.eqv (linD a) (linD b) = decide (a = b) := by
  show ((PyData.eqv (tr a.1) (tr b.1)) && ((PyData.eqv (tr a.2) (tr b.2)) && true)) = _
  rw [eqv_tr, eqv_tr, Bool.and_true, Bool.eq_iff_iff, Bool.and_eq_true, decide_eq_true_iff, decide_eq_true_iff, decide_eq_true_iff, Prod.ext_iff]
theorem atI_map {α : Type} {F : α → PyData} {c : List α} {i : Nat} {d0 : α} (h : i < c.length) : atI (c.map F) ((i : Nat) : Int) = some (F (c.getD i d0)) := by
  unfold atI ixN
  rw [List.length_map, if_pos (by omega), if_pos (by omega)]
  simp [h]
theorem en_get {α : Type} {F : α → PyData} {xs : List α} {i : Nat} {d : PyData} (h : (enumD (xs.map F))[i]? = some d) : ∃ n, xs[i]? = some n ∧ d = .tuple [.int (i : Nat), F n] := by
  have hi : i < xs.length := by
    have := (List.getElem?_eq_some_iff.mp h).1
    rw [enumD_len, List.length_map] at this
    exact this
  refine ⟨xs[i], List.getElem?_eq_getElem hi, ?_⟩
  rw [enumD_get (d := F xs[i]) (by rw [List.getElem?_map, List.getElem?_eq_getElem hi]; rfl)] at h
  exact (Option.some.inj h).symm
theorem nt_eq : dNT = tr V3.zero := rfl
theorem k_are_fractions (A : Al g) : KnowsP g "are_fractions" 3 ["value", "many"] (fun ds post => ∃ qs : List Rat, ds = [frs qs, .int qs.length] ∧ qs.length ≤ 1000 ∧ post (.bool true)) := by
  refine Knows.mkP A.d_are_fractions sc_are_fractions (fun ds post h => by obtain ⟨_, rfl, _⟩ := h; rfl) ?_
  rintro ds post ⟨qs, rfl, h1, q⟩
  refine eb_one (es_ret (ee_and (ee_isi (T := "tuple") (by decide) (by kernel_rfl) A.f_isinstance (by kernel_rfl) A.f_tuple (by kernel_rfl) (ee_name 0 rfl (by kernel_rfl) rfl (⟨_, rfl, fun _ => ee_and (ee_cmp cp_eqI (nomark _) (ee_callB bc_len (by kernel_rfl) A.f_len (by kernel_rfl) (ea_cons (ee_name 0 rfl (by kernel_rfl) rfl (ea_nil (⟨_, ⟨_, _, rfl, rfl, rfl⟩, ee_name 1 rfl (by kernel_rfl) rfl (⟨_, ⟨_, _, rfl, rfl, rfl⟩, ⟨_, rfl, fun hz => ee_one (ee_cmp cp_eqD (nomark _) ((en_lc [("part", 2)] (by kernel_rfl) (lcq_filter qs fr fr (fun _ => false) (ei_tup (ee_name 0 rfl (by kernel_rfl) rfl (⟨_, rfl, ⟨?_, ?_, fun x hx => eg_name 2 rfl (by kernel_rfl) (.inr rfl) (by decide) (et_not (et_val (ee_call (k_is_fraction A) (Nat.le_of_ble_eq_true rfl) (by kernel_rfl) (ea_cons (ee_name 2 rfl (by kernel_rfl) rfl (ea_nil (⟨_, rfl, ⟨_, rfl, ⟨rfl, fun hk => ee_name 2 rfl (by kernel_rfl) rfl (⟨rfl, rfl⟩), fun hk => rfl⟩⟩⟩))))))), fun _ _ => (en_lst (ea_nil (⟨Nat.le_of_ble_eq_true rfl, fun _ _ => ⟨_, ⟨?_, ?_, rfl⟩, ⟨_, rfl, ?_⟩⟩⟩))).frz⟩⟩))))).frz)), fun hz => ?_⟩⟩)⟩)))))), fun z => (by cases z)⟩)))))
  · rfl
  · exact h1
  · have := of_decide_eq_false hz
    rw [List.length_map] at this
    exact absurd rfl this
  · rw [filter_no]; rfl
  · rfl
  · show post (.bool (PyData.eqv (.list ((qs.filter fun _ => false).map fr)) (.list [])))
    rw [filter_no]
    exact q
theorem k_is_triple (A : Al g) : KnowsP g "is_triple" 4 ["value"] (fun ds post => ∃ v : V3, ds = [tr v] ∧ post (.bool true)) := by
  refine Knows.mkP A.d_is_triple sc_is_triple (fun ds post h => by obtain ⟨_, rfl, _⟩ := h; rfl) ?_
  rintro ds post ⟨v, rfl, q⟩
  refine eb_one (es_ret (ee_call (k_are_fractions A) (Nat.le_of_ble_eq_true rfl) (by kernel_rfl) (ea_cons (ee_name 0 rfl (by kernel_rfl) rfl (ea_cons (ee_int (ea_nil (⟨V3.li v, rfl, (by decide : 3 ≤ 1000), ⟨_, rfl, q⟩⟩))))))))

theorem k_is_direction (A : Al g) : KnowsP g "is_direction" 5 ["value"] (fun ds post => ∃ v : V3, ds = [tr v] ∧ v ≠ V3.zero ∧ post (.bool true)) := by
  refine Knows.mkP A.d_is_direction sc_is_direction (fun ds post h => by obtain ⟨_, rfl, _⟩ := h; rfl) ?_
  rintro ds post ⟨v, rfl, h, q⟩
  refine eb_one (es_ret (ee_and (ee_call (k_is_triple A) (Nat.le_of_ble_eq_true rfl) (by kernel_rfl) (ea_cons (ee_name 0 rfl (by kernel_rfl) rfl (ea_nil (⟨_, rfl, ⟨_, rfl, fun _ => ee_one (ee_cmp cp_neD (nomark _) (ee_name 0 rfl (by kernel_rfl) rfl (ee_globD (by kernel_rfl) (A.gl_NOUGHT_TRIPLE).choose_spec.1 (A.gl_NOUGHT_TRIPLE).choose_spec.2 (⟨_, ⟨?_, ?_, rfl⟩, ⟨_, rfl, by rw [nt_eq, eqv_tr, decide_eq_false h]; exact q⟩⟩)))), fun z => (by cases z)⟩⟩)))))))
  all_goals rfl
theorem k_crossed (A : Al g) : KnowsP g "crossed" 6 ["one", "other"] (fun ds post => ∃ p e : V3, ds = [tr p, tr e] ∧ (p.all (Sz 1000) ∧ e.all (Sz 1000)) ∧ post (tr (p.cross e))) := by
  refine Knows.mkP A.d_crossed sc_crossed (fun ds post h => by obtain ⟨_, _, rfl, _⟩ := h; rfl) ?_
  rintro ds post ⟨p, e, rfl, ⟨⟨h1, h2, h3⟩, k1, k2, k3⟩, q⟩
  refine eb_cons (es_asgT (ee_tup (ea_cons (ee_name 0 rfl (by kernel_rfl) rfl (ea_cons (ee_name 1 rfl (by kernel_rfl) rfl (ea_nil (⟨Nat.le_of_ble_eq_true rfl, eg_tup (egs_cons (eg_tup (egs_cons (eg_name 2 rfl (by kernel_rfl) (.inl rfl) trivial (egs_cons (eg_name 3 rfl (by kernel_rfl) (.inl rfl) trivial (egs_cons (eg_name 4 rfl (by kernel_rfl) (.inl rfl) trivial (egs_nil (egs_cons (eg_tup (egs_cons (eg_name 5 rfl (by kernel_rfl) (.inl rfl) trivial (egs_cons (eg_name 6 rfl (by kernel_rfl) (.inl rfl) trivial (egs_cons (eg_name 7 rfl (by kernel_rfl) (.inl rfl) trivial (egs_nil (egs_nil (eb_one (es_ret (ee_tup (ea_cons (ee_call (k_minus A) (Nat.le_of_ble_eq_true rfl) (by kernel_rfl) (ea_cons (ee_call (k_times A) (Nat.le_of_ble_eq_true rfl) (by kernel_rfl) (ea_cons (ee_name 3 rfl (by kernel_rfl) rfl (ea_cons (ee_name 7 rfl (by kernel_rfl) rfl (ea_nil (⟨_, _, rfl, ?_, ea_cons (ee_call (k_times A) (Nat.le_of_ble_eq_true rfl) (by kernel_rfl) (ea_cons (ee_name 4 rfl (by kernel_rfl) rfl (ea_cons (ee_name 6 rfl (by kernel_rfl) rfl (ea_nil (⟨_, _, rfl, ?_, ea_nil (⟨_, _, rfl, ?_, ea_cons (ee_call (k_minus A) (Nat.le_of_ble_eq_true rfl) (by kernel_rfl) (ea_cons (ee_call (k_times A) (Nat.le_of_ble_eq_true rfl) (by kernel_rfl) (ea_cons (ee_name 4 rfl (by kernel_rfl) rfl (ea_cons (ee_name 5 rfl (by kernel_rfl) rfl (ea_nil (⟨_, _, rfl, ?_, ea_cons (ee_call (k_times A) (Nat.le_of_ble_eq_true rfl) (by kernel_rfl) (ea_cons (ee_name 2 rfl (by kernel_rfl) rfl (ea_cons (ee_name 7 rfl (by kernel_rfl) rfl (ea_nil (⟨_, _, rfl, ?_, ea_nil (⟨_, _, rfl, ?_, ea_cons (ee_call (k_minus A) (Nat.le_of_ble_eq_true rfl) (by kernel_rfl) (ea_cons (ee_call (k_times A) (Nat.le_of_ble_eq_true rfl) (by kernel_rfl) (ea_cons (ee_name 2 rfl (by kernel_rfl) rfl (ea_cons (ee_name 6 rfl (by kernel_rfl) rfl (ea_nil (⟨_, _, rfl, ?_, ea_cons (ee_call (k_times A) (Nat.le_of_ble_eq_true rfl) (by kernel_rfl) (ea_cons (ee_name 3 rfl (by kernel_rfl) rfl (ea_cons (ee_name 5 rfl (by kernel_rfl) rfl (ea_nil (⟨_, _, rfl, ?_, ea_nil (⟨_, _, rfl, ?_, ea_nil (⟨Nat.le_of_ble_eq_true rfl, ⟨_, rfl, q⟩⟩)⟩)⟩)))))))⟩)))))))))⟩)⟩)))))))⟩)))))))))⟩)⟩)))))))⟩))))))))))))))))))))))))))))))))⟩))))))))
  all_goals first
    | exact ⟨h1.mono (by decide), k2.mono (by decide)⟩
    | exact ⟨h1.mono (by decide), k3.mono (by decide)⟩
    | exact ⟨h2.mono (by decide), k1.mono (by decide)⟩
    | exact ⟨h2.mono (by decide), k3.mono (by decide)⟩
    | exact ⟨h3.mono (by decide), k1.mono (by decide)⟩
    | exact ⟨h3.mono (by decide), k2.mono (by decide)⟩
    | exact ⟨h2.mul k3 (by decide), h3.mul k2 (by decide)⟩
    | exact ⟨h3.mul k1 (by decide), h1.mul k3 (by decide)⟩
    | exact ⟨h1.mul k2 (by decide), h2.mul k1 (by decide)⟩
theorem k_row_of (A : Al g) : KnowsP g "row_of" 1 ["screw"] (fun ds post => ∃ u v : V3, ds = [.tuple [tr u, tr v]] ∧ post (frs [u.x, u.y, u.z, v.x, v.y, v.z])) := by
  refine Knows.mkP A.d_row_of sc_row_of (fun ds post h => by obtain ⟨_, _, rfl, _⟩ := h; rfl) ?_
  rintro ds post ⟨u, v, rfl, q⟩
  refine eb_one (es_ret (ee_catT (ee_ix (ee_name 0 rfl (by kernel_rfl) rfl (ee_int (⟨_, _, _, rfl, rfl, rfl, ee_ix (ee_name 0 rfl (by kernel_rfl) rfl (ee_int (⟨_, _, _, rfl, rfl, rfl, ⟨_, _, rfl, rfl, ?_, ⟨_, rfl, q⟩⟩⟩)))⟩))))))
  all_goals exact Nat.le_of_ble_eq_true rfl
theorem k_screw_of (A : Al g) : KnowsP g "screw_of" 1 ["row"] (fun ds post => ∃ a b c d e f : Rat, ds = [frs [a, b, c, d, e, f]] ∧ post (.tuple [tr ⟨a, b, c⟩, tr ⟨d, e, f⟩])) := by
  refine Knows.mkP A.d_screw_of sc_screw_of (fun ds post h => by obtain ⟨_, _, _, _, _, _, rfl, _⟩ := h; rfl) ?_
  rintro ds post ⟨a, b, c, d, e, f, rfl, q⟩
  refine eb_one (es_ret (ee_tup (ea_cons (ee_tupleOf (by kernel_rfl) A.f_tuple (ee_sliceT (ee_name 0 rfl (by kernel_rfl) rfl (ee_int (⟨_, rfl, ⟨_, rfl, ⟨_, rfl, ea_cons (ee_tupleOf (by kernel_rfl) A.f_tuple (ee_sliceT (ee_name 0 rfl (by kernel_rfl) rfl (ee_int (⟨_, rfl, ⟨_, rfl, ⟨_, rfl, ea_nil (⟨Nat.le_of_ble_eq_true rfl, ⟨_, rfl, q⟩⟩)⟩⟩⟩)))))⟩⟩⟩))))))))

theorem k_pushed (A : Al g) : KnowsP g "pushed" 7 ["point", "direction"] (fun ds post => ∃ p e : V3, ds = [tr p, tr e] ∧ (p.all (Sz 1000) ∧ e.all (Sz 1000)) ∧ post (.tuple [tr e, tr (p.cross e)])) := by
  refine Knows.mkP A.d_pushed sc_pushed (fun ds post h => by obtain ⟨_, _, rfl, _⟩ := h; rfl) ?_
  rintro ds post ⟨p, e, rfl, h, q⟩
  refine eb_one (es_ret (ee_tup (ea_cons (ee_name 1 rfl (by kernel_rfl) rfl (ea_cons (ee_call (k_crossed A) (Nat.le_of_ble_eq_true rfl) (by kernel_rfl) (ea_cons (ee_name 0 rfl (by kernel_rfl) rfl (ea_cons (ee_name 1 rfl (by kernel_rfl) rfl (ea_nil (⟨_, _, rfl, h, ea_nil (⟨Nat.le_of_ble_eq_true rfl, ⟨_, rfl, q⟩⟩)⟩))))))))))))

end Sp
namespace Sp
open PySem PySem.Spec PyProof.Rows L2 Ly SV
variable {g : Gc}

theorem k_rows_across (A : Al g) : KnowsP g "rows_across" 1 ["columns", "height"] (fun ds post => ∃ (cols : List (List Int)) (h : Nat), ds = [.list (cols.map dL), .int (h : Nat)] ∧ (cols.length ≤ 1000 ∧ h ≤ 1000 ∧ ∀ c, c ∈ cols → c.length = h) ∧ post (.list ((List.range h).map fun i => dL (cols.map fun c => c.getD i 0)))) := by
  refine Knows.mkP A.d_rows_across sc_rows_across (fun ds post h => by obtain ⟨_, _, rfl, _⟩ := h; rfl) ?_
  rintro ds post ⟨cols, h, rfl, ⟨h1, h2, h3⟩, q⟩
  refine eb_one (es_ret ((en_lc [("at", 2)] (by kernel_rfl) (lcq_map (List.range h) (fun i => PyData.int (i : Nat)) (fun i => dL (cols.map fun c => c.getD i 0)) (ei_range1 (by kernel_rfl) A.f_range (ee_name 1 rfl (by kernel_rfl) rfl (⟨_, rfl, ?_, ⟨?_, ?_, fun i hi => eg_name 2 rfl (by kernel_rfl) (.inl (by kernel_rfl)) (by decide) ((en_lc [("column", 3)] (by kernel_rfl) (lcq_map cols dL (fun c => PyData.int (c.getD i 0)) (ei_list (ee_name 0 rfl (by kernel_rfl) rfl (⟨_, rfl, ⟨?_, ?_, fun c hc => eg_name 3 rfl (by kernel_rfl) (.inr rfl) (by decide) (ee_ix (ee_name 3 rfl (by kernel_rfl) rfl (ee_name 2 rfl (by kernel_rfl) rfl (⟨_, _, _, rfl, rfl, ?_, ⟨rfl, rfl⟩⟩)))), fun _ _ => ⟨?_, rfl⟩⟩⟩))))).frz), fun _ _ => ⟨_, rfl, q⟩⟩⟩))))).frz))
  · omega
  · rw [Int.toNat_natCast]; exact rgD_map h
  · rw [List.length_range]; exact h2
  · rfl
  · exact h1
  · show atI (c.map PyData.int) ((i : Nat) : Int) = some (.int (c.getD i 0))
    have hi' : i < c.length := by rw [h3 c hc]; exact List.mem_range.mp hi
    exact atI_map hi'
  · show PyData.list (cols.map fun c => PyData.int (c.getD i 0)) = _
    unfold dL
    rw [List.map_map]
    rfl
theorem k_opposite_parts (A : Al g) : KnowsP g "opposite_parts" 1 ["parts"] (fun ds post => ∃ qs : List Rat, ds = [frs qs] ∧ qs.length ≤ 1000 ∧ post (frs (qs.map fun q => -q))) := by
  refine Knows.mkP A.d_opposite_parts sc_opposite_parts (fun ds post h => by obtain ⟨_, rfl, _⟩ := h; rfl) ?_
  rintro ds post ⟨qs, rfl, h1, q⟩
  refine eb_one (es_ret (ee_tupleOf (by kernel_rfl) A.f_tuple ((en_lc [("part", 1)] (by kernel_rfl) (lcq_map qs fr (fun q => fr (-q)) (ei_tup (ee_name 0 rfl (by kernel_rfl) rfl (⟨_, rfl, ⟨?_, ?_, fun x hx => eg_name 1 rfl (by kernel_rfl) (.inr rfl) (by decide) (ee_tup (ea_cons (ee_neg (ee_ix (ee_name 1 rfl (by kernel_rfl) rfl (ee_int (⟨_, _, _, rfl, rfl, rfl, ⟨_, rfl, ea_cons (ee_ix (ee_name 1 rfl (by kernel_rfl) rfl (ee_int (⟨_, _, _, rfl, rfl, rfl, ea_nil (⟨Nat.le_of_ble_eq_true rfl, ⟨rfl, rfl⟩⟩)⟩))))⟩⟩))))))), fun _ _ => ⟨_, rfl, ⟨_, rfl, by unfold frs at q; rw [List.map_map] at q; exact q⟩⟩⟩⟩))))).frz)))
  · rfl
  · exact h1
theorem k_is_pin (A : Al g) : KnowsP g "is_pin" 6 ["value"] (fun ds post => ∃ p : Pin, ds = [pinD p] ∧ p.ok ∧ post (.bool true)) := by
  refine Knows.mkP A.d_is_pin sc_is_pin (fun ds post h => by obtain ⟨_, rfl, _⟩ := h; rfl) ?_
  rintro ds post ⟨p, rfl, h, q⟩
  refine eb_cons (es_if (et_W (ew_or (et_not (et_val (ee_isi (T := "tuple") (by decide) (by kernel_rfl) A.f_isinstance (by kernel_rfl) A.f_tuple (by kernel_rfl) (ee_name 0 rfl (by kernel_rfl) rfl (⟨_, rfl, ⟨fun z => (by cases z), fun _ => ew_or (et_cmp cp_neI (nomark _) (ee_callB bc_len (by kernel_rfl) A.f_len (by kernel_rfl) (ea_cons (ee_name 0 rfl (by kernel_rfl) rfl (ea_nil (⟨_, ⟨_, _, rfl, rfl, rfl⟩, ee_int (⟨_, ⟨_, _, rfl, rfl, rfl⟩, ⟨fun z => (by cases z), fun _ => ew_or (et_not (et_val (ee_call (k_is_triple A) (Nat.le_of_ble_eq_true rfl) (by kernel_rfl) (ea_cons (ee_ix (ee_name 0 rfl (by kernel_rfl) rfl (ee_int (⟨_, _, _, rfl, rfl, rfl, ea_nil (⟨_, rfl, ⟨_, rfl, ⟨fun z => (by cases z), fun _ => ew_or1 (et_not (et_val (ee_call (k_is_direction A) (Nat.le_of_ble_eq_true rfl) (by kernel_rfl) (ea_cons (ee_ix (ee_name 0 rfl (by kernel_rfl) rfl (ee_int (⟨_, _, _, rfl, rfl, rfl, ea_nil (⟨_, rfl, h.al, ⟨_, rfl, ⟨fun z => (by cases z), fun hk => eb_nil (eb_cons (es_asg 1 rfl (by kernel_rfl) (.inl rfl) (ee_ix (ee_name 0 rfl (by kernel_rfl) rfl (ee_int (⟨_, _, _, rfl, rfl, rfl, eb_cons (es_if (et_W (ew_or (et_not (et_val (ee_isi (T := "tuple") (by decide) (by kernel_rfl) A.f_isinstance (by kernel_rfl) A.f_tuple (by kernel_rfl) (ee_name 1 rfl (by kernel_rfl) rfl (⟨_, rfl, ⟨fun z => (by cases z), fun _ => ew_or (et_cmp cp_neI (nomark _) (ee_callB bc_len (by kernel_rfl) A.f_len (by kernel_rfl) (ea_cons (ee_name 1 rfl (by kernel_rfl) rfl (ea_nil (⟨_, ⟨_, _, rfl, rfl, rfl⟩, ee_int (⟨_, ⟨_, _, rfl, rfl, rfl⟩, ⟨fun z => (by cases z), fun _ => ew_or1 (et_cmp cp_neD (nomark _) ((en_lc [("part", 2)] (by kernel_rfl) (lcq_filter [p.lo, p.hi] fr fr (fun _ => false) (ei_tup (ee_name 1 rfl (by kernel_rfl) rfl (⟨_, rfl, ⟨?_, ?_, fun x hx => eg_name 2 rfl (by kernel_rfl) (.inr rfl) (by decide) (et_not (et_val (ee_call (k_is_fraction A) (Nat.le_of_ble_eq_true rfl) (by kernel_rfl) (ea_cons (ee_name 2 rfl (by kernel_rfl) rfl (ea_nil (⟨_, rfl, ⟨_, rfl, ⟨rfl, fun hk => ee_name 2 rfl (by kernel_rfl) rfl (⟨rfl, rfl⟩), fun hk => rfl⟩⟩⟩))))))), fun _ _ => (en_lst (ea_nil (⟨Nat.le_of_ble_eq_true rfl, fun _ _ => ⟨_, ⟨?_, ?_, rfl⟩, ⟨fun z => (by cases z), fun hk => eb_nil (eb_one (es_ret (ee_not (ee_call (k_is_below A) (Nat.le_of_ble_eq_true rfl) (by kernel_rfl) (ea_cons (ee_ix (ee_name 1 rfl (by kernel_rfl) rfl (ee_int (⟨_, _, _, rfl, rfl, rfl, ea_cons (ee_ix (ee_name 1 rfl (by kernel_rfl) rfl (ee_int (⟨_, _, _, rfl, rfl, rfl, ea_nil (⟨_, _, rfl, ⟨h.sh, h.sl⟩, ⟨_, rfl, ⟨_, rfl, ?_⟩⟩⟩)⟩))))⟩)))))))))⟩⟩⟩))).frz⟩⟩))))).frz))⟩⟩)⟩))))))⟩⟩))))))))⟩))))))⟩⟩⟩)⟩))))))))⟩⟩⟩)⟩))))))))⟩⟩)⟩))))))⟩⟩))))))))
  all_goals first
    | rfl
    | exact Nat.le_of_ble_eq_true rfl
    | (show post (.bool (!decide (p.hi < p.lo))); rw [decide_eq_false (Rat.not_lt.mpr h.le)]; exact q)
theorem k_wrong_pin (A : Al g) : KnowsP g "wrong_pin" 7 ["value"] (fun ds post => ∃ ps : List Pin, ds = [.tuple (ps.map pinD)] ∧ (0 < ps.length ∧ ps.length ≤ 12 ∧ ∀ p, p ∈ ps → p.ok) ∧ post .none) := by
  refine Knows.mkP A.d_wrong_pin sc_wrong_pin (fun ds post h => by obtain ⟨_, rfl, _⟩ := h; rfl) ?_
  rintro ds post ⟨ps, rfl, ⟨h0, h1, h2⟩, q⟩
  refine eb_cons (es_if (et_W (ew_or (et_not (et_val (ee_isi (T := "tuple") (by decide) (by kernel_rfl) A.f_isinstance (by kernel_rfl) A.f_tuple (by kernel_rfl) (ee_name 0 rfl (by kernel_rfl) rfl (⟨_, rfl, ⟨fun z => (by cases z), fun _ => ew_or1 (et_cmp cp_eqI (nomark _) (ee_callB bc_len (by kernel_rfl) A.f_len (by kernel_rfl) (ea_cons (ee_name 0 rfl (by kernel_rfl) rfl (ea_nil (⟨_, ⟨_, _, rfl, rfl, rfl⟩, ee_int (⟨_, ⟨_, _, rfl, rfl, rfl⟩, ⟨fun hk => eb_one (es_ret (ee_tup (ea_cons (ee_none (ea_nil (⟨Nat.le_of_ble_eq_true rfl, ⟨_, rfl, ?_⟩⟩)))))), fun hk => eb_nil (eb_cons (es_for (ei_enum (by kernel_rfl) A.f_enumerate (ee_name 0 rfl (by kernel_rfl) rfl (⟨false, _, rfl, ⟨fun i en => ∃ s t, en = [.dat (.tuple (ps.map pinD)), s, t], ⟨_, _, rfl⟩, fun i d en2 hd hP => by (obtain ⟨s, t, rfl⟩ := hP; obtain ⟨n, hn, rfl⟩ := en_get hd; refine eg_tup (egs_cons (eg_name 1 rfl (by kernel_rfl) (.inl rfl) trivial (egs_cons (eg_name 2 rfl (by kernel_rfl) (.inl rfl) trivial (egs_nil (eb_one (es_if (et_W (ew_or (et_cmp cp_ge (nomark _) (ee_name 1 rfl (by kernel_rfl) rfl (ee_globI (by kernel_rfl) A.most.choose_spec (⟨_, ⟨_, _, rfl, rfl, rfl⟩, ⟨fun hz => ⟨fun hk => eb_one (es_ret (ee_tup (ea_cons (ee_name 1 rfl (by kernel_rfl) rfl (ea_nil (⟨Nat.le_of_ble_eq_true rfl, ⟨_, rfl, ?_⟩⟩)))))), fun hk => eb_nil (⟨_, _, rfl⟩)⟩, fun hz => ew_or1 (et_not (et_val (ee_call (k_is_pin A) (Nat.le_of_ble_eq_true rfl) (by kernel_rfl) (ea_cons (ee_name 2 rfl (by kernel_rfl) rfl (ea_nil (⟨_, rfl, h2 _ (List.mem_of_getElem? hn), ⟨_, rfl, ⟨fun hk => eb_one (es_ret (ee_tup (ea_cons (ee_name 1 rfl (by kernel_rfl) rfl (ea_nil (⟨Nat.le_of_ble_eq_true rfl, ⟨_, rfl, ?_⟩⟩)))))), fun hk => eb_nil (⟨_, _, rfl⟩)⟩⟩⟩)))))))⟩⟩))))))))))))); (all_goals first | (cases hk; done) | exact absurd (of_decide_eq_true hz) (by have := (List.getElem?_eq_some_iff.mp hn).1; omega))), fun en2 hP => by (obtain ⟨s, t, rfl⟩ := hP; exact eb_one (es_ret (ee_none (⟨_, rfl, q⟩))))⟩⟩)))))⟩⟩)⟩))))))⟩⟩))))))))
  have := of_decide_eq_true hk
  rw [List.length_map] at this
  omega
theorem k_check_gauge (A : Al g) : KnowsP g "check_gauge" 8 ["value"] (fun ds post => ∃ ps : List Pin, ds = [.tuple (ps.map pinD)] ∧ (0 < ps.length ∧ ps.length ≤ 12 ∧ ∀ p, p ∈ ps → p.ok) ∧ post .none) := by
  refine Knows.mkP A.d_check_gauge sc_check_gauge (fun ds post h => by obtain ⟨_, rfl, _⟩ := h; rfl) ?_
  rintro ds post ⟨ps, rfl, h, q⟩
  refine eb_cons (es_asg 1 rfl (by kernel_rfl) (.inl rfl) (ee_call (k_wrong_pin A) (Nat.le_of_ble_eq_true rfl) (by kernel_rfl) (ea_cons (ee_name 0 rfl (by kernel_rfl) rfl (ea_nil (⟨_, rfl, h, eb_one (es_if (et_cmp cp_notN (nomark _) (ee_name 1 rfl (by kernel_rfl) rfl (ee_none (⟨_, ⟨rfl, rfl⟩, ⟨fun z => (by cases z), fun hk => eb_nil (?_)⟩⟩)))))⟩))))))
  exact q
theorem k_is_mark (A : Al g) : KnowsP g "is_mark" 6 ["value"] (fun ds post => ∃ u v : V3, ds = [linD (u, v)] ∧ v ≠ V3.zero ∧ post (.bool true)) := by
  refine Knows.mkP A.d_is_mark sc_is_mark (fun ds post h => by obtain ⟨_, _, rfl, _⟩ := h; rfl) ?_
  rintro ds post ⟨u, v, rfl, h, q⟩
  refine eb_one (es_ret (ee_and (ee_isi (T := "tuple") (by decide) (by kernel_rfl) A.f_isinstance (by kernel_rfl) A.f_tuple (by kernel_rfl) (ee_name 0 rfl (by kernel_rfl) rfl (⟨_, rfl, fun _ => ee_and (ee_cmp cp_eqI (nomark _) (ee_callB bc_len (by kernel_rfl) A.f_len (by kernel_rfl) (ea_cons (ee_name 0 rfl (by kernel_rfl) rfl (ea_nil (⟨_, ⟨_, _, rfl, rfl, rfl⟩, ee_int (⟨_, ⟨_, _, rfl, rfl, rfl⟩, ⟨_, rfl, fun _ => ee_and (ee_call (k_is_triple A) (Nat.le_of_ble_eq_true rfl) (by kernel_rfl) (ea_cons (ee_ix (ee_name 0 rfl (by kernel_rfl) rfl (ee_int (⟨_, _, _, rfl, rfl, rfl, ea_nil (⟨_, rfl, ⟨_, rfl, fun _ => ee_one (ee_call (k_is_direction A) (Nat.le_of_ble_eq_true rfl) (by kernel_rfl) (ea_cons (ee_ix (ee_name 0 rfl (by kernel_rfl) rfl (ee_int (⟨_, _, _, rfl, rfl, rfl, ea_nil (⟨_, rfl, h, ⟨_, rfl, q⟩⟩)⟩)))))), fun z => (by cases z)⟩⟩)⟩)))))), fun z => (by cases z)⟩⟩)⟩)))))), fun z => (by cases z)⟩)))))

theorem k_check_marked (A : Al g) : KnowsP g "check_marked" 9 ["gauge", "mark"] (fun ds post => ∃ (ps : List Pin) (u v : V3), ds = [.tuple (ps.map pinD), linD (u, v)] ∧ (0 < ps.length ∧ ps.length ≤ 12 ∧ ∀ p, p ∈ ps → p.ok) ∧ v ≠ V3.zero ∧ post .none) := by
  refine Knows.mkP A.d_check_marked sc_check_marked (fun ds post h => by obtain ⟨_, _, _, rfl, _⟩ := h; rfl) ?_
  rintro ds post ⟨ps, u, v, rfl, h, hv, q⟩
  refine eb_cons (es_expr (ee_call (k_check_gauge A) (Nat.le_of_ble_eq_true rfl) (by kernel_rfl) (ea_cons (ee_name 0 rfl (by kernel_rfl) rfl (ea_nil (⟨_, rfl, h, eb_one (es_if (et_not (et_val (ee_call (k_is_mark A) (Nat.le_of_ble_eq_true rfl) (by kernel_rfl) (ea_cons (ee_name 1 rfl (by kernel_rfl) rfl (ea_nil (⟨_, _, rfl, hv, ⟨_, rfl, ⟨fun z => (by cases z), fun hk => eb_nil (?_)⟩⟩⟩))))))))⟩))))))
  exact q
theorem k_pin_rows (A : Al g) : KnowsP g "pin_rows" 8 ["gauge"] (fun ds post => ∃ ps : List Pin, ds = [.tuple (ps.map pinD)] ∧ (ps.length ≤ 12 ∧ ∀ p, p ∈ ps → p.ok) ∧ post (.list (ps.map fun p => frs p.row))) := by
  refine Knows.mkP A.d_pin_rows sc_pin_rows (fun ds post h => by obtain ⟨_, rfl, _⟩ := h; rfl) ?_
  rintro ds post ⟨ps, rfl, ⟨h1, h⟩, q⟩
  refine eb_one (es_ret ((en_lc [("pin", 1)] (by kernel_rfl) (lcq_map ps pinD (fun p => frs p.row) (ei_tup (ee_name 0 rfl (by kernel_rfl) rfl (⟨_, rfl, ⟨?_, ?_, fun p hp => eg_name 1 rfl (by kernel_rfl) (.inr rfl) (by decide) (ee_call (k_row_of A) (Nat.le_of_ble_eq_true rfl) (by kernel_rfl) (ea_cons (ee_call (k_pushed A) (Nat.le_of_ble_eq_true rfl) (by kernel_rfl) (ea_cons (ee_ix (ee_name 1 rfl (by kernel_rfl) rfl (ee_int (⟨_, _, _, rfl, rfl, rfl, ea_cons (ee_ix (ee_name 1 rfl (by kernel_rfl) rfl (ee_int (⟨_, _, _, rfl, rfl, rfl, ea_nil (⟨_, _, rfl, ⟨(h p hp).sa, (h p hp).se⟩, ea_nil (⟨_, _, rfl, ⟨rfl, rfl⟩⟩)⟩)⟩))))⟩)))))))), fun _ _ => ⟨_, rfl, q⟩⟩⟩))))).frz))
  · rfl
  · omega
theorem k_mark_row (A : Al g) : KnowsP g "mark_row" 8 ["mark"] (fun ds post => ∃ u v : V3, ds = [linD (u, v)] ∧ (u.all (Sz 1000) ∧ v.all (Sz 1000)) ∧ post (frs (row6 u v))) := by
  refine Knows.mkP A.d_mark_row sc_mark_row (fun ds post h => by obtain ⟨_, _, rfl, _⟩ := h; rfl) ?_
  rintro ds post ⟨u, v, rfl, h, q⟩
  refine eb_one (es_ret (ee_call (k_row_of A) (Nat.le_of_ble_eq_true rfl) (by kernel_rfl) (ea_cons (ee_call (k_pushed A) (Nat.le_of_ble_eq_true rfl) (by kernel_rfl) (ea_cons (ee_ix (ee_name 0 rfl (by kernel_rfl) rfl (ee_int (⟨_, _, _, rfl, rfl, rfl, ea_cons (ee_ix (ee_name 0 rfl (by kernel_rfl) rfl (ee_int (⟨_, _, _, rfl, rfl, rfl, ea_nil (⟨_, _, rfl, h, ea_nil (⟨_, _, rfl, ⟨_, rfl, q⟩⟩)⟩)⟩))))⟩)))))))))

theorem k_move_of_row (A : Al g) : KnowsP g "move_of_row" 2 ["parts"] (fun ds post => ∃ a b c d e f : Rat, ds = [frs [a, b, c, d, e, f]] ∧ post (.tuple [tr ⟨d, e, f⟩, tr ⟨a, b, c⟩])) := by
  refine Knows.mkP A.d_move_of_row sc_move_of_row (fun ds post h => by obtain ⟨_, _, _, _, _, _, rfl, _⟩ := h; rfl) ?_
  rintro ds post ⟨a, b, c, d, e, f, rfl, q⟩
  refine eb_one (es_ret (ee_call (k_screw_of A) (Nat.le_of_ble_eq_true rfl) (by kernel_rfl) (ea_cons (ee_catT (ee_tupleOf (by kernel_rfl) A.f_tuple (ee_sliceT (ee_name 0 rfl (by kernel_rfl) rfl (ee_int (⟨_, rfl, ⟨_, rfl, ⟨_, rfl, ee_tupleOf (by kernel_rfl) A.f_tuple (ee_sliceT (ee_name 0 rfl (by kernel_rfl) rfl (ee_int (⟨_, rfl, ⟨_, rfl, ⟨_, rfl, ⟨_, _, rfl, rfl, ?_, ea_nil (⟨_, _, _, _, _, _, rfl, ⟨_, rfl, q⟩⟩)⟩⟩⟩⟩))))⟩⟩⟩)))))))))
  all_goals exact Nat.le_of_ble_eq_true rfl
end Sp
namespace Sp
open PySem PySem.Spec PyProof.Rows L2 Ly SV
variable {g : Gc}

/-- rows and tables by numbers -/
abbrev dR (w : Nat) (v : Nat → Int) : PyData := .list (rg w fun j => PyData.int (v j))
abbrev tab (h w : Nat) (t : Nat → Nat → Int) : List PyData := rg (h + 1) fun i => dR w (t i)
abbrev lds (h : Nat) (L : Nat → Nat) : List PyData := rg h fun i => PyData.int ((L i : Nat) : Int)
theorem rg_len {α : Type} {n : Nat} {F : Nat → α} : (rg n F).length = n := by simp [rg]
theorem rg_get {α : Type} {n i : Nat} {F : Nat → α} (h : i < n) : (rg n F)[i]? = some (F i) := by simp [rg, h]
theorem ixN_nat {n i : Nat} (h : i < n) : ixN n ((i : Nat) : Int) = some i := by
  unfold ixN
  rw [if_pos (by omega), if_pos (by omega)]
  simp
theorem ixN_last {n : Nat} : ixN (n + 1) (-1) = some n := by
  unfold ixN
  rw [if_neg (by omega), if_pos (by omega)]
  congr 1
  omega
theorem atI_rg {F : Nat → PyData} {n i : Nat} (h : i < n) : atI (rg n F) ((i : Nat) : Int) = some (F i) := by
  unfold atI
  rw [rg_len, ixN_nat h]
  exact rg_get h
theorem atI_last {F : Nat → PyData} {n : Nat} : atI (rg (n + 1) F) (-1) = some (F n) := by
  unfold atI
  rw [rg_len, ixN_last]
  exact rg_get (by omega)
theorem rg_set {α : Type} {n i : Nat} {F : Nat → α} {d : α} : (rg n F).set i d = rg n fun j => if j = i then d else F j := by
  apply List.ext_getElem
  · simp [rg]
  · intro k h1 h2
    simp [rg] at h1
    simp only [rg, List.getElem_map, List.getElem_range, List.getElem_set]
    by_cases q : i = k
    · rw [if_pos q, if_pos q.symm]
    · rw [if_neg q, if_neg (Ne.symm q)]
theorem rg_congr {α : Type} {n : Nat} {F G : Nat → α} (h : ∀ j, j < n → F j = G j) : rg n F = rg n G := List.map_congr_left fun j hj => h j (List.mem_range.mp hj)
theorem zip_self {α : Type} : ∀ l : List α, l.zip l = l.map fun x => (x, x)
  | [] => rfl
  | x :: l => by rw [List.zip_cons_cons, zip_self l]; rfl
theorem tab_full {h w : Nat} {F G : Nat → Nat → Int} : (tab h w fun k => if k < h + 1 then F k else G k) = tab h w F := rg_congr fun k hk => by show dR w (if k < h + 1 then F k else G k) = _; rw [if_pos hk]
theorem ixN_tab {h w i : Nat} {t : Nat → Nat → Int} (hi : i < h + 1) : ixN (tab h w t).length ((i : Nat) : Int) = some i := by rw [rg_len, ixN_nat hi]
theorem tab_set {h w i : Nat} {t : Nat → Nat → Int} {v : Nat → Int} : (tab h w t).set i (dR w v) = tab h w fun k => if k = i then v else t k := by
  rw [rg_set]
  exact rg_congr fun k _ => by show _ = dR w (if k = i then v else t k); split <;> rfl
theorem ne_dec {i j : Int} (h : (!decide (i = j)) = true) : i ≠ j := by simpa using h
theorem eq_dec {i j : Nat} (h : (!decide (((i : Nat) : Int) = ((j : Nat) : Int))) = false) : i = j := by simp at h; omega
theorem rg_zip {n : Nat} {F G : Nat → PyData} : zipD (rg n F) (rg n G) = rg n fun j => PyData.tuple [F j, G j] := by
  unfold rg
  rw [zipD_map, zip_self, List.map_map]
  rfl

theorem k_step_at (A : Al g) : KnowsC g "step_at" 1 ["table", "row", "column", "below"] (fun xs ds post => ∃ (h w r col : Nat) (t : Nat → Nat → Int) (d : Int), xs = tab h w t ∧ ds = [.int ((r : Nat) : Int), .int ((col : Nat) : Int), .int d] ∧ (h < 1000 ∧ w ≤ 1000 ∧ r ≤ h ∧ col < w ∧ 0 < d ∧ Bd 9000 d ∧ ∀ i, i ≤ h → ∀ j, j < w → Bd 400000 (t i j)) ∧ post (.int (t r col)) (tab h w (stepT d r col t))) := by
  refine Knows.mkC A.d_step_at sc_step_at (fun xs ds post h => by obtain ⟨_, _, _, _, _, _, _, rfl, _⟩ := h; rfl) ?_
  rintro a xs ds post ⟨h, w, r, col, t, d, rfl, rfl, ⟨h1, h2, h3, h4, h5, h6, h7⟩, q⟩
  refine eb_cons (es_asg 4 rfl (by kernel_rfl) (.inl rfl) (ee_ixC 0 rfl (by kernel_rfl) rfl (ee_name 1 rfl (by kernel_rfl) rfl (⟨_, _, _, rfl, rfl, atI_rg (by omega), eb_cons (es_asg 5 rfl (by kernel_rfl) (.inl rfl) (ee_ix (ee_name 4 rfl (by kernel_rfl) rfl (ee_name 2 rfl (by kernel_rfl) rfl (⟨_, _, _, rfl, rfl, atI_rg h4, eb_cons (es_for (ei_range1 (by kernel_rfl) A.f_range (ee_lenC 0 rfl (by kernel_rfl) rfl (by kernel_rfl) A.f_len (⟨_, rfl, ?_, ⟨fun i en => ∃ t' s6 s7, (∀ k, k < h + 1 → t' k = if k < i then stepT d r col t k else t k) ∧ en = [.cel a (tab h w t'), .dat (.int ((r : Nat) : Int)), .dat (.int ((col : Nat) : Int)), .dat (.int d), .dat (dR w (t r)), .dat (.int (t r col)), s6, s7, .no, .no], ⟨t, _, _, fun k _ => by rw [if_neg (Nat.not_lt_zero k)], rfl⟩, fun i d en2 hd hP => by (obtain ⟨t', s6, s7, ht, rfl⟩ := hP; obtain ⟨hi, rfl⟩ := rgD_at hd; rw [Int.toNat_natCast, rg_len] at hi; have hti : t' i = t i := (by rw [ht i hi, if_neg (by omega)]); refine eg_name 6 rfl (by kernel_rfl) (.inl rfl) trivial (eb_one (es_if (et_cmp cp_neI (nomark _) (ee_name 6 rfl (by kernel_rfl) rfl (ee_name 1 rfl (by kernel_rfl) rfl (⟨_, ⟨_, _, rfl, rfl, rfl⟩, ⟨fun hk => eb_cons (es_asg 7 rfl (by kernel_rfl) (.inl rfl) (ee_ix (ee_ixC 0 rfl (by kernel_rfl) rfl (ee_name 6 rfl (by kernel_rfl) rfl (⟨_, _, _, rfl, rfl, atI_rg hi, ee_name 2 rfl (by kernel_rfl) rfl (⟨_, _, _, rfl, rfl, atI_rg h4, eb_one (es_asgT ((en_lc [("number", 8), ("beside", 9)] (by kernel_rfl) (lcq_map (List.range w) (fun j => PyData.tuple [.int (t' i j), .int (t r j)]) (fun j => PyData.int (stepT d r col t i j)) (ei_zip (by kernel_rfl) A.f_zip (ea_cons (ee_ixC 0 rfl (by kernel_rfl) rfl (ee_name 6 rfl (by kernel_rfl) rfl (⟨_, _, _, rfl, rfl, atI_rg hi, ea_cons (ee_name 4 rfl (by kernel_rfl) rfl (ea_nil (⟨true, true, _, _, rfl, ⟨?_, ?_, fun x hx => eg_tup (egs_cons (eg_name 8 rfl (by kernel_rfl) (.inr rfl) (by decide) (egs_cons (eg_name 9 rfl (by kernel_rfl) (.inr rfl) (by decide) (egs_nil (ee_div (ee_sub (ee_mul (ee_name 8 rfl (by kernel_rfl) rfl (ee_name 5 rfl (by kernel_rfl) rfl (⟨_, _, rfl, rfl, ⟨?_, ?_⟩, ee_mul (ee_name 7 rfl (by kernel_rfl) rfl (ee_name 9 rfl (by kernel_rfl) rfl (⟨_, _, rfl, rfl, ⟨?_, ?_⟩, ⟨_, _, rfl, rfl, ee_name 3 rfl (by kernel_rfl) rfl (⟨_, _, rfl, rfl, ⟨?_, ?_⟩, ⟨?_, rfl⟩⟩)⟩⟩)))⟩))))))))))), fun _ _ => eg_sub 0 rfl (by kernel_rfl) rfl (ee_name 6 rfl (by kernel_rfl) rfl (⟨_, _, _, rfl, rfl, ixN_tab hi, ?_⟩))⟩⟩)))⟩))))))).frz))⟩)⟩))))), fun hk => eb_nil (?_)⟩⟩)))))); all_goals first
    | exact rg_zip
    | exact Nat.le_trans (Nat.le_of_eq (List.length_range)) h2
    | exact h5
    | exact h6
    | exact h7 r h3 col h4
    | exact h7 r h3 x (List.mem_range.mp hx)
    | (rw [hti]; exact h7 i (by omega) x (List.mem_range.mp hx))
    | (rw [hti]; exact h7 i (by omega) col h4)
    | (rw [hti]; unfold stepT; rw [if_neg (by have := ne_dec hk; omega)])
    | (refine ⟨fun k => if k = i then stepT d r col t i else t' k, _, _, fun k hk2 => ?_, (by rw [← tab_set]; rfl)⟩
       show (if k = i then stepT d r col t i else t' k) = _
       by_cases e : k = i
       · rw [if_pos e, if_pos (by omega), e]
       · rw [if_neg e, ht k hk2]; by_cases e2 : k < i
         · rw [if_pos e2, if_pos (by omega)]
         · rw [if_neg e2, if_neg (by omega)])
    | (refine ⟨t', _, _, fun k hk2 => ?_, rfl⟩
       have er : i = r := eq_dec hk
       rw [ht k hk2]
       by_cases e2 : k < i
       · rw [if_pos e2, if_pos (by omega)]
       · rw [if_neg e2]
         by_cases e : k = i
         · rw [if_pos (by omega), e, er]; unfold stepT; funext j; rw [if_pos rfl]
         · rw [if_neg (by omega)])
    | skip), fun en2 hP => by (obtain ⟨t', s6, s7, ht, rfl⟩ := hP; rw [rgD_len, Int.toNat_natCast, rg_len] at ht; have e : tab h w t' = tab h w (stepT d r col t) := rg_congr fun k hk => (by rw [ht k hk, if_pos hk]); exact eb_one (es_ret (ee_name 5 rfl (by kernel_rfl) rfl (⟨_, _, _, rfl, rfl, by rw [e]; exact q⟩))))⟩⟩))))⟩)))))⟩))))
  rw [rg_len]; omega
end Sp
namespace Sp
open PySem PySem.Spec PyProof.Rows L2 Ly SV
variable {g : Gc}

abbrev optD : Option Nat → PyData
  | none => .none
  | some j => .int ((j : Nat) : Int)
theorem enter_some {z : Nat → Int} {i n : Nat} (h : enterF z i = none) (hz : z i < 0) (hn : i < n) : enterF z n = some i := by
  induction n with
  | zero => omega
  | succ n ih =>
    by_cases e : i = n
    · subst e; unfold enterF; rw [h]; simp only [hz, if_true]
    · unfold enterF; rw [ih (by omega)]
theorem enter_none {z : Nat → Int} {i : Nat} (h : enterF z i = none) (hz : ¬ z i < 0) : enterF z (i + 1) = none := by
  unfold enterF; rw [h]; simp only [hz, if_false]
section
variable {t : Nat → Nat → Int} {L : Nat → Nat} {col l i b : Nat}
theorem lv1 (h : ¬ 0 < t i col) : leaveF t L col l (i + 1) = leaveF t L col l i := by
  rw [leaveF, if_neg h]
theorem lv2 (h : 0 < t i col) (e : leaveF t L col l i = none) : leaveF t L col l (i + 1) = some i := by
  rw [leaveF, if_pos h, e]
theorem lv3 (h : 0 < t i col) (e : leaveF t L col l i = some b) (q : t i l * t b col < t b l * t i col ∨ (t i l * t b col = t b l * t i col ∧ L i < L b)) : leaveF t L col l (i + 1) = some i := by
  rw [leaveF, if_pos h, e]; simp only [q, if_true]
theorem lv4 (h : 0 < t i col) (e : leaveF t L col l i = some b) (q : ¬ (t i l * t b col < t b l * t i col ∨ (t i l * t b col = t b l * t i col ∧ L i < L b))) : leaveF t L col l (i + 1) = some b := by
  rw [leaveF, if_pos h, e]; simp only [q, if_false]
theorem lv_lt (e : leaveF t L col l i = some b) : b < i := ((leaveF_ok i).2 b e).1
theorem dle {a b : Int} {k : Bool} (h : decide (a < b) = k) : (k = true ∧ a < b) ∨ (k = false ∧ ¬ a < b) := by
  cases k with
  | true => exact .inl ⟨rfl, of_decide_eq_true h⟩
  | false => exact .inr ⟨rfl, of_decide_eq_false h⟩
end
theorem k_entering (A : Al g) : KnowsP g "entering" 1 ["costs", "many"] (fun ds post => ∃ (w n : Nat) (z : Nat → Int), ds = [dR w z, .int ((n : Nat) : Int)] ∧ (n ≤ w ∧ n ≤ 1000) ∧ post (optD (enterF z n))) := by
  refine Knows.mkP A.d_entering sc_entering (fun ds post h => by obtain ⟨_, _, _, rfl, _⟩ := h; rfl) ?_
  rintro ds post ⟨w, n, z, rfl, ⟨h1, h2⟩, q⟩
  refine eb_cons (es_for (ei_range1 (by kernel_rfl) A.f_range (ee_name 1 rfl (by kernel_rfl) rfl (⟨_, rfl, ?_, ⟨fun i en => enterF z i = none ∧ ∃ s, en = [.dat (dR w z), .dat (.int ((n : Nat) : Int)), s], ⟨rfl, _, rfl⟩, fun i d en2 hd hP => by (obtain ⟨he, s, rfl⟩ := hP; obtain ⟨hi, rfl⟩ := rgD_at hd; rw [Int.toNat_natCast] at hi; exact eg_name 2 rfl (by kernel_rfl) (.inl rfl) trivial (eb_one (es_if (et_cmp cp_lt (nomark _) (ee_ix (ee_name 0 rfl (by kernel_rfl) rfl (ee_name 2 rfl (by kernel_rfl) rfl (⟨_, _, _, rfl, rfl, atI_rg (by omega), ee_int (⟨_, ⟨_, _, rfl, rfl, rfl⟩, ⟨fun hk => eb_one (es_ret (ee_name 2 rfl (by kernel_rfl) rfl (⟨_, rfl, by rw [enter_some he (of_decide_eq_true hk) hi] at q; exact q⟩))), fun hk => eb_nil (⟨enter_none he (of_decide_eq_false hk), _, rfl⟩)⟩⟩)⟩)))))))), fun en2 hP => by (obtain ⟨he, s, rfl⟩ := hP; rw [rgD_len, Int.toNat_natCast] at he; exact eb_one (es_ret (ee_none (⟨_, rfl, by rw [he] at q; exact q⟩))))⟩⟩))))
  omega
theorem k_leaving (A : Al g) : KnowsP g "leaving" 1 ["table", "leaders", "column"] (fun ds post => ∃ (h l col : Nat) (t : Nat → Nat → Int) (L : Nat → Nat), ds = [.list (tab h (l + 1) t), .list (lds h L), .int ((col : Nat) : Int)] ∧ (h < 1000 ∧ l < 1000 ∧ col < l + 1 ∧ ∀ i, i ≤ h → ∀ j, j < l + 1 → Bd 400000 (t i j)) ∧ post (optD (leaveF t L col l h))) := by
  refine Knows.mkP A.d_leaving sc_leaving (fun ds post h => by obtain ⟨_, _, _, _, _, rfl, _⟩ := h; rfl) ?_
  rintro ds post ⟨h, l, col, t, L, rfl, ⟨h1, h2, h3, h7⟩, q⟩
  refine eb_cons (es_asg 3 rfl (by kernel_rfl) (.inl rfl) (ee_none (eb_cons (es_for (ei_range1 (by kernel_rfl) A.f_range (ee_callB bc_len (by kernel_rfl) A.f_len (by kernel_rfl) (ea_cons (ee_name 1 rfl (by kernel_rfl) rfl (ea_nil (⟨_, ⟨_, _, rfl, rfl, rfl⟩, ⟨_, rfl, ?_, ⟨fun i en => ∃ s4 s5 s6 s7, en = [.dat (.list (tab h (l + 1) t)), .dat (.list (lds h L)), .dat (.int ((col : Nat) : Int)), .dat (optD (leaveF t L col l i)), s4, s5, s6, s7], ⟨_, _, _, _, rfl⟩, fun i d en2 hd hP => by (obtain ⟨s4, s5, s6, s7, rfl⟩ := hP; obtain ⟨hi, rfl⟩ := rgD_at hd; rw [Int.toNat_natCast, rg_len] at hi; exact eg_name 4 rfl (by kernel_rfl) (.inl rfl) trivial (eb_cons (es_asg 5 rfl (by kernel_rfl) (.inl rfl) (ee_ix (ee_ix (ee_name 0 rfl (by kernel_rfl) rfl (ee_name 4 rfl (by kernel_rfl) rfl (⟨_, _, _, rfl, rfl, atI_rg (by omega), ee_name 2 rfl (by kernel_rfl) rfl (⟨_, _, _, rfl, rfl, atI_rg h3, eb_one (es_if (et_cmp cp_gt (nomark _) (ee_name 5 rfl (by kernel_rfl) rfl (ee_int (⟨_, ⟨_, _, rfl, rfl, rfl⟩, ⟨fun hp => eb_one ((by
    cases ho : leaveF t L col l i with
    | none =>
      refine es_if (et_cmp cp_isN (nomark _) (ee_name 3 rfl (by kernel_rfl) rfl (ee_none (⟨_, ⟨rfl, rfl⟩, ⟨fun hk => eb_one (es_asg 3 rfl (by kernel_rfl) (.inl rfl) (ee_name 4 rfl (by kernel_rfl) rfl (?_))), fun z => (by cases z)⟩⟩))))
      all_goals first
      | exact h6
      | exact h7 _ (by omega) _ (by omega)
      | (have := lv_lt ho; exact h7 _ (by omega) _ (by omega))
      | exact ⟨_, _, _, _, by rw [lv2 (of_decide_eq_true hp) ho]; rfl⟩
      | (have e := lv3 (of_decide_eq_true hp) ho (.inl (of_decide_eq_true hz1)); exact ⟨_, _, _, _, by rw [e]; rfl⟩)
      | (have e := lv3 (of_decide_eq_true hp) ho (.inr ⟨of_decide_eq_true hz2, by have := of_decide_eq_true hc; omega⟩); exact ⟨_, _, _, _, by rw [e]; rfl⟩)
      | (have e := lv4 (of_decide_eq_true hp) ho (by have h1 := of_decide_eq_false hz1; have h2 := of_decide_eq_false hz2; omega); exact ⟨_, _, _, _, by rw [e]; rfl⟩)
      | (have e := lv4 (of_decide_eq_true hp) ho (by have h1 := of_decide_eq_false hz1; have h2 := of_decide_eq_false hc; omega); exact ⟨_, _, _, _, by rw [e]; rfl⟩)
      | exact absurd hc (by decide)
      | (cases hc; done)
      | skip
    | some b0 =>
      refine es_if (et_cmp cp_isN (nomark _) (ee_name 3 rfl (by kernel_rfl) rfl (ee_none (⟨_, ⟨rfl, rfl⟩, ⟨fun z => (by cases z), fun hk => eb_cons (es_par2 6 7 rfl rfl (by decide) (by kernel_rfl) (by kernel_rfl) (ea_cons (ee_mul (ee_ix (ee_ix (ee_name 0 rfl (by kernel_rfl) rfl (ee_name 4 rfl (by kernel_rfl) rfl (⟨_, _, _, rfl, rfl, atI_rg (by omega), ee_neg (ee_int (⟨_, rfl, ⟨_, _, _, rfl, rfl, atI_last, ee_ix (ee_ix (ee_name 0 rfl (by kernel_rfl) rfl (ee_name 3 rfl (by kernel_rfl) rfl (⟨_, _, _, rfl, rfl, atI_rg (by have := lv_lt ho; omega), ee_name 2 rfl (by kernel_rfl) rfl (⟨_, _, _, rfl, rfl, atI_rg h3, ⟨_, _, rfl, rfl, ⟨?_, ?_⟩, ea_cons (ee_mul (ee_ix (ee_ix (ee_name 0 rfl (by kernel_rfl) rfl (ee_name 3 rfl (by kernel_rfl) rfl (⟨_, _, _, rfl, rfl, atI_rg (by have := lv_lt ho; omega), ee_neg (ee_int (⟨_, rfl, ⟨_, _, _, rfl, rfl, atI_last, ee_name 5 rfl (by kernel_rfl) rfl (⟨_, _, rfl, rfl, ⟨?_, ?_⟩, ea_nil (⟨_, _, rfl, eb_one (es_if (et_W (ew_or (et_cmp cp_lt (nomark _) (ee_name 6 rfl (by kernel_rfl) rfl (ee_name 7 rfl (by kernel_rfl) rfl (⟨_, ⟨_, _, rfl, rfl, rfl⟩, ⟨fun hz1 => ⟨fun hc => eb_one (es_asg 3 rfl (by kernel_rfl) (.inl rfl) (ee_name 4 rfl (by kernel_rfl) rfl (?_))), fun hc => eb_nil (?_)⟩, fun hz1 => ew_or1 (et_W (ew_and (et_cmp cp_eqI (nomark _) (ee_name 6 rfl (by kernel_rfl) rfl (ee_name 7 rfl (by kernel_rfl) rfl (⟨_, ⟨_, _, rfl, rfl, rfl⟩, ⟨fun hz2 => ew_and1 (et_cmp cp_lt (nomark _) (ee_ix (ee_name 1 rfl (by kernel_rfl) rfl (ee_name 4 rfl (by kernel_rfl) rfl (⟨_, _, _, rfl, rfl, atI_rg hi, ee_ix (ee_name 1 rfl (by kernel_rfl) rfl (ee_name 3 rfl (by kernel_rfl) rfl (⟨_, _, _, rfl, rfl, atI_rg (by have := lv_lt ho; omega), ⟨_, ⟨_, _, rfl, rfl, rfl⟩, ⟨fun hc => eb_one (es_asg 3 rfl (by kernel_rfl) (.inl rfl) (ee_name 4 rfl (by kernel_rfl) rfl (?_))), fun hc => eb_nil (?_)⟩⟩⟩)))⟩))))), fun hz2 => ⟨fun hc => eb_one (es_asg 3 rfl (by kernel_rfl) (.inl rfl) (ee_name 4 rfl (by kernel_rfl) rfl (?_))), fun hc => eb_nil (?_)⟩⟩⟩))))))⟩⟩)))))))⟩)⟩)⟩⟩))⟩))))))⟩⟩)⟩))))⟩⟩))⟩))))))))⟩⟩))))
      all_goals first
      | exact h6
      | exact h7 _ (by omega) _ (by omega)
      | (have := lv_lt ho; exact h7 _ (by omega) _ (by omega))
      | exact ⟨_, _, _, _, by rw [lv2 (of_decide_eq_true hp) ho]; rfl⟩
      | (have e := lv3 (of_decide_eq_true hp) ho (.inl (of_decide_eq_true hz1)); exact ⟨_, _, _, _, by rw [e]; rfl⟩)
      | (have e := lv3 (of_decide_eq_true hp) ho (.inr ⟨of_decide_eq_true hz2, by have := of_decide_eq_true hc; omega⟩); exact ⟨_, _, _, _, by rw [e]; rfl⟩)
      | (have e := lv4 (of_decide_eq_true hp) ho (by have h1 := of_decide_eq_false hz1; have h2 := of_decide_eq_false hz2; omega); exact ⟨_, _, _, _, by rw [e]; rfl⟩)
      | (have e := lv4 (of_decide_eq_true hp) ho (by have h1 := of_decide_eq_false hz1; have h2 := of_decide_eq_false hc; omega); exact ⟨_, _, _, _, by rw [e]; rfl⟩)
      | exact absurd hc (by decide)
      | (cases hc; done)
      | skip)), fun hp => eb_nil (⟨_, _, _, _, by rw [lv1 (of_decide_eq_false hp)]; rfl⟩)⟩⟩)))))⟩)⟩)))))))), fun en2 hP => by (obtain ⟨s4, s5, s6, s7, e⟩ := hP; rw [rgD_len, Int.toNat_natCast, rg_len] at e; subst e; exact eb_one (es_ret (ee_name 3 rfl (by kernel_rfl) rfl (⟨_, rfl, q⟩))))⟩⟩⟩))))))))))
  rw [rg_len]; omega
end Sp
namespace Sp
open PySem PySem.Spec PyProof.Rows L2 Ly SV
variable {g : Gc}

theorem lds_set {h i : Nat} {L : Nat → Nat} {v : Nat} : (lds h L).set i (.int ((v : Nat) : Int)) = lds h fun k => if k = i then v else L k := by
  rw [rg_set]
  exact rg_congr fun k _ => by show _ = PyData.int (((if k = i then v else L k : Nat)) : Int); split <;> rfl
theorem ixN_lds {h i : Nat} {L : Nat → Nat} (hi : i < h) : ixN (lds h L).length ((i : Nat) : Int) = some i := by rw [rg_len, ixN_nat hi]
theorem plain_opt (o : Option Nat) : plainD (optD o) = true := by cases o <;> rfl
theorem bd_lift {k : Nat} {i : Int} (h : i.natAbs < 2 ^ 8000) (l : 8000 ≤ k) : Bd k i := Bd.mono (n := 8000) h l
theorem k_descend (A : Al g) : KnowsC2 g "descend" 2 ["table", "leaders", "below", "many"] (fun xs zs ds post => ∃ (h n l m : Nat) (a : Nat → Vec) (c : Nat → Int) (s : SV.St), xs = tab h (l + 1) s.t ∧ zs = lds h s.L ∧ ds = [.int s.d, .int ((n : Nat) : Int)] ∧ (h < 900 ∧ l < 900 ∧ PInv h n l a c s ∧ Szd h l a c 8000 ∧ Ends h n l m s) ∧ ∀ s', Rch h n l s s' → nextS h n l s' = none → post (.tuple [.int s'.d, optD (enterF (s'.t h) n)]) (tab h (l + 1) s'.t) (lds h s'.L)) := by
  refine Knows.mkC2 A.d_descend sc_descend (fun xs zs ds post h => by obtain ⟨_, _, _, _, _, _, _, _, _, rfl, _⟩ := h; rfl) ?_
  rintro a xs b zs ds post ⟨h, n, l, m, va, vc, s, rfl, rfl, rfl, ⟨h1, h2, P, Z, En⟩, q⟩
  refine eb_one (es_while (fun m en => ∃ s' s4 s5, Rch h n l s s' ∧ PInv h n l va vc s' ∧ Ends h n l m s' ∧ en = [.cel a (tab h (l + 1) s'.t), .cel b (lds h s'.L), .dat (.int s'.d), .dat (.int ((n : Nat) : Int)), s4, s5]) m ⟨s, _, _, .refl s, P, En, rfl⟩ ?_)
  rintro m en ⟨s', s4, s5, R, P, En, rfl⟩
  have nl := P.nl
  obtain ⟨dp, db, tb⟩ := Z.bd P
  have tb' : ∀ i, i ≤ h → ∀ j, j < l + 1 → Bd 400000 (s'.t i j) := fun i hi j hj => bd_lift (tb i hi j (by omega)) (by decide)
  refine et_val (ee_bool ⟨_, rfl, fun _ => ?_, fun z => (by cases z)⟩)
  refine eb_cons (es_asg 4 rfl (by kernel_rfl) (.inl rfl) (ee_call (k_entering A) (Nat.le_of_ble_eq_true rfl) (by kernel_rfl) (ea_cons (ee_ixC 0 rfl (by kernel_rfl) rfl (ee_neg (ee_int (⟨_, rfl, ⟨_, _, _, rfl, rfl, atI_last, ea_cons (ee_name 3 rfl (by kernel_rfl) rfl (ea_nil (⟨l + 1, n, _, rfl, ⟨by omega, by omega⟩, ?_⟩)))⟩⟩)))))))
  cases he : enterF (s'.t h) n with
  | none =>
    refine eb_cons (es_if (et_cmp cp_isN (nomark _) (ee_name 4 rfl (by kernel_rfl) rfl (ee_none (⟨_, ⟨rfl, rfl⟩, ⟨fun hk => eb_one (es_ret (ee_tup (ea_cons (ee_name 2 rfl (by kernel_rfl) rfl (ea_cons (ee_none (ea_nil (⟨Nat.le_of_ble_eq_true rfl, ⟨_, _, _, _, rfl, rfl, ?_⟩⟩)))))))), fun z => (by cases z)⟩⟩)))))
    have := q s' R (by unfold nextS; rw [he])
    rw [he] at this
    exact this
  | some c0 =>
    have hc := (enterF_ok.1 c0 he).1
    refine eb_cons (es_if (et_cmp cp_isN (nomark _) (ee_name 4 rfl (by kernel_rfl) rfl (ee_none (⟨_, ⟨rfl, rfl⟩, ⟨fun z => (by cases z), fun hk => eb_nil (?_)⟩⟩)))))
    refine eb_cons (es_asg 5 rfl (by kernel_rfl) (.inl rfl) (ee_lend (ee_call (k_leaving A) (Nat.le_of_ble_eq_true rfl) (by kernel_rfl) (ea_cons (ee_name 0 rfl (by kernel_rfl) rfl (ea_cons (ee_name 1 rfl (by kernel_rfl) rfl (ea_cons (ee_name 4 rfl (by kernel_rfl) rfl (ea_nil ⟨h, l, c0, s'.t, s'.L, rfl, ⟨by omega, by omega, by omega, ?_⟩, rfl, plain_opt _, ?_⟩))))))))))
    · exact tb'
    cases ho : leaveF s'.t s'.L c0 l h with
    | none =>
      refine eb_cons (es_if (et_cmp cp_isN (nomark _) (ee_name 5 rfl (by kernel_rfl) rfl (ee_none (⟨_, ⟨rfl, rfl⟩, ⟨fun hk => eb_one (es_ret (ee_tup (ea_cons (ee_name 2 rfl (by kernel_rfl) rfl (ea_cons (ee_name 4 rfl (by kernel_rfl) rfl (ea_nil (⟨Nat.le_of_ble_eq_true rfl, ⟨_, _, _, _, rfl, rfl, ?_⟩⟩)))))))), fun z => (by cases z)⟩⟩)))))
      have nn : nextS h n l s' = none := by unfold nextS; rw [he]; simp only [ho]
      have := q s' R nn
      rw [he] at this
      exact this
    | some r0 =>
      have hr := (leaveF_ok h).2 r0 ho
      have nx : nextS h n l s' = some (SV.piv s' r0 c0) := by unfold nextS; rw [he]; simp only [ho]
      refine eb_cons (es_if (et_cmp cp_isN (nomark _) (ee_name 5 rfl (by kernel_rfl) rfl (ee_none (⟨_, ⟨rfl, rfl⟩, ⟨fun z => (by cases z), fun hk => eb_nil (?_)⟩⟩)))))
      refine eb_cons (es_asg 2 rfl (by kernel_rfl) (.inl rfl) (ee_callC 0 (k_step_at A) (Nat.le_of_ble_eq_true rfl) (by kernel_rfl) rfl (by kernel_rfl) rfl (ea_cons (ee_name 5 rfl (by kernel_rfl) rfl (ea_cons (ee_name 4 rfl (by kernel_rfl) rfl (ea_cons (ee_name 2 rfl (by kernel_rfl) rfl (ea_nil (⟨_, rfl, ⟨h, l + 1, r0, c0, _, _, rfl, rfl, ⟨by omega, by omega, by omega, by omega, ?_, ?_, ?_⟩, eb_one (es_asgT (ee_name 4 rfl (by kernel_rfl) rfl (eg_sub 1 rfl (by kernel_rfl) rfl (ee_name 5 rfl (by kernel_rfl) rfl (⟨_, _, _, rfl, rfl, ixN_lds hr.1, ?_⟩)))))⟩⟩))))))))))
      · exact dp
      · exact bd_lift db (by decide)
      · exact tb'
      · have En' : ∃ m', m' < m ∧ Ends h n l m' (SV.piv s' r0 c0) := by
          cases m with
          | zero => exact absurd En (by unfold SV.Ends; rw [nx]; simp)
          | succ m =>
            rcases En with z | ⟨s2, z, w⟩
            · rw [nx] at z; cases z
            · rw [nx] at z; cases z; exact ⟨m, by omega, w⟩
        obtain ⟨m', hm, En'⟩ := En'
        refine ⟨m', hm, SV.piv s' r0 c0, .dat (.int ((c0 : Nat) : Int)), .dat (.int ((r0 : Nat) : Int)), ?_, P.next nx, En', ?_⟩
        · exact Rch.snoc R nx
        · show _ = [Sl.cel a (tab h (l + 1) (stepT s'.d r0 c0 s'.t)), Sl.cel b (lds h fun i => if i = r0 then c0 else s'.L i), _, _, _, _]
          rw [← lds_set]
          rfl
end Sp
namespace Sp
open PySem PySem.Spec PyProof.Rows L2 Ly SV
variable {g : Gc}

theorem rg_snoc {α : Type} {n : Nat} {F : Nat → α} : rg (n + 1) F = rg n F ++ [F n] := by
  unfold rg
  rw [List.range_succ, List.map_append]
  rfl
theorem rg_app {α : Type} {n : Nat} {F : Nat → α} : ∀ {m : Nat}, rg (n + m) F = rg n F ++ rg m fun j => F (n + j)
  | 0 => by simp [rg]
  | m + 1 => by rw [show n + (m + 1) = (n + m) + 1 from rfl, rg_snoc, rg_app, rg_snoc, List.append_assoc]
theorem rg_ints {n : Nat} {f : Nat → Int} : rg n (fun j => PyData.int (f j)) = (rg n f).map PyData.int := by unfold rg; rw [List.map_map]; rfl
theorem row_split {h n : Nat} {A : Nat → Nat → Int} {b : Nat → Int} {i : Nat} (hi : i < h) (u : Nat → Int) (hu : ∀ x, x < h → u x = if x = i then 1 else 0) :
    PyData.list ((rg n fun j => PyData.int (sgA b i * A i j)) ++ (rg h fun x => PyData.int (u x)) ++ [PyData.int (sgA b i * b i)]) = dR (n + h + 1) fun j => colF h n A b j i := by
  unfold dR
  rw [rg_snoc, rg_app]
  congr 2
  · congr 1
    · exact rg_congr fun j hj => by unfold colF; dsimp only; rw [if_pos hj]
    · refine rg_congr fun x hx => ?_
      unfold colF
      dsimp only
      rw [if_neg (by omega), if_pos (by omega), hu x hx]
      congr 1
      by_cases e : x = i
      · rw [if_pos e, if_pos (by omega)]
      · rw [if_neg e, if_neg (by omega)]
  · unfold colF
    dsimp only
    rw [if_neg (by omega), if_neg (by omega)]
theorem last_split {h n : Nat} {A : Nat → Nat → Int} {b : Nat → Int} :
    PyData.list ((rg n fun x => PyData.int (-(rg h fun k => colF h n A b x k).sum)) ++ (List.replicate ((h : Nat) : Int).toNat [PyData.int 0]).flatten ++ [PyData.int (-(rg h fun k => colF h n A b (n + h) k).sum)]) = dR (n + h + 1) (t0F h n A b h) := by
  unfold dR
  rw [rg_snoc, rg_app]
  congr 2
  · congr 1
    · refine rg_congr fun j hj => ?_
      unfold t0F; rw [if_pos rfl, if_pos hj, ← sum_rgI]
    · rw [Int.toNat_natCast]
      apply List.ext_getElem
      · simp [rg]
      · intro k h1 h2
        simp [rg] at h1 h2
        simp [rg]
        unfold t0F; rw [if_pos rfl, if_neg (by omega), if_pos (by omega)]
  · unfold t0F; rw [if_pos rfl, if_neg (by omega), if_neg (by omega), ← sum_rgI]
theorem tab_t0 {h n : Nat} {A : Nat → Nat → Int} {b : Nat → Int} : (rg h fun k => dR (n + h + 1) fun j => colF h n A b j k) ++ [dR (n + h + 1) (t0F h n A b h)] = tab h (n + h + 1) (t0F h n A b) := by
  unfold tab
  rw [rg_snoc]
  congr 1
  refine rg_congr fun k hk => ?_
  unfold dR
  congr 1
  exact rg_congr fun j _ => by rw [t0_lt hk]
theorem k_first_table (A : Al g) : KnowsN g "first_table" 1 ["rows", "numbers", "signs", "many"] (fun ds post => ∃ (h n : Nat) (M : Nat → Nat → Int) (b : Nat → Int), ds = [.list (rg h fun i => dR n (M i)), dR h b, dR h (sgA b), .int ((n : Nat) : Int)] ∧ (h ≤ 100 ∧ n ≤ 100 ∧ (∀ i, i < h → ∀ j, j < n → Bd 400000 (M i j)) ∧ ∀ i, i < h → Bd 400000 (b i)) ∧ post (tab h (n + h + 1) (t0F h n M b))) := by
  refine Knows.mkN A.d_first_table sc_first_table (fun ds post h => by obtain ⟨_, _, _, _, rfl, _⟩ := h; rfl) ?_
  rintro ds post ⟨h, n, M, b, rfl, ⟨h1, h2, h3, h4⟩, q⟩
  refine eb_cons (es_asg 4 rfl (by kernel_rfl) (.inl rfl) (ee_callB bc_len (by kernel_rfl) A.f_len (by kernel_rfl) (ea_cons (ee_name 0 rfl (by kernel_rfl) rfl (ea_nil (⟨_, ⟨_, _, rfl, rfl, rfl⟩, eb_cons (es_asgN 5 rfl (by kernel_rfl) (.inl rfl) (en_lst (ea_nil (⟨Nat.le_of_ble_eq_true rfl, fun _ _ => eb_cons (es_for (ei_range1 (by kernel_rfl) A.f_range (ee_name 4 rfl (by kernel_rfl) rfl (⟨_, rfl, ?_, ⟨fun i en => ∃ a s6 s7 s8, en = [.dat (.list (rg h fun i => dR n (M i))), .dat (dR h b), .dat (dR h (sgA b)), .dat (.int ((n : Nat) : Int)), .dat (.int ((h : Nat) : Int)), .cel a (rg i fun k => dR (n + h + 1) fun j => colF h n M b j k), s6, s7, s8, .no, .no, .no, .no], ⟨_, _, _, _, by rw [rg_len]; rfl⟩, fun i d en2 hd hP => by (obtain ⟨a, s6, s7, s8, rfl⟩ := hP; obtain ⟨hi, rfl⟩ := rgD_at hd; rw [Int.toNat_natCast, rg_len] at hi; refine eg_name 6 rfl (by kernel_rfl) (.inl rfl) trivial (eb_cons (es_lc 7 [("at", 10)] (by kernel_rfl) rfl (by kernel_rfl) (lcq_map (List.range h) (fun x => PyData.int ((x : Nat) : Int)) (fun x => PyData.int (if x = i then 1 else 0)) (ei_range1 (by kernel_rfl) A.f_range (ee_name 4 rfl (by kernel_rfl) rfl (⟨_, rfl, ?_, ⟨?_, ?_, fun x hx => eg_name 10 rfl (by kernel_rfl) (.inr rfl) (by decide) (ee_if (et_cmp cp_eqI (nomark _) (ee_name 10 rfl (by kernel_rfl) rfl (ee_name 6 rfl (by kernel_rfl) rfl (⟨_, ⟨_, _, rfl, rfl, rfl⟩, ⟨fun hq => ee_int (⟨?_, rfl⟩), fun hq => ee_int (⟨?_, rfl⟩)⟩⟩))))), fun _ _ => eb_frz 7 rfl (eb_cons (es_lc 8 [("number", 11)] (by kernel_rfl) rfl (by kernel_rfl) (lcq_map (List.range n) (fun j => PyData.int (M i j)) (fun j => PyData.int (sgA b i * M i j)) (ei_list (ee_ix (ee_name 0 rfl (by kernel_rfl) rfl (ee_name 6 rfl (by kernel_rfl) rfl (⟨_, _, _, rfl, rfl, atI_rg hi, ⟨_, rfl, ⟨?_, ?_, fun x hx => eg_name 11 rfl (by kernel_rfl) (.inr rfl) (by decide) (ee_mul (ee_ix (ee_name 2 rfl (by kernel_rfl) rfl (ee_name 6 rfl (by kernel_rfl) rfl (⟨_, _, _, rfl, rfl, atI_rg hi, ee_name 11 rfl (by kernel_rfl) rfl (⟨_, _, rfl, rfl, ⟨?_, ?_⟩, ⟨rfl, rfl⟩⟩)⟩))))), fun _ _ => eb_frz 8 rfl (eb_one (es_append 5 rfl (by kernel_rfl) rfl ((en_catL ((en_catL (ee_name 8 rfl (by kernel_rfl) rfl (ee_name 7 rfl (by kernel_rfl) rfl (⟨_, _, rfl, rfl, ?_, fun _ _ => (en_lst (ea_cons (ee_mul (ee_ix (ee_name 2 rfl (by kernel_rfl) rfl (ee_name 6 rfl (by kernel_rfl) rfl (⟨_, _, _, rfl, rfl, atI_rg hi, ee_ix (ee_name 1 rfl (by kernel_rfl) rfl (ee_name 6 rfl (by kernel_rfl) rfl (⟨_, _, _, rfl, rfl, atI_rg hi, ⟨_, _, rfl, rfl, ⟨?_, ?_⟩, ea_nil (⟨Nat.le_of_ble_eq_true rfl, fun _ _ => ⟨_, _, rfl, rfl, ?_, fun _ _ => ⟨_, rfl, ?_, ⟨a, _, _, _, by rw [rg_snoc, ← row_split hi (fun x => if x = i then 1 else 0) (fun x _ => rfl)]; rfl⟩⟩⟩⟩)⟩⟩)))⟩))))))).frz⟩)))).frz)).frz)))⟩⟩⟩))))))))⟩⟩)))))); all_goals first
    | exact rgD_map _
    | rfl
    | (rw [Int.toNat_natCast]; exact rgD_map _)
    | exact Nat.le_trans (Nat.le_of_eq (List.length_range)) (by omega)
    | (simp only [rg_len]; omega)
    | exact Bd.sml (by unfold sgA; split <;> omega)
    | exact h3 i hi x (List.mem_range.mp hx)
    | exact h4 i hi
    | (have := of_decide_eq_true hq; rw [if_pos (by omega)])
    | (have := of_decide_eq_false hq; rw [if_neg (by omega)])
    | (simp [rg]; omega)
    | skip), fun en2 hP => by (obtain ⟨a, s6, s7, s8, rfl⟩ := hP; rw [rgD_len, Int.toNat_natCast, rg_len]; refine eb_cons (es_lcL 9 [("at", 10)] (by kernel_rfl) rfl (by kernel_rfl) (lcq_map (List.range n) (fun x => PyData.int ((x : Nat) : Int)) (fun x => PyData.int (-(rg h fun k => colF h n M b x k).sum)) (ei_range1 (by kernel_rfl) A.f_range (ee_name 3 rfl (by kernel_rfl) rfl (⟨_, rfl, ?_, ⟨?_, ?_, fun x hx => eg_name 10 rfl (by kernel_rfl) (.inl (by kernel_rfl)) (by decide) (ee_neg (ee_callB bc_sum (by kernel_rfl) A.f_sum (by kernel_rfl) (ea_cons ((en_lc [("line", 12)] (by kernel_rfl) (lcq_map (List.range h) (fun k => dR (n + h + 1) fun j => colF h n M b j k) (fun k => PyData.int (colF h n M b x k)) (ei_list (ee_name 5 rfl (by kernel_rfl) rfl (⟨_, rfl, ⟨?_, ?_, fun k hk => eg_name 12 rfl (by kernel_rfl) (.inr rfl) (by decide) (ee_ix (ee_name 12 rfl (by kernel_rfl) rfl (ee_name 10 rfl (by kernel_rfl) rfl (⟨_, _, _, rfl, rfl, atI_rg (by have := List.mem_range.mp hx; omega), ⟨rfl, rfl⟩⟩)))), fun _ _ => ea_nil (⟨_, ⟨(rg h fun k => colF h n M b x k), congrArg (fun l => [PyData.list l]) rg_ints, rfl⟩, ⟨_, rfl, ⟨rfl, rfl⟩⟩⟩)⟩⟩))))).frz)))), fun _ _ => ⟨rfl, ⟨(rg n fun x => -(rg h fun k => colF h n M b x k).sum), rg_ints⟩, eb_frz 9 rfl (eb_cons (es_append 5 rfl (by kernel_rfl) rfl ((en_catL ((en_catL (ee_name 9 rfl (by kernel_rfl) rfl ((en_rep (en_lst (ea_cons (ee_int (ea_nil (⟨Nat.le_of_ble_eq_true rfl, fun _ _ => ee_name 4 rfl (by kernel_rfl) rfl (⟨_, rfl, ?_, fun _ _ => ⟨_, _, rfl, rfl, ?_, fun _ _ => (en_lst (ea_cons (ee_neg (ee_lend (ee_callB bc_sum (by kernel_rfl) A.f_sum (by kernel_rfl) (ea_cons ((en_lc [("line", 12)] (by kernel_rfl) (lcq_map (List.range h) (fun k => dR (n + h + 1) fun j => colF h n M b j k) (fun k => PyData.int (colF h n M b (n + h) k)) (ei_list (ee_name 5 rfl (by kernel_rfl) rfl (⟨_, rfl, ⟨?_, ?_, fun k hk => eg_name 12 rfl (by kernel_rfl) (.inr rfl) (by decide) (ee_ix (ee_name 12 rfl (by kernel_rfl) rfl (ee_neg (ee_int (⟨_, rfl, ⟨_, _, _, rfl, rfl, atI_last, ⟨rfl, rfl⟩⟩⟩))))), fun _ _ => ea_nil (⟨_, ⟨(rg h fun k => colF h n M b (n + h) k), congrArg (fun l => [PyData.list l]) rg_ints, rfl⟩, ⟨rfl, rfl, ⟨_, rfl, ea_nil (⟨Nat.le_of_ble_eq_true rfl, fun _ _ => ⟨_, _, rfl, rfl, ?_, fun _ _ => ⟨_, rfl, ?_, eb_one (es_retC 5 rfl (by kernel_rfl) rfl (⟨_, _, rfl, by rw [← tab_t0, ← last_split] at q; exact q⟩))⟩⟩⟩)⟩⟩⟩)⟩⟩))))).frz))))))).frz⟩⟩)⟩)))))).frz))).frz)).frz)))⟩⟩⟩))))); all_goals first
    | exact rgD_map _
    | rfl
    | (rw [Int.toNat_natCast]; exact rgD_map _)
    | exact Nat.le_trans (Nat.le_of_eq (List.length_range)) (by omega)
    | (simp only [rg_len]; omega)
    | (simp [rg]; omega)
    | omega
    | skip)⟩⟩))))⟩))))⟩))))))
  rw [rg_len]; omega
end Sp
namespace Sp
open PySem PySem.Spec PyProof.Rows L2 Ly SV
variable {g : Gc}

theorem atI_cons0 {x : PyData} {xs : List PyData} : atI (x :: xs) 0 = some x := by
  unfold atI ixN
  rw [if_pos (by omega), if_pos (by simp)]
  rfl
abbrev ttF (i col : Nat) (t : Nat → Nat → Int) : Nat → Nat → Int := if t i col < 0 then negT i t else t
theorem tt_bd {k i col : Nat} {t : Nat → Nat → Int} {h w : Nat} (hi : i ≤ h) (tb : ∀ i, i ≤ h → ∀ j, j < w → Bd k (t i j)) : ∀ x, x ≤ h → ∀ j, j < w → Bd k (ttF i col t x j) := fun x hx j hj => by
  unfold ttF
  split
  · unfold negT
    split
    · unfold Bd; rw [Int.natAbs_neg]; exact tb i hi j hj
    · exact tb x hx j hj
  · exact tb x hx j hj
theorem tab_neg {h w i col : Nat} {t : Nat → Nat → Int} (hs : t i col < 0) : (tab h w t).set i (PyData.list ((List.range w).map fun j => PyData.int (-t i j))) = tab h w (ttF i col t) := by
  show (tab h w t).set i (dR w fun j => -t i j) = _
  rw [tab_set]
  unfold ttF
  rw [if_pos hs]
  refine rg_congr fun k _ => ?_
  unfold dR
  congr 1
  refine rg_congr fun j _ => ?_
  unfold negT
  by_cases e : k = i
  · simp only [e, if_true]
  · simp only [e, if_false]
theorem tab_nneg {h w i col : Nat} {t : Nat → Nat → Int} (hs : ¬ t i col < 0) : tab h w t = tab h w (ttF i col t) := by
  unfold ttF
  rw [if_neg hs]
theorem ne_flip (a : Int) : (!decide (a = 0)) = decide (a ≠ 0) := by simp
theorem lay_ints {α : Type} {f : α → Int} : ∀ (xs : List α), PyData.canLayAll0 (xs.map fun x => PyData.int (f x)) = true
  | [] => rfl
  | x :: xs => by
    show (PyData.canLay0 (PyData.int (f x)) && PyData.canLayAll0 (xs.map fun x => PyData.int (f x))) = true
    rw [lay_ints xs]
    rfl
theorem depth_ints {α : Type} {f : α → Int} : ∀ (xs : List α), PyData.depthAll (xs.map fun x => PyData.int (f x)) = 0
  | [] => rfl
  | x :: xs => by
    show max (PyData.depth (PyData.int (f x))) (PyData.depthAll (xs.map fun x => PyData.int (f x))) = 0
    rw [depth_ints xs]
    rfl
theorem shaped_ints {α : Type} {f : α → Int} (xs : List α) : SeqAt.shaped (PyData.list (xs.map fun x => PyData.int (f x))) = true := by
  show (PyData.canLayAll0 (xs.map fun x => PyData.int (f x)) && decide (PyData.depthAll (xs.map fun x => PyData.int (f x)) + 1 ≤ 64)) = true
  rw [lay_ints, depth_ints]
  rfl
theorem ho_no {n p : Nat} {s : SV.St} (h : ¬ n ≤ s.L p) : hoF n p s = s := by unfold hoF; rw [if_neg h]
theorem ho_nil {n p : Nat} {s : SV.St} (h : n ≤ s.L p) (e : nzF n (s.t p) = []) : hoF n p s = s := by unfold hoF; rw [if_pos h, e]
theorem ho_cons {n p col : Nat} {r : List Nat} {s : SV.St} (h : n ≤ s.L p) (e : nzF n (s.t p) = col :: r) : hoF n p s = SV.piv ⟨ttF p col s.t, s.L, s.d⟩ p col := by unfold hoF; rw [if_pos h, e]
theorem k_helpers_out (A : Al g) : KnowsC2 g "helpers_out" 2 ["table", "leaders", "below", "many"] (fun xs zs ds post => ∃ (h n l : Nat) (a : Nat → Vec) (c : Nat → Int) (s : SV.St), xs = tab h (l + 1) s.t ∧ zs = lds h s.L ∧ ds = [.int s.d, .int ((n : Nat) : Int)] ∧ (h < 900 ∧ l < 900 ∧ PInv h n l a c s ∧ HZ h n l s ∧ Szd h l a c 8000) ∧ post (.int (hoN n s h).d) (tab h (l + 1) (hoN n s h).t) (lds h (hoN n s h).L)) := by
  refine Knows.mkC2 A.d_helpers_out sc_helpers_out (fun xs zs ds post h => by obtain ⟨_, _, _, _, _, _, _, _, rfl, _⟩ := h; rfl) ?_
  rintro a xs b zs ds post ⟨h, n, l, va, vc, s, rfl, rfl, rfl, ⟨h1, h2, P, Z, Zd⟩, q⟩
  have nl := P.nl
  refine eb_cons (es_for (ei_range1 (by kernel_rfl) A.f_range (ee_lenC 1 rfl (by kernel_rfl) rfl (by kernel_rfl) A.f_len (⟨_, rfl, ?_, ⟨fun i en => ∃ s4 s5, en = [.cel a (tab h (l + 1) (hoN n s i).t), .cel b (lds h (hoN n s i).L), .dat (.int (hoN n s i).d), .dat (.int ((n : Nat) : Int)), s4, s5, .no, .no], ⟨_, _, rfl⟩, fun i d en2 hd hP => by (
 obtain ⟨s4, s5, rfl⟩ := hP; obtain ⟨hi, rfl⟩ := rgD_at hd; rw [Int.toNat_natCast, rg_len] at hi; obtain ⟨P', Z', _⟩ := hoN_ok P Z i (by omega); obtain ⟨dp, db0, tb0⟩ := Zd.bd P'; have hE : hoN n s (i + 1) = hoF n i (hoN n s i) := rfl; generalize hoN n s i = s' at *; have tb' : ∀ i, i ≤ h → ∀ j, j < l + 1 → Bd 400000 (s'.t i j) := fun i hi j hj => bd_lift (tb0 i hi j (Nat.le_of_lt_succ hj)) (by decide); have db : Bd 9000 s'.d := bd_lift db0 (by decide); clear db0 tb0; refine eg_name 4 rfl (by kernel_rfl) (.inl rfl) trivial (eb_one (es_if (et_cmp cp_ge (nomark _) (ee_ixC 1 rfl (by kernel_rfl) rfl (ee_name 4 rfl (by kernel_rfl) rfl (⟨_, _, _, rfl, rfl, atI_rg hi, ee_name 3 rfl (by kernel_rfl) rfl (⟨_, ⟨_, _, rfl, rfl, rfl⟩, ⟨fun hk => eb_cons (es_lcL 5 [("at", 6)] (by kernel_rfl) rfl (by kernel_rfl) (lcq_filter (List.range n) (fun x => PyData.int ((x : Nat) : Int)) (fun x => PyData.int ((x : Nat) : Int)) (fun x => decide (s'.t i x ≠ 0)) (ei_range1 (by kernel_rfl) A.f_range (ee_name 3 rfl (by kernel_rfl) rfl (⟨_, rfl, ?_, ⟨?_, ?_, fun x hx => eg_name 6 rfl (by kernel_rfl) (.inr rfl) (by decide) (et_cmp cp_neI (nomark _) (ee_ix (ee_ix (ee_name 0 rfl (by kernel_rfl) rfl (ee_name 4 rfl (by kernel_rfl) rfl (⟨_, _, _, rfl, rfl, atI_rg (n := h + 1) (F := fun i => dR (l + 1) (s'.t i)) (by omega), ee_name 6 rfl (by kernel_rfl) rfl (⟨_, _, _, rfl, rfl, atI_rg (by have := List.mem_range.mp hx; omega), ee_int (⟨_, ⟨_, _, rfl, rfl, rfl⟩, ⟨?_, fun hk => ee_name 6 rfl (by kernel_rfl) rfl (⟨rfl, rfl⟩), fun hk => rfl⟩⟩)⟩)⟩)))))), fun _ _ => ⟨rfl, ⟨(nzF n (s'.t i)).map (fun j => ((j : Nat) : Int)), by unfold nzF; rw [List.map_map]; rfl⟩, eb_frz 5 rfl (eb_one ((by
    have hL : n ≤ s'.L i := by have := of_decide_eq_true hk; omega
    have eL : List.map (fun x => PyData.int ((x : Nat) : Int)) (List.filter (fun x => decide (s'.t i x ≠ 0)) (List.range n)) = (nzF n (s'.t i)).map fun x => PyData.int ((x : Nat) : Int) := rfl
    rw [eL]
    cases e : nzF n (s'.t i) with
    | nil =>
      refine es_if (et_cmp cp_neD (nomark _) (ee_name 5 rfl (by kernel_rfl) rfl ((en_lst (ea_nil (⟨Nat.le_of_ble_eq_true rfl, fun _ _ => ⟨_, ⟨?_, ?_, rfl⟩, ⟨fun z => (by cases z), fun hk => eb_nil (?_)⟩⟩⟩))).frz)))
      all_goals first
        | rfl
        | exact ⟨_, _, by rw [hE, ho_nil hL e]; rfl⟩
        | skip
    | cons col r =>
      have hc := (nz_cons e).1
      refine es_if (et_cmp cp_neD (nomark _) (ee_name 5 rfl (by kernel_rfl) rfl ((en_lst (ea_nil (⟨Nat.le_of_ble_eq_true rfl, fun _ _ => ⟨_, ⟨?_, ?_, rfl⟩, ⟨fun hk => eb_cons (es_if (et_cmp cp_lt (nomark _) (ee_ix (ee_ixC 0 rfl (by kernel_rfl) rfl (ee_name 4 rfl (by kernel_rfl) rfl (⟨_, _, _, rfl, rfl, atI_rg (n := h + 1) (F := fun i => dR (l + 1) (s'.t i)) (by omega), ee_ix (ee_name 5 rfl (by kernel_rfl) rfl (ee_int (⟨_, _, _, rfl, rfl, atI_cons0, ⟨_, _, _, rfl, rfl, atI_rg (by omega), ee_int (⟨_, ⟨_, _, rfl, rfl, rfl⟩, ⟨fun hs => eb_one (es_asgT ((en_lc [("number", 7)] (by kernel_rfl) (lcq_map (List.range (l + 1)) (fun j => PyData.int (s'.t i j)) (fun j => PyData.int (-s'.t i j)) (ei_list (ee_ixC 0 rfl (by kernel_rfl) rfl (ee_name 4 rfl (by kernel_rfl) rfl (⟨_, _, _, rfl, rfl, atI_rg (n := h + 1) (F := fun i => dR (l + 1) (s'.t i)) (by omega), ⟨_, rfl, ⟨?_, ?_, fun x hx => eg_name 7 rfl (by kernel_rfl) (.inr rfl) (by decide) (ee_neg (ee_name 7 rfl (by kernel_rfl) rfl (⟨_, rfl, ⟨rfl, rfl⟩⟩))), fun _ _ => eg_sub 0 rfl (by kernel_rfl) rfl (ee_name 4 rfl (by kernel_rfl) rfl (⟨_, _, _, rfl, rfl, ixN_tab (by omega), eb_cons (es_asg 2 rfl (by kernel_rfl) (.inl rfl) (ee_callC 0 (k_step_at A) (Nat.le_of_ble_eq_true rfl) (by kernel_rfl) rfl (by kernel_rfl) rfl (ea_cons (ee_name 4 rfl (by kernel_rfl) rfl (ea_cons (ee_ix (ee_name 5 rfl (by kernel_rfl) rfl (ee_int (⟨_, _, _, rfl, rfl, atI_cons0, ea_cons (ee_name 2 rfl (by kernel_rfl) rfl (ea_nil (⟨_, rfl, ⟨h, l + 1, i, col, ttF i col s'.t, _, ?_, rfl, ⟨by omega, by omega, by omega, by omega, ?_, ?_, ?_⟩, eb_one (es_asgT (ee_ix (ee_name 5 rfl (by kernel_rfl) rfl (ee_int (⟨_, _, _, rfl, rfl, atI_cons0, eg_sub 1 rfl (by kernel_rfl) rfl (ee_name 4 rfl (by kernel_rfl) rfl (⟨_, _, _, rfl, rfl, ixN_lds hi, ?_⟩))⟩)))))⟩⟩)))⟩)))))))))⟩))⟩⟩⟩)))))).frz)), fun hs => eb_nil (eb_cons (es_asg 2 rfl (by kernel_rfl) (.inl rfl) (ee_callC 0 (k_step_at A) (Nat.le_of_ble_eq_true rfl) (by kernel_rfl) rfl (by kernel_rfl) rfl (ea_cons (ee_name 4 rfl (by kernel_rfl) rfl (ea_cons (ee_ix (ee_name 5 rfl (by kernel_rfl) rfl (ee_int (⟨_, _, _, rfl, rfl, atI_cons0, ea_cons (ee_name 2 rfl (by kernel_rfl) rfl (ea_nil (⟨_, rfl, ⟨h, l + 1, i, col, ttF i col s'.t, _, ?_, rfl, ⟨by omega, by omega, by omega, by omega, ?_, ?_, ?_⟩, eb_one (es_asgT (ee_ix (ee_name 5 rfl (by kernel_rfl) rfl (ee_int (⟨_, _, _, rfl, rfl, atI_cons0, eg_sub 1 rfl (by kernel_rfl) rfl (ee_name 4 rfl (by kernel_rfl) rfl (⟨_, _, _, rfl, rfl, ixN_lds hi, ?_⟩))⟩)))))⟩⟩)))⟩))))))))))⟩⟩)⟩⟩)))⟩)))))), fun z => (by cases z)⟩⟩⟩))).frz)))
      all_goals first
        | rfl
        | exact dp
        | exact db
        | exact tt_bd (by omega) tb'
        | exact shaped_ints _
        | exact Nat.le_trans (Nat.le_of_eq (List.length_range)) (by omega)
        | (simp only [rg_len]; omega)
        | exact tab_neg (of_decide_eq_true hs)
        | exact tab_nneg (of_decide_eq_false hs)
        | exact ⟨_, _, by rw [hE, ho_cons hL e]; show _ = [Sl.cel a (tab h (l + 1) (stepT s'.d i col (ttF i col s'.t))), Sl.cel b (lds h fun k => if k = i then col else s'.L k), _, _, _, _, _, _]; rw [← lds_set]; rfl⟩
        | skip)))⟩⟩⟩))))), fun hk => eb_nil (⟨_, _, by rw [hE, ho_no (by have := of_decide_eq_false hk; omega)]; rfl⟩)⟩⟩)⟩)))))); all_goals first
    | exact rgD_map _
    | (rw [Int.toNat_natCast]; exact rgD_map _)
    | exact Nat.le_trans (Nat.le_of_eq (List.length_range)) (by omega)
    | omega
    | exact ne_flip _
    | skip), fun en2 hP => by (
 obtain ⟨s4, s5, e⟩ := hP; rw [rgD_len, Int.toNat_natCast, rg_len] at e; subst e; exact eb_one (es_ret (ee_name 2 rfl (by kernel_rfl) rfl (⟨_, _, _, _, rfl, rfl, q⟩))))⟩⟩))))
  rw [rg_len]; omega
end Sp
namespace Sp
open PySem PySem.Spec PyProof.Rows L2 Ly SV
variable {g : Gc}

/-- the costs' row, place by place -/
def rowC (c : Nat → Int) (s : SV.St) (p j : Nat) : Int := s.d * c j - sumN p fun k => c (s.L k) * s.t k j
theorem rowC_zero {c : Nat → Int} {s : SV.St} {j : Nat} : rowC c s 0 j = s.d * c j := by
  unfold rowC; simp only [sumN]; omega
theorem rowC_step {c : Nat → Int} {s : SV.St} {p j : Nat} : rowC c s (p + 1) j = rowC c s p j - c (s.L p) * s.t p j := by
  unfold rowC; simp only [sumN]; omega
theorem rowC_skip {c : Nat → Int} {s : SV.St} {p : Nat} (h : c (s.L p) = 0) : rowC c s (p + 1) = rowC c s p := by
  funext j; rw [rowC_step, h]; simp
theorem fz {a : Int} (h : (!decide (a = 0)) = false) : a = 0 := by simpa using h
theorem k_row_of_costs (A : Al g) : KnowsN g "row_of_costs" 1 ["table", "leaders", "below", "costs"] (fun ds post => ∃ (h w : Nat) (c : Nat → Int) (s : SV.St), ds = [.list (tab h w s.t), .list (lds h s.L), .int s.d, dR w c] ∧ (h < 900 ∧ w ≤ 900 ∧ (∀ i, i < h → s.L i < w) ∧ Bd 400000 s.d ∧ (∀ j, j < w → Bd 400000 (c j)) ∧ ∀ i, i ≤ h → ∀ j, j < w → Bd 400000 (s.t i j)) ∧ post (rg w fun j => PyData.int (rowC c s h j))) := by
  refine Knows.mkN A.d_row_of_costs sc_row_of_costs (fun ds post h => by obtain ⟨_, _, _, _, rfl, _⟩ := h; rfl) ?_
  rintro ds post ⟨h, w, c, s, rfl, ⟨h1, h2, h3, h4, h5, h6⟩, q⟩
  refine eb_cons (es_lcL 4 [("cost", 7)] (by kernel_rfl) rfl (by kernel_rfl) (lcq_map (List.range w) (fun j => PyData.int (c j)) (fun j => PyData.int (s.d * c j)) (ei_list (ee_name 3 rfl (by kernel_rfl) rfl (⟨_, rfl, ⟨?_, ?_, fun x hx => eg_name 7 rfl (by kernel_rfl) (.inr rfl) (by decide) (ee_mul (ee_name 2 rfl (by kernel_rfl) rfl (ee_name 7 rfl (by kernel_rfl) rfl (⟨_, _, rfl, rfl, ⟨?_, ?_⟩, ⟨rfl, rfl⟩⟩)))), fun _ _ => ⟨rfl, ⟨(rg w fun j => s.d * c j), rg_ints⟩, eb_cons (es_for (ei_range1 (by kernel_rfl) A.f_range (ee_callB bc_len (by kernel_rfl) A.f_len (by kernel_rfl) (ea_cons (ee_name 1 rfl (by kernel_rfl) rfl (ea_nil (⟨_, ⟨_, _, rfl, rfl, rfl⟩, ⟨_, rfl, ?_, ⟨fun i en => ∃ a s5 s6, en = [.dat (.list (tab h w s.t)), .dat (.list (lds h s.L)), .dat (.int s.d), .dat (dR w c), .cel a (rg w fun j => PyData.int (rowC c s i j)), s5, s6, .no, .no, .no], ⟨_, _, _, by rw [show rowC c s 0 = fun j => s.d * c j from funext fun j => rowC_zero]; rfl⟩, fun i d en2 hd hP => by (
 obtain ⟨a, s5, s6, rfl⟩ := hP; obtain ⟨hi, rfl⟩ := rgD_at hd; rw [Int.toNat_natCast, rg_len] at hi; refine eg_name 5 rfl (by kernel_rfl) (.inl rfl) trivial (eb_cons (es_asg 6 rfl (by kernel_rfl) (.inl rfl) (ee_ix (ee_name 3 rfl (by kernel_rfl) rfl (ee_ix (ee_name 1 rfl (by kernel_rfl) rfl (ee_name 5 rfl (by kernel_rfl) rfl (⟨_, _, _, rfl, rfl, atI_rg hi, ⟨_, _, _, rfl, rfl, atI_rg (h3 i hi), eb_one (es_if (et_cmp cp_neI (nomark _) (ee_name 6 rfl (by kernel_rfl) rfl (ee_int (⟨_, ⟨_, _, rfl, rfl, rfl⟩, ⟨fun hk => eb_one (es_lcL 4 [("number", 8), ("beside", 9)] (by kernel_rfl) rfl (by kernel_rfl) (lcq_map (List.range w) (fun j => PyData.tuple [.int (rowC c s i j), .int (s.t i j)]) (fun j => PyData.int (rowC c s i j - c (s.L i) * s.t i j)) (ei_zip (by kernel_rfl) A.f_zip (ea_cons (ee_name 4 rfl (by kernel_rfl) rfl (ea_cons (ee_ix (ee_name 0 rfl (by kernel_rfl) rfl (ee_name 5 rfl (by kernel_rfl) rfl (⟨_, _, _, rfl, rfl, atI_rg (by omega), ea_nil (⟨true, true, _, _, rfl, ⟨?_, ?_, fun x hx => eg_tup (egs_cons (eg_name 8 rfl (by kernel_rfl) (.inr rfl) (by decide) (egs_cons (eg_name 9 rfl (by kernel_rfl) (.inr rfl) (by decide) (egs_nil (ee_sub (ee_name 8 rfl (by kernel_rfl) rfl (ee_mul (ee_name 6 rfl (by kernel_rfl) rfl (ee_name 9 rfl (by kernel_rfl) rfl (⟨_, _, rfl, rfl, ⟨?_, ?_⟩, ⟨_, _, rfl, rfl, ⟨rfl, rfl⟩⟩⟩))))))))))), fun _ _ => ⟨rfl, ⟨(rg w fun j => rowC c s i j - c (s.L i) * s.t i j), rg_ints⟩, ?_⟩⟩⟩)⟩)))))))))), fun hk => eb_nil (⟨_, _, _, by rw [rowC_skip (fz hk)]; rfl⟩)⟩⟩)))))⟩⟩)))))))); all_goals first
    | exact rg_zip
    | exact Nat.le_trans (Nat.le_of_eq (List.length_range)) (by omega)
    | exact h5 _ (h3 i hi)
    | exact h6 i (by omega) _ (List.mem_range.mp (by assumption))
    | exact ⟨_, _, _, by rw [show rowC c s (i + 1) = fun j => rowC c s i j - c (s.L i) * s.t i j from funext fun j => rowC_step]; rfl⟩
    | skip), fun en2 hP => by (
 obtain ⟨a, s5, s6, rfl⟩ := hP; rw [rgD_len, Int.toNat_natCast, rg_len] at *; exact eb_one (es_retC 4 rfl (by kernel_rfl) rfl (⟨_, _, rfl, q⟩)))⟩⟩⟩)))))))⟩⟩⟩)))))
  all_goals first
    | rfl
    | exact Nat.le_trans (Nat.le_of_eq (List.length_range)) (by omega)
    | exact h4
    | exact h5 _ (List.mem_range.mp (by assumption))
    | (rw [rg_len]; omega)
    | skip
end Sp
namespace Sp
open PySem PySem.Spec PyProof.Rows L2 Ly SV
variable {g : Gc}

def cE (n : Nat) (c : Nat → Int) (j : Nat) : Int := if j < n then c j else 0
theorem atI_rgA {F : Nat → PyData} {w n x : Nat} (h : n + x < w) : atI (rg w F) (((n : Nat) : Int) + ((x : Nat) : Int)) = some (F (n + x)) := by
  have := atI_rg (F := F) h
  rw [show (((n + x : Nat)) : Int) = ((n : Nat) : Int) + ((x : Nat) : Int) by omega] at this
  exact this
theorem lds_start {n h : Nat} : rgD ((n : Nat) : Int) (((n : Nat) : Int) + ((h : Nat) : Int) - ((n : Nat) : Int)).toNat = lds h fun i => n + i := by
  rw [show (((n : Nat) : Int) + ((h : Nat) : Int) - ((n : Nat) : Int)).toNat = h by omega]
  exact rg_congr fun i _ => by congr 1
theorem cost_split {n h : Nat} {c : Nat → Int} : (rg n fun j => PyData.int (c j)) ++ (List.replicate (((h : Nat) : Int) + 1).toNat [PyData.int 0]).flatten = rg (n + h + 1) fun j => PyData.int (cE n c j) := by
  rw [show n + h + 1 = n + (h + 1) from rfl, rg_app]
  congr 1
  · exact rg_congr fun j hj => by unfold cE; rw [if_pos hj]
  · rw [show (((h : Nat) : Int) + 1).toNat = h + 1 by omega]
    apply List.ext_getElem
    · simp [rg]
    · intro k h1 h2
      simp [rg] at h1 h2
      simp [rg]
      unfold cE; rw [if_neg (by omega)]
theorem ixN_lastT {h w : Nat} {t : Nat → Nat → Int} : ixN (tab h w t).length (-1) = some h := by rw [rg_len, ixN_last]
theorem cst_tab {h w : Nat} {c : Nat → Int} {s : SV.St} : (tab h w s.t).set h (.list (rg w fun j => PyData.int (rowC c s h j))) = tab h w (cstT h c s).t := by
  show (tab h w s.t).set h (dR w (rowC c s h)) = _
  rw [tab_set]
  refine rg_congr fun k _ => ?_
  unfold dR
  congr 1
  refine rg_congr fun j _ => ?_
  unfold cstT rowC
  by_cases e : k = h
  · simp only [e, if_true]
  · simp only [e, if_false]
theorem rep_zero {n : Nat} : (List.replicate ((n : Nat) : Int).toNat [PyData.int 0]).flatten = rg n fun _ => PyData.int 0 := by
  rw [Int.toNat_natCast]
  apply List.ext_getElem
  · simp [rg]
  · intro k h1 h2
    simp [rg]
theorem ixN_rg {n i : Nat} {F : Nat → PyData} (hi : i < n) : ixN (rg n F).length ((i : Nat) : Int) = some i := by rw [rg_len, ixN_nat hi]
section
variable {h n : Nat} {M : Nat → Nat → Int} {b c : Nat → Int}
theorem cst_HZ {l : Nat} {s : SV.St} (Z : HZ h n l s) : HZ h n l (cstT h c s) := fun i hi hl => by
  show (if i = h then _ else s.t i l) = 0
  rw [if_neg (by omega)]; exact Z i hi hl
theorem cst_HN {s : SV.St} (N : HN n h s) : HN n h (cstT h c s) := fun i hi hl j hj => by
  show (if i = h then _ else s.t i j) = 0
  rw [if_neg (by omega)]; exact N i hi hl j hj
theorem cE_sum {y : Nat → Int} : (sumN n fun j => cE n c j * y j) = sumN n fun j => c j * y j := sumN_congr fun j hj => by unfold cE; rw [if_pos hj]
theorem next_none {l : Nat} {s : SV.St} (nx : nextS h n l s = none) {col : Nat} (he : enterF (s.t h) n = some col) : col < n ∧ s.t h col < 0 ∧ ∀ i, i < h → s.t i col ≤ 0 := by
  obtain ⟨h1, h2, _⟩ := enterF_ok.1 col he
  refine ⟨h1, h2, ?_⟩
  unfold nextS at nx
  rw [he] at nx
  simp only at nx
  cases e : leaveF s.t s.L col l h with
  | none => exact (leaveF_ok h).1 e
  | some r => rw [e] at nx; cases nx
end
theorem k_least_of (A : Al g) : KnowsP g "least_of" 3 ["rows", "numbers", "costs"] (fun ds post => ∃ (h n : Nat) (M : Nat → Nat → Int) (b c : Nat → Int), ds = [.list (rg h fun i => dR n (M i)), dR h b, dR n c] ∧
    (h ≤ 100 ∧ n ≤ 100 ∧ (∀ i, i < h → ∀ j, j < n → Bd 400000 (M i j)) ∧ (∀ i, i < h → Bd 400000 (b i)) ∧ (∀ j, j < n → Bd 400000 (c j)) ∧ Szd h (n + h) (colF h n M b) (c1F h n) 8000 ∧ Szd h (n + h) (colF h n M b) (cE n c) 8000 ∧
      ∀ y : Nat → Int, (∀ j, j < n → 0 ≤ y j) → (∀ i, i < h → (sumN n fun j => M i j * y j) = 0) → 0 ≤ sumN n fun j => c j * y j) ∧
    (∀ (d : Int) (W : Nat → Int), (∀ (y : Nat → Int) (k : Int), 0 < k → (∀ j, j < n → 0 ≤ y j) → (∀ i, i < h → (sumN n fun j => M i j * y j) = k * b i) → False) → post (.tuple [.str "none", .int d, .none, dR h W])) ∧
    ∀ (d : Int) (v u : Nat → Int), 0 < d → Bd 8000 d → (∀ j, j < n → 0 ≤ v j ∧ Bd 8000 (v j)) → (∀ i, i < h → Bd 8000 (u i)) → (∀ i, i < h → (sumN n fun j => M i j * v j) = d * b i) →
      (∀ (y : Nat → Int) (k : Int), (∀ j, j < n → 0 ≤ y j) → (∀ i, i < h → (sumN n fun j => M i j * y j) = k * b i) → k * (sumN n fun j => c j * v j) ≤ d * sumN n fun j => c j * y j) →
      (∀ j j', j < n → j' < n → j ≠ j' → (∀ i, i < h → M i j' = - M i j) → v j = 0 ∨ v j' = 0) →
      (∃ s : SV.St, (∃ cc, PInv h n (n + h) (colF h n M b) cc s) ∧ d = s.d ∧ ∀ j, v j = valF h s (fun k => s.t k (n + h)) j) → post (.tuple [.str "least", .int d, dR n v, dR h u])) := by
  refine Knows.mkP A.d_least_of sc_least_of (fun ds post h => by obtain ⟨_, _, _, _, _, rfl, _⟩ := h; rfl) ?_
  rintro ds post ⟨h, n, M, b, c, rfl, ⟨h1, h2, h3, h4, h5, Z1, Z2, nr⟩, q1, q2⟩
  have P0 : PInv h n (n + h) (colF h n M b) (c1F h n) (s0F h n M b) := s0_inv
  obtain ⟨m0, E0⟩ := P0.ends
  refine eb_cons (es_asgT (ee_tup (ea_cons (ee_callB bc_len (by kernel_rfl) A.f_len (by kernel_rfl) (ea_cons (ee_name 2 rfl (by kernel_rfl) rfl (ea_nil (⟨_, ⟨_, _, rfl, rfl, rfl⟩, ea_cons (ee_callB bc_len (by kernel_rfl) A.f_len (by kernel_rfl) (ea_cons (ee_name 0 rfl (by kernel_rfl) rfl (ea_nil (⟨_, ⟨_, _, rfl, rfl, rfl⟩, ea_nil (⟨Nat.le_of_ble_eq_true rfl, eg_tup (egs_cons (eg_name 3 rfl (by kernel_rfl) (.inl rfl) trivial (egs_cons (eg_name 4 rfl (by kernel_rfl) (.inl rfl) trivial (egs_nil (?_))))))⟩)⟩)))))⟩))))))))
  all_goals try (first | skip)
  rw [rg_len, rg_len]
  refine eb_cons (es_lcK 5 rfl (by kernel_rfl) (en_lc [("number", 14)] (by kernel_rfl) (lcq_map (List.range h) (fun i => PyData.int (b i)) (fun i => PyData.int (sgA b i)) (ei_list (ee_name 1 rfl (by kernel_rfl) rfl (⟨_, rfl, ⟨?_, ?_, fun x hx => eg_name 14 rfl (by kernel_rfl) (.inr rfl) (by decide) (ee_if (et_cmp cp_lt (nomark _) (ee_name 14 rfl (by kernel_rfl) rfl (ee_int (⟨_, ⟨_, _, rfl, rfl, rfl⟩, ⟨fun hq => ee_neg (ee_int (⟨_, rfl, ⟨?_, rfl⟩⟩)), fun hq => ee_int (⟨?_, rfl⟩)⟩⟩))))), fun _ _ => ?_⟩⟩))))))
  all_goals try (first | exact Nat.le_trans (Nat.le_of_eq (List.length_range)) (by omega) | rfl | (have hq' := of_decide_eq_true hq; unfold sgA; rw [if_pos hq']) | (have hq' := of_decide_eq_false hq; unfold sgA; rw [if_neg hq']))
  refine eb_frz 5 rfl ?_
  refine eb_cons (es_asgN 6 rfl (by kernel_rfl) (.inl rfl) (en_call (k_first_table A) (Nat.le_of_ble_eq_true rfl) (by kernel_rfl) (ea_cons (ee_name 0 rfl (by kernel_rfl) rfl (ea_cons (ee_name 1 rfl (by kernel_rfl) rfl (ea_cons (ee_name 5 rfl (by kernel_rfl) rfl (ea_cons (ee_name 3 rfl (by kernel_rfl) rfl (ea_nil (⟨h, n, M, b, rfl, ⟨h1, h2, ?_, ?_⟩, fun _ _ => ?_⟩))))))))))))
  all_goals try (first | exact h3 | exact h4)
  refine eb_cons (es_asgN 7 rfl (by kernel_rfl) (.inl rfl) (en_listRg2 (by kernel_rfl) A.f_list (by kernel_rfl) A.f_range (ee_name 3 rfl (by kernel_rfl) rfl (ee_add (ee_name 3 rfl (by kernel_rfl) rfl (ee_name 4 rfl (by kernel_rfl) rfl (⟨_, _, rfl, rfl, ⟨_, _, rfl, rfl, ?_, fun _ _ => ?_⟩⟩)))))))
  all_goals try (first | omega)
  rw [lds_start]
  refine eb_cons (es_asgT (ee_callC2 6 7 (k_descend A) (Nat.le_of_ble_eq_true rfl) (by kernel_rfl) rfl (by kernel_rfl) rfl rfl (by kernel_rfl) rfl (by decide) (ea_cons (ee_int (ea_cons (ee_name 3 rfl (by kernel_rfl) rfl (ea_nil (⟨_, _, rfl, rfl, ⟨h, n, n + h, m0, _, _, s0F h n M b, rfl, rfl, rfl, ⟨by omega, by omega, P0, Z1, E0⟩, fun s1 R1 nx1 => eg_tup (egs_cons (eg_name 8 rfl (by kernel_rfl) (.inl rfl) trivial (egs_cons (eg_name 9 rfl (by kernel_rfl) (.inl rfl) trivial (egs_nil (?_))))))⟩⟩))))))))
  refine eb_en [.dat _, .dat _, .dat _, .dat _, .dat _, .dat _, .cel _ _, .cel _ _, .dat _, .dat _, .no, .no, .no, .no, .no, .no] rfl ?_
  have P1 := R1.inv P0
  obtain ⟨dp1, db1, tb1⟩ := Z1.bd P1
  have db1' : Bd 400000 s1.d := bd_lift db1 (by decide)
  have tb1' : ∀ i, i ≤ h → ∀ j, j < n + h + 1 → Bd 300000 (s1.t i j) := fun i hi j hj => bd_lift (tb1 i hi j (Nat.le_of_lt_succ hj)) (by decide)
  have db1'' : Bd 300000 s1.d := bd_lift db1 (by decide)
  clear db1 tb1
  refine eb_cons (es_asg 10 rfl (by kernel_rfl) (.inl rfl) (ee_ixC 6 rfl (by kernel_rfl) rfl (ee_neg (ee_int (⟨_, rfl, ⟨_, _, _, rfl, rfl, atI_last, ?_⟩⟩)))))
  all_goals try (first | skip)
  refine eb_en [.dat _, .dat _, .dat _, .dat _, .dat _, .dat _, .cel _ _, .cel _ _, .dat _, .dat _, .dat _, .no, .no, .no, .no, .no] rfl ?_
  refine eb_cons (es_if (et_cmp cp_lt (nomark _) (ee_ix (ee_name 10 rfl (by kernel_rfl) rfl (ee_neg (ee_int (⟨_, rfl, ⟨_, _, _, rfl, rfl, atI_last, ee_int (⟨_, ⟨_, _, rfl, rfl, rfl⟩, ⟨fun hk => eb_one (es_ret (ee_tup (ea_cons (ee_str (ea_cons (ee_name 8 rfl (by kernel_rfl) rfl (ea_cons (ee_none (ea_cons ((en_lc [("at", 15)] (by kernel_rfl) (lcq_map (List.range h) (fun x => PyData.int ((x : Nat) : Int)) (fun x => PyData.int (sgA b x * (s1.d - s1.t h (n + x)))) (ei_range1 (by kernel_rfl) A.f_range (ee_name 4 rfl (by kernel_rfl) rfl (⟨_, rfl, ?_, ⟨?_, ?_, fun x hx => eg_name 15 rfl (by kernel_rfl) (.inr rfl) (by decide) (ee_mul (ee_ix (ee_name 5 rfl (by kernel_rfl) rfl (ee_name 15 rfl (by kernel_rfl) rfl (⟨_, _, _, rfl, rfl, atI_rg (List.mem_range.mp hx), ee_sub (ee_name 8 rfl (by kernel_rfl) rfl (ee_ix (ee_name 10 rfl (by kernel_rfl) rfl (ee_add (ee_name 3 rfl (by kernel_rfl) rfl (ee_name 15 rfl (by kernel_rfl) rfl (⟨_, _, rfl, rfl, ⟨_, _, _, rfl, rfl, atI_rgA (by have := List.mem_range.mp hx; omega), ⟨_, _, rfl, rfl, ⟨_, _, rfl, rfl, ⟨?_, ?_⟩, ⟨rfl, rfl⟩⟩⟩⟩⟩)))))))⟩))))), fun _ _ => ea_nil (⟨Nat.le_of_ble_eq_true rfl, ⟨_, rfl, ?_⟩⟩)⟩⟩))))).frz)))))))))), fun hk => eb_nil (?_)⟩⟩)⟩⟩)))))))
  all_goals try (first
    | exact Nat.le_trans (Nat.le_of_eq (List.length_range)) (by omega)
    | exact rgD_map _
    | (rw [Int.toNat_natCast]; exact rgD_map _)
    | omega
    | exact Bd.sml (by unfold sgA; split <;> omega)
    | exact (Bd.sub db1'' (tb1' h (Nat.le_refl _) (n + x) (by have := List.mem_range.mp hx; omega)) (by decide) : Bd 400000 _)
    | exact q1 s1.d (fun x => sgA b x * (s1.d - s1.t h (n + x))) (fun y k hk y0 hy => phase1_none P1 nx1 (of_decide_eq_true (by assumption)) y k hk y0 hy))
  have nz : ¬ s1.t h (n + h) < 0 := of_decide_eq_false (by assumption)
  have HZ1 : HZ h n (n + h) s1 := phase1_help P1 nz
  obtain ⟨P2, HZ2, HN2⟩ := hoN_ok P1 HZ1 h (Nat.le_refl h)
  refine eb_cons (es_asg 8 rfl (by kernel_rfl) (.inl rfl) (ee_callC2 6 7 (k_helpers_out A) (Nat.le_of_ble_eq_true rfl) (by kernel_rfl) rfl (by kernel_rfl) rfl rfl (by kernel_rfl) rfl (by decide) (ea_cons (ee_name 8 rfl (by kernel_rfl) rfl (ea_cons (ee_name 3 rfl (by kernel_rfl) rfl (ea_nil (⟨_, _, rfl, rfl, ⟨h, n, n + h, _, _, s1, rfl, rfl, rfl, ⟨by omega, by omega, P1, HZ1, Z1⟩, ?_⟩⟩))))))))
  refine eb_en [.dat _, .dat _, .dat _, .dat _, .dat _, .dat _, .cel _ _, .cel _ _, .dat _, .dat _, .dat _, .no, .no, .no, .no, .no] rfl ?_
  obtain ⟨dp2, db2, tb2⟩ := Z1.bd P2
  have P3 := cst_inv (c := cE n c) P2
  have HZ3 : HZ h n (n + h) (cstT h (cE n c) (hoN n s1 h)) := cst_HZ HZ2
  have HN3 : HN n h (cstT h (cE n c) (hoN n s1 h)) := cst_HN HN2
  obtain ⟨m3, E3⟩ := P3.ends
  generalize hoN n s1 h = s2 at *
  have db2' : Bd 400000 s2.d := bd_lift db2 (by decide)
  have tb2' : ∀ i, i ≤ h → ∀ j, j < n + h + 1 → Bd 400000 (s2.t i j) := fun i hi j hj => bd_lift (tb2 i hi j (Nat.le_of_lt_succ hj)) (by decide)
  clear db2 tb2
  refine eb_cons (es_asgT ((en_lend (en_call (k_row_of_costs A) (Nat.le_of_ble_eq_true rfl) (by kernel_rfl) (ea_cons (ee_name 6 rfl (by kernel_rfl) rfl (ea_cons (ee_name 7 rfl (by kernel_rfl) rfl (ea_cons (ee_name 8 rfl (by kernel_rfl) rfl (ea_cons ((en_catL ((en_listOf (by kernel_rfl) A.f_list (ee_name 2 rfl (by kernel_rfl) rfl (⟨_, rfl, fun _ _ => (en_rep (en_lst (ea_cons (ee_int (ea_nil (⟨Nat.le_of_ble_eq_true rfl, fun _ _ => ee_add (ee_name 4 rfl (by kernel_rfl) rfl (ee_int (⟨_, _, rfl, rfl, ⟨_, rfl, ?_, fun _ _ => ⟨_, _, rfl, rfl, ?_, fun _ _ => ea_nil (⟨h, n + h + 1, cE n c, s2, (by rw [cost_split]), ⟨by omega, by omega, ?_, ?_, ?_, ?_⟩, fun _ _ => ⟨rfl, ⟨_, rg_ints⟩, fun _ => eg_sub 6 rfl (by kernel_rfl) rfl (ee_neg (ee_int (⟨_, rfl, ⟨_, _, _, rfl, rfl, ixN_lastT, ?_⟩⟩)))⟩⟩)⟩⟩⟩)))⟩)))))).frz⟩))).frz)).frz)))))))))).frz))
  · refine ⟨by omega, by omega, by decide⟩
  · rw [← List.length_append, cost_split, rg_len]; omega
  · exact fun i hi => Nat.lt_succ_of_lt (P2.Ll i hi)
  · exact db2'
  · intro j hj
    unfold cE
    split
    · exact h5 j (by assumption)
    · exact Bd.sm (by decide)
  · exact tb2'
  refine eb_en [.dat _, .dat _, .dat _, .dat _, .dat _, .dat _, .cel _ _, .cel _ _, .dat _, .dat _, .dat _, .no, .no, .no, .no, .no] rfl ?_
  rw [cst_tab]
  refine eb_cons (es_asgT (ee_callC2 6 7 (k_descend A) (Nat.le_of_ble_eq_true rfl) (by kernel_rfl) rfl (by kernel_rfl) rfl rfl (by kernel_rfl) rfl (by decide) (ea_cons (ee_name 8 rfl (by kernel_rfl) rfl (ea_cons (ee_name 3 rfl (by kernel_rfl) rfl (ea_nil (⟨_, _, rfl, rfl, ⟨h, n, n + h, m3, _, _, cstT h (cE n c) s2, rfl, rfl, rfl, ⟨by omega, by omega, P3, Z2, E3⟩, fun s4 R4 nx4 => eg_tup (egs_cons (eg_name 8 rfl (by kernel_rfl) (.inl rfl) trivial (egs_cons (eg_name 11 rfl (by kernel_rfl) (.inl rfl) trivial (egs_nil (?_))))))⟩⟩))))))))
  refine eb_en [.dat _, .dat _, .dat _, .dat _, .dat _, .dat _, .cel _ _, .cel _ _, .dat _, .dat _, .dat _, .dat _, .no, .no, .no, .no] rfl ?_
  have P4 := R4.inv P3
  obtain ⟨HZ4, HN4⟩ := R4.hh P3 HZ3 HN3
  obtain ⟨dp4, db4, tb4⟩ := Z2.bd P4
  have tb4' : ∀ i, i ≤ h → ∀ j, j < n + h + 1 → Bd 400000 (s4.t i j) := fun i hi j hj => bd_lift (tb4 i hi j (Nat.le_of_lt_succ hj)) (by decide)
  cases he : enterF (s4.t h) n with
  | some col =>
    obtain ⟨w1, w2, w3⟩ := next_none nx4 he
    obtain ⟨y, y0, y1, y2⟩ := val_ray P4 HN4 w1 w2 w3
    have := nr y y0 y1
    rw [cE_sum] at y2
    omega
  | none =>
  have en := enterF_ok.2 he
  have big := q2 s4.d (valF h s4 fun k => s4.t k (n + h)) (fun x => -(sgA b x) * s4.t h (n + x)) dp4 db4 (fun j _ => ⟨valF_nn (fun i hi => P4.feas i hi) j, valF_abs P4 (Nat.two_pow_pos _) (fun i hi => tb4 i (Nat.le_of_lt hi) _ (Nat.le_refl _)) j⟩)
    (fun i hi => by unfold Bd; rw [Int.natAbs_mul, Int.natAbs_neg, sgA_abs, Nat.one_mul]; exact tb4 h (Nat.le_refl _) _ (by omega)) (fun i hi => val_keeps P4 HZ4 hi)
    (fun y k y0 hy => by have := val_least P4 HZ4 (by unfold cE; rw [if_neg (by omega)]) en y k y0 hy; rw [cE_sum, cE_sum] at this; exact this) (fun j j' hj hj' ne op => val_opp P4 hj hj' ne op _) ⟨s4, ⟨_, P4⟩, rfl, fun j => rfl⟩
  clear db4 tb4
  refine eb_cons (es_asgN 12 rfl (by kernel_rfl) (.inl rfl) (en_rep (en_lst (ea_cons (ee_int (ea_nil (⟨Nat.le_of_ble_eq_true rfl, fun _ _ => ee_name 3 rfl (by kernel_rfl) rfl (⟨_, rfl, ?_, fun _ _ => ?_⟩)⟩)))))))
  all_goals try (first | omega)
  · refine ⟨by omega, by omega, by decide⟩
  rw [rep_zero]
  refine eb_cons (es_if (et_cmp cp_notN (nomark _) (ee_name 11 rfl (by kernel_rfl) rfl (ee_none (⟨_, ⟨rfl, rfl⟩, ⟨fun z => (by cases z), fun hk => eb_nil (?_)⟩⟩)))))
  refine eb_cons (es_for (ei_range1 (by kernel_rfl) A.f_range (ee_name 4 rfl (by kernel_rfl) rfl (⟨_, rfl, ?_, ⟨fun i en => ∃ a a2 a3 s9 s10 s13, en = [.dat (.list (rg h fun i => dR n (M i))), .dat (dR h b), .dat (dR n c), .dat (.int ((n : Nat) : Int)), .dat (.int ((h : Nat) : Int)), .dat (dR h (sgA b)), .cel a (tab h (n + h + 1) s4.t), .cel a2 (lds h s4.L), .dat (.int s4.d), s9, s10, .dat .none, .cel a3 (rg n fun j => PyData.int (valP s4 (fun k => s4.t k (n + h)) i j)), s13, .no, .no], ⟨_, _, _, _, _, _, rfl⟩, fun i d en2 hd hP => by (
 obtain ⟨a, a2, a3, s9, s10, s13, rfl⟩ := hP; obtain ⟨hi, rfl⟩ := rgD_at hd; rw [Int.toNat_natCast] at hi; refine eg_name 13 rfl (by kernel_rfl) (.inl rfl) trivial (eb_one (es_if (et_cmp cp_lt (nomark _) (ee_ixC 7 rfl (by kernel_rfl) rfl (ee_name 13 rfl (by kernel_rfl) rfl (⟨_, _, _, rfl, rfl, atI_rg hi, ee_name 3 rfl (by kernel_rfl) rfl (⟨_, ⟨_, _, rfl, rfl, rfl⟩, ⟨fun hk => eb_one (es_asgT (ee_if (et_cmp cp_isN (nomark _) (ee_name 11 rfl (by kernel_rfl) rfl (ee_none (⟨_, ⟨rfl, rfl⟩, ⟨fun _ => ee_ix (ee_ixC 6 rfl (by kernel_rfl) rfl (ee_name 13 rfl (by kernel_rfl) rfl (⟨_, _, _, rfl, rfl, atI_rg (by omega), ee_neg (ee_int (⟨_, rfl, ⟨_, _, _, rfl, rfl, atI_last, eg_sub 12 rfl (by kernel_rfl) rfl (ee_ixC 7 rfl (by kernel_rfl) rfl (ee_name 13 rfl (by kernel_rfl) rfl (⟨_, _, _, rfl, rfl, atI_rg hi, ⟨_, _, _, rfl, rfl, ixN_rg (by have := of_decide_eq_true hk; omega), ?_⟩⟩)))⟩⟩))⟩))), fun z => (by cases z)⟩⟩)))))), fun hk => eb_nil (?_)⟩⟩)⟩)))))); all_goals first
    | (refine ⟨a, a2, a3, s9, s10, .dat (.int ((i : Nat) : Int)), ?_⟩
       have hk' := of_decide_eq_true hk
       have e : ((rg n fun j => PyData.int (valP s4 (fun k => s4.t k (n + h)) i j)).set (s4.L i) (.int (s4.t i (n + h)))) = rg n fun j => PyData.int (valP s4 (fun k => s4.t k (n + h)) (i + 1) j) := (by
         rw [rg_set]
         exact rg_congr fun j _ => (by rw [valP_step P4 _ hi]; split <;> rfl))
       rw [← e]
       rfl)
    | (refine ⟨a, a2, a3, s9, s10, .dat (.int ((i : Nat) : Int)), ?_⟩
       have hk' := of_decide_eq_false hk
       have e : (rg n fun j => PyData.int (valP s4 (fun k => s4.t k (n + h)) i j)) = rg n fun j => PyData.int (valP s4 (fun k => s4.t k (n + h)) (i + 1) j) :=
         rg_congr fun j hj => (by rw [valP_step P4 _ hi, if_neg (by omega)])
       rw [← e]
       rfl)
    | skip), fun en2 hP => by (
 obtain ⟨a, a2, a3, s9, s10, s13, e⟩ := hP; rw [rgD_len, Int.toNat_natCast] at e; subst e; refine eb_frz 6 rfl (eb_frz 12 rfl (eb_cons (es_if (et_cmp cp_notN (nomark _) (ee_name 11 rfl (by kernel_rfl) rfl (ee_none (⟨_, ⟨rfl, rfl⟩, ⟨fun z => (by cases z), fun hk => eb_nil (eb_one (es_ret (ee_tup (ea_cons (ee_str (ea_cons (ee_name 8 rfl (by kernel_rfl) rfl (ea_cons (ee_name 12 rfl (by kernel_rfl) rfl (ea_cons ((en_lc [("at", 15)] (by kernel_rfl) (lcq_map (List.range h) (fun x => PyData.int ((x : Nat) : Int)) (fun x => PyData.int (-(sgA b x) * s4.t h (n + x))) (ei_range1 (by kernel_rfl) A.f_range (ee_name 4 rfl (by kernel_rfl) rfl (⟨_, rfl, ?_, ⟨?_, ?_, fun x hx => eg_name 15 rfl (by kernel_rfl) (.inr rfl) (by decide) (ee_mul (ee_neg (ee_ix (ee_name 5 rfl (by kernel_rfl) rfl (ee_name 15 rfl (by kernel_rfl) rfl (⟨_, _, _, rfl, rfl, atI_rg (List.mem_range.mp hx), ⟨_, rfl, ee_ix (ee_ix (ee_name 6 rfl (by kernel_rfl) rfl (ee_neg (ee_int (⟨_, rfl, ⟨_, _, _, rfl, rfl, atI_last, ee_add (ee_name 3 rfl (by kernel_rfl) rfl (ee_name 15 rfl (by kernel_rfl) rfl (⟨_, _, rfl, rfl, ⟨_, _, _, rfl, rfl, atI_rgA (by have := List.mem_range.mp hx; omega), ⟨_, _, rfl, rfl, ⟨?_, ?_⟩, ⟨rfl, rfl⟩⟩⟩⟩)))⟩⟩)))))⟩⟩)))))), fun _ _ => ea_nil (⟨Nat.le_of_ble_eq_true rfl, ⟨_, rfl, big⟩⟩)⟩⟩))))).frz)))))))))))⟩⟩))))))); all_goals first
    | exact Nat.le_trans (Nat.le_of_eq (List.length_range)) (by omega)
    | exact rgD_map _
    | (rw [Int.toNat_natCast]; exact rgD_map _)
    | omega
    | exact Bd.sml (by unfold sgA; split <;> omega)
    | exact tb4' h (Nat.le_refl _) (n + x) (by have := List.mem_range.mp hx; omega)
    | skip)⟩⟩))))
  · omega
end Sp
namespace Sp
open PySem PySem.Spec PyProof.Rows L2 Ly SV
variable {g : Gc}

/-- the first number that is not 0 -/
def firstF (v : Nat → Int) : Nat → Option Nat
  | 0 => none
  | n + 1 => match firstF v n with
    | some j => some j
    | none => if v n ≠ 0 then some n else none
theorem first_more {v : Nat → Int} {i n : Nat} (h : firstF v i = none) (hz : v i ≠ 0) (hn : i < n) : firstF v n = some i := by
  induction n with
  | zero => omega
  | succ n ih =>
    by_cases e : i = n
    · subst e; unfold firstF; rw [h]; simp only [hz, ne_eq, not_false_eq_true, if_true]
    · unfold firstF; rw [ih (by omega)]
theorem first_next {v : Nat → Int} {i : Nat} (h : firstF v i = none) (hz : v i = 0) : firstF v (i + 1) = none := by
  unfold firstF; rw [h]; simp only [hz, ne_eq, not_true_eq_false, if_false]
theorem first_none {v : Nat → Int} : ∀ {n : Nat}, firstF v n = none → ∀ j, j < n → v j = 0
  | 0, _, j, hj => absurd hj (Nat.not_lt_zero j)
  | n + 1, h, j, hj => by
    unfold firstF at h
    cases e : firstF v n with
    | some k => rw [e] at h; cases h
    | none =>
      rw [e] at h
      by_cases q : v n ≠ 0
      · simp only [q, ne_eq, not_false_eq_true, if_true] at h; cases h
      · by_cases y : j = n
        · rw [y]; exact Classical.not_not.mp q
        · exact first_none e j (by omega)
theorem first_is {v : Nat → Int} {l n : Nat} (hl : l < n) (h1 : v l ≠ 0) (h2 : ∀ j, j < l → v j = 0) : firstF v n = some l := by
  refine first_more ?_ h1 hl
  have : ∀ i, i ≤ l → firstF v i = none := fun i => by
    induction i with
    | zero => exact fun _ => rfl
    | succ i ih => exact fun hi => first_next (ih (by omega)) (h2 i (by omega))
  exact this l (Nat.le_refl l)
theorem first_some {v : Nat → Int} : ∀ {n j : Nat}, firstF v n = some j → j < n ∧ v j ≠ 0 ∧ ∀ i, i < j → v i = 0
  | 0, j, h => by cases h
  | n + 1, j, h => by
    unfold firstF at h
    cases e : firstF v n with
    | some k =>
      rw [e] at h; cases h
      obtain ⟨h1, h2, h3⟩ := first_some e
      exact ⟨by omega, h2, h3⟩
    | none =>
      rw [e] at h
      by_cases q : v n ≠ 0
      · simp only [q, ne_eq, not_false_eq_true, if_true] at h
        cases h
        exact ⟨by omega, q, first_none e⟩
      · simp only [q, if_false] at h; cases h
theorem enum_rg {n i : Nat} {F : Nat → PyData} {d : PyData} (h : (enumD (rg n F))[i]? = some d) : i < n ∧ d = .tuple [.int ((i : Nat) : Int), F i] := by
  have hi : i < n := by
    have := (List.getElem?_eq_some_iff.mp h).1
    rw [enumD_len, rg_len] at this
    exact this
  refine ⟨hi, ?_⟩
  rw [enumD_get (rg_get hi)] at h
  exact (Option.some.inj h).symm
theorem gcd_small {w : Nat} {v : Nat → Int} {k : Nat} (h : ∀ j, j < w → Bd k (v j)) (h2 : ¬ gcdL (rg w v) < 2) : gcdL (rg w v) < 2 ^ k := by
  refine Classical.byContradiction fun q => ?_
  have z : ∀ j, j < w → v j = 0 := fun j hj => by
    refine Classical.byContradiction fun ne => ?_
    have d := gcdL_dvd (ns := rg w v) (mem_rg.mpr ⟨j, hj, rfl⟩)
    have l := Nat.le_of_dvd (Int.natAbs_pos.mpr ne) (Int.ofNat_dvd_left.mp d)
    have := h j hj
    unfold Bd at this
    omega
  have e : gcdL (rg w v) = gcdL ((rg w v).map fun n => ((0 : Nat) : Int) * n) := by
    congr 1
    unfold rg
    rw [List.map_map]
    exact List.map_congr_left fun j hj => by simp [z j (List.mem_range.mp hj)]
  rw [gcdL_mul] at e
  omega
theorem low_lt {w : Nat} {v : Nat → Int} (h : gcdL (rg w v) < 2) : lowV w v = v := by funext j; unfold lowV; rw [if_pos h]
theorem low_ge {w : Nat} {v : Nat → Int} (h : ¬ gcdL (rg w v) < 2) : lowV w v = fun j => v j / (gcdL (rg w v) : Int) := by funext j; unfold lowV; rw [if_neg h]
theorem lt2 {g : Nat} (h : decide (((g : Nat) : Int) < 2) = true) : g < 2 := by have := of_decide_eq_true h; omega
theorem ge2 {g : Nat} (h : decide (((g : Nat) : Int) < 2) = false) : ¬ g < 2 := by have := of_decide_eq_false h; omega
theorem k_lowest_row (A : Al g) : KnowsP g "lowest_row" 2 ["row"] (fun ds post => ∃ (w : Nat) (v : Nat → Int), ds = [dR w v] ∧ (w ≤ 1000 ∧ ∀ j, j < w → Bd 9000 (v j)) ∧ post (dR w (lowV w v))) := by
  refine Knows.mkP A.d_lowest_row sc_lowest_row (fun ds post h => by obtain ⟨_, _, rfl, _⟩ := h; rfl) ?_
  rintro ds post ⟨w, v, rfl, ⟨h1, h2⟩, q⟩
  refine eb_cons (es_asg 1 rfl (by kernel_rfl) (.inl rfl) (ee_call (k_common_part A) (Nat.le_of_ble_eq_true rfl) (by kernel_rfl) (ea_cons (ee_name 0 rfl (by kernel_rfl) rfl (ea_nil (⟨true, rg w v, congrArg (fun l => [PyData.list l]) rg_ints, eb_one (es_ret (ee_if (et_cmp cp_lt (nomark _) (ee_name 1 rfl (by kernel_rfl) rfl (ee_int (⟨_, ⟨_, _, rfl, rfl, rfl⟩, ⟨fun hk => (en_listOf (by kernel_rfl) A.f_list (ee_name 0 rfl (by kernel_rfl) rfl (⟨_, rfl, fun _ _ => ⟨_, rfl, ?_⟩⟩))).frz, fun hk => (en_lc [("number", 2)] (by kernel_rfl) (lcq_map (List.range w) (fun j => PyData.int (v j)) (fun j => PyData.int (v j / (gcdL (rg w v) : Int))) (ei_list (ee_name 0 rfl (by kernel_rfl) rfl (⟨_, rfl, ⟨?_, ?_, fun x hx => eg_name 2 rfl (by kernel_rfl) (.inr rfl) (by decide) (ee_div (ee_name 2 rfl (by kernel_rfl) rfl (ee_name 1 rfl (by kernel_rfl) rfl (⟨_, _, rfl, rfl, ⟨?_, ?_⟩, ⟨rfl, rfl⟩⟩)))), fun _ _ => ⟨_, rfl, ?_⟩⟩⟩))))).frz⟩⟩))))))⟩))))))
  · rw [low_lt (lt2 hk)] at q; exact q
  · rfl
  · exact Nat.le_trans (Nat.le_of_eq (List.length_range)) (by omega)
  · have := ge2 hk; omega
  · exact gcd_small h2 (ge2 hk)
  · rw [low_ge (ge2 hk)] at q; exact q
theorem qs_rg (qs : List Rat) (f : Rat → Int) : (qs.map f).map PyData.int = rg qs.length fun j => PyData.int (f (qs.getD j 0)) := by
  apply List.ext_getElem
  · simp [rg]
  · intro i h1 h2
    simp [rg] at h1 h2
    simp [rg, h1]
theorem k_whole_row (A : Al g) : KnowsP g "whole_row" 3 ["parts"] (fun ds post => ∃ qs : List Rat, ds = [.list (qs.map fr)] ∧ (qs.length ≤ 1000 ∧ lcmL qs < 2 ^ 6000 ∧ ∀ q, q ∈ qs → q.num.natAbs < 2 ^ 6000) ∧ (∀ j, j < qs.length → Bd 9000 (ovr (lcmL qs) (qs.getD j 0))) ∧ post (dR qs.length (lowV qs.length fun j => ovr (lcmL qs) (qs.getD j 0)))) := by
  refine Knows.mkP A.d_whole_row sc_whole_row (fun ds post h => by obtain ⟨_, rfl, _⟩ := h; rfl) ?_
  rintro ds post ⟨qs, rfl, ⟨h1, h2, h3⟩, h4, q⟩
  refine eb_one (es_ret (ee_call (k_lowest_row A) (Nat.le_of_ble_eq_true rfl) (by kernel_rfl) (ea_cons (ee_ix (ee_call (k_over_one A) (Nat.le_of_ble_eq_true rfl) (by kernel_rfl) (ea_cons (ee_name 0 rfl (by kernel_rfl) rfl (ea_nil (⟨true, qs, rfl, ⟨h1, h2, h3⟩, ee_int (⟨_, _, _, rfl, rfl, rfl, ea_nil (⟨qs.length, fun j => ovr (lcmL qs) (qs.getD j 0), congrArg (fun l => [PyData.list l]) (qs_rg qs _), ⟨?_, ?_⟩, ⟨_, rfl, q⟩⟩)⟩)⟩)))))))))
  · exact h1
  · exact h4
theorem k_first_place (A : Al g) : KnowsP g "first_place" 1 ["row"] (fun ds post => ∃ (w : Nat) (v : Nat → Int), ds = [dR w v] ∧ w ≤ 1000 ∧ post (optD (firstF v w))) := by
  refine Knows.mkP A.d_first_place sc_first_place (fun ds post h => by obtain ⟨_, _, rfl, _⟩ := h; rfl) ?_
  rintro ds post ⟨w, v, rfl, h1, q⟩
  refine eb_cons (es_for (ei_enum (by kernel_rfl) A.f_enumerate (ee_name 0 rfl (by kernel_rfl) rfl (⟨true, _, rfl, ⟨fun i en => firstF v i = none ∧ ∃ s1 s2, en = [.dat (dR w v), s1, s2], ⟨rfl, _, _, rfl⟩, fun i d en2 hd hP => by (
 obtain ⟨he, s1, s2, rfl⟩ := hP; obtain ⟨hi, rfl⟩ := enum_rg hd; exact eg_tup (egs_cons (eg_name 1 rfl (by kernel_rfl) (.inl rfl) trivial (egs_cons (eg_name 2 rfl (by kernel_rfl) (.inl rfl) trivial (egs_nil (eb_one (es_if (et_cmp cp_neI (nomark _) (ee_name 2 rfl (by kernel_rfl) rfl (ee_int (⟨_, ⟨_, _, rfl, rfl, rfl⟩, ⟨fun hk => eb_one (es_ret (ee_name 1 rfl (by kernel_rfl) rfl (⟨_, rfl, by rw [first_more he (by simpa using hk) hi] at q; exact q⟩))), fun hk => eb_nil (⟨first_next he (by simpa using hk), _, _, rfl⟩)⟩⟩)))))))))))), fun en2 hP => by (
 obtain ⟨he, s1, s2, rfl⟩ := hP; rw [enumD_len, rg_len] at he; exact eb_one (es_ret (ee_none (⟨_, rfl, by rw [he] at q; exact q⟩))))⟩⟩))))

theorem k_cleared (A : Al g) : KnowsP g "cleared" 3 ["row", "step", "place"] (fun ds post => ∃ (w pl : Nat) (v s : Nat → Int), ds = [dR w v, dR w s, .int ((pl : Nat) : Int)] ∧ (w ≤ 1000 ∧ pl < w ∧ (∀ j, j < w → Bd 4400 (v j)) ∧ ∀ j, j < w → Bd 4400 (s j)) ∧ post (dR w (clV w v s pl))) := by
  refine Knows.mkP A.d_cleared sc_cleared (fun ds post h => by obtain ⟨_, _, _, _, rfl, _⟩ := h; rfl) ?_
  rintro ds post ⟨w, pl, v, s, rfl, ⟨h1, h2, h3, h4⟩, q⟩
  have pb : ∀ x, x < w → Bd 8801 (v x * s pl - s x * v pl) := fun x hx => ((h3 x hx).mul (h4 pl h2) (Nat.le_refl _)).sub ((h4 x hx).mul (h3 pl h2) (Nat.le_refl _)) (by decide)
  refine eb_cons (es_asgT (ee_tup (ea_cons (ee_ix (ee_name 1 rfl (by kernel_rfl) rfl (ee_name 2 rfl (by kernel_rfl) rfl (⟨_, _, _, rfl, rfl, atI_rg h2, ea_cons (ee_ix (ee_name 0 rfl (by kernel_rfl) rfl (ee_name 2 rfl (by kernel_rfl) rfl (⟨_, _, _, rfl, rfl, atI_rg h2, ea_nil (⟨Nat.le_of_ble_eq_true rfl, eg_tup (egs_cons (eg_name 3 rfl (by kernel_rfl) (.inl rfl) trivial (egs_cons (eg_name 4 rfl (by kernel_rfl) (.inl rfl) trivial (egs_nil (eb_cons (es_if (et_cmp cp_eqI (nomark _) (ee_name 4 rfl (by kernel_rfl) rfl (ee_int (⟨_, ⟨_, _, rfl, rfl, rfl⟩, ⟨fun hk => eb_one (es_ret ((en_listOf (by kernel_rfl) A.f_list (ee_name 0 rfl (by kernel_rfl) rfl (⟨_, rfl, fun _ _ => ⟨_, rfl, ?_⟩⟩))).frz)), fun hk => eb_nil (eb_cons (es_asg 5 rfl (by kernel_rfl) (.inl rfl) (ee_if (et_cmp cp_gt (nomark _) (ee_name 3 rfl (by kernel_rfl) rfl (ee_int (⟨_, ⟨_, _, rfl, rfl, rfl⟩, ⟨fun hg => ee_int (eb_one (es_ret (ee_call (k_lowest_row A) (Nat.le_of_ble_eq_true rfl) (by kernel_rfl) (ea_cons ((en_lc [("one", 6), ("two", 7)] (by kernel_rfl) (lcq_map (List.range w) (fun j => PyData.tuple [.int (v j), .int (s j)]) (fun j => PyData.int ((if 0 < s pl then 1 else -1) * (v j * s pl - s j * v pl))) (ei_zip (by kernel_rfl) A.f_zip (ea_cons (ee_name 0 rfl (by kernel_rfl) rfl (ea_cons (ee_name 1 rfl (by kernel_rfl) rfl (ea_nil (⟨true, true, _, _, rfl, ⟨?_, ?_, fun x hx => eg_tup (egs_cons (eg_name 6 rfl (by kernel_rfl) (.inr rfl) (by decide) (egs_cons (eg_name 7 rfl (by kernel_rfl) (.inr rfl) (by decide) (egs_nil (ee_mul (ee_name 5 rfl (by kernel_rfl) rfl (ee_sub (ee_mul (ee_name 6 rfl (by kernel_rfl) rfl (ee_name 3 rfl (by kernel_rfl) rfl (⟨_, _, rfl, rfl, ⟨?_, ?_⟩, ee_mul (ee_name 7 rfl (by kernel_rfl) rfl (ee_name 4 rfl (by kernel_rfl) rfl (⟨_, _, rfl, rfl, ⟨?_, ?_⟩, ⟨_, _, rfl, rfl, ⟨_, _, rfl, rfl, ⟨?_, ?_⟩, ⟨?_, rfl⟩⟩⟩⟩)))⟩)))))))))))), fun _ _ => ea_nil (⟨w, fun j => (if 0 < s pl then 1 else -1) * (v j * s pl - s j * v pl), ?_, ⟨h1, ?_⟩, ⟨_, rfl, ?_⟩⟩)⟩⟩))))))))).frz))))), fun hg => ee_neg (ee_int (⟨_, rfl, eb_one (es_ret (ee_call (k_lowest_row A) (Nat.le_of_ble_eq_true rfl) (by kernel_rfl) (ea_cons ((en_lc [("one", 6), ("two", 7)] (by kernel_rfl) (lcq_map (List.range w) (fun j => PyData.tuple [.int (v j), .int (s j)]) (fun j => PyData.int ((if 0 < s pl then 1 else -1) * (v j * s pl - s j * v pl))) (ei_zip (by kernel_rfl) A.f_zip (ea_cons (ee_name 0 rfl (by kernel_rfl) rfl (ea_cons (ee_name 1 rfl (by kernel_rfl) rfl (ea_nil (⟨true, true, _, _, rfl, ⟨?_, ?_, fun x hx => eg_tup (egs_cons (eg_name 6 rfl (by kernel_rfl) (.inr rfl) (by decide) (egs_cons (eg_name 7 rfl (by kernel_rfl) (.inr rfl) (by decide) (egs_nil (ee_mul (ee_name 5 rfl (by kernel_rfl) rfl (ee_sub (ee_mul (ee_name 6 rfl (by kernel_rfl) rfl (ee_name 3 rfl (by kernel_rfl) rfl (⟨_, _, rfl, rfl, ⟨?_, ?_⟩, ee_mul (ee_name 7 rfl (by kernel_rfl) rfl (ee_name 4 rfl (by kernel_rfl) rfl (⟨_, _, rfl, rfl, ⟨?_, ?_⟩, ⟨_, _, rfl, rfl, ⟨_, _, rfl, rfl, ⟨?_, ?_⟩, ⟨?_, rfl⟩⟩⟩⟩)))⟩)))))))))))), fun _ _ => ea_nil (⟨w, fun j => (if 0 < s pl then 1 else -1) * (v j * s pl - s j * v pl), ?_, ⟨h1, ?_⟩, ⟨_, rfl, ?_⟩⟩)⟩⟩))))))))).frz))))⟩))⟩⟩)))))))⟩⟩)))))))))))⟩)⟩))))⟩)))))))
  all_goals first
    | exact rg_zip
    | exact Nat.le_trans (Nat.le_of_eq (List.length_range)) (by omega)
    | exact (h3 x (List.mem_range.mp hx)).mono (by decide)
    | exact (h4 x (List.mem_range.mp hx)).mono (by decide)
    | exact (h3 pl h2).mono (by decide)
    | exact (h4 pl h2).mono (by decide)
    | (show Bd 400000 1; exact Bd.sml (.inl rfl))
    | (show Bd 400000 (-1); exact Bd.sml (.inr rfl))
    | exact (pb x (List.mem_range.mp hx)).mono (by decide)
    | (have hg' := of_decide_eq_true hg; rw [if_pos hg']; done)
    | (have hg' := of_decide_eq_false hg; rw [if_neg hg']; done)
    | rfl
    | (intro x hx
       have := pb x hx
       unfold Bd at *
       rw [Int.natAbs_mul]
       have e : (if 0 < s pl then (1 : Int) else -1).natAbs = 1 := by split <;> rfl
       rw [e, Nat.one_mul]
       exact Nat.lt_of_lt_of_le this (Nat.pow_le_pow_right (by decide) (by decide)))
    | (rw [show clV w v s pl = v from if_pos (of_decide_eq_true hk)] at q; exact q)
    | (rw [show clV w v s pl = lowV w fun j => (if 0 < s pl then 1 else -1) * (v j * s pl - s j * v pl) from if_neg (of_decide_eq_false hk)] at q; exact q)
    | skip
end Sp
namespace Sp
open PySem PySem.Spec PyProof.Rows L2 Ly SV
variable {g : Gc}

theorem rg_at {n i : Nat} {F : Nat → PyData} {d : PyData} (h : (rg n F)[i]? = some d) : i < n ∧ d = F i := by
  have hi : i < n := by
    have := (List.getElem?_eq_some_iff.mp h).1
    rw [rg_len] at this
    exact this
  rw [rg_get hi] at h
  exact ⟨hi, (Option.some.inj h).symm⟩
theorem fB : 6 * (2 ^ 100 * (fact 6 * (2 ^ 100) ^ 6)) < 2 ^ 713 := by decide +kernel
theorem put_map {w k pl : Nat} {v : Nat → Int} {f : Nat → Nat → Int} {I : List Nat} (hk : k ∉ I) : (I.map fun i => dR w (clV w (f i) v pl)) ++ [dR w v] = (I ++ [k]).map fun i => dR w (putF w k pl v f i) := by
  rw [List.map_append]
  congr 1
  · exact List.map_congr_left fun i hi => by
      have : i ≠ k := fun z => hk (z ▸ hi)
      show _ = dR w (if i = k then v else clV w (f i) v pl)
      rw [if_neg this]
  · show _ = [dR w (if k = k then v else clV w (f k) v pl)]
    rw [if_pos rfl]
theorem k_stairs_of (A0 : Al g) : KnowsP g "stairs_of" 4 ["rows"] (fun ds post => ∃ (w : Nat) (A : Nat → Nat → Int), ds = [.list (rg 6 fun i => dR w (A i))] ∧ (w ≤ 1000 ∧ ∀ i, i < 6 → ∀ j, j < w → (A i j).natAbs ≤ 2 ^ 90) ∧ ∀ (I : List Nat) (L : Nat → Nat) (f : Nat → Nat → Int) (J : List Nat), SI 6 w A 6 I L f → J.Perm I → I.length ≤ 6 → post (.list (J.map fun i => dR w (f i)))) := by
  refine Knows.mkP A0.d_stairs_of sc_stairs_of (fun ds post h => by obtain ⟨_, _, rfl, _⟩ := h; rfl) ?_
  rintro ds post ⟨w, A, rfl, ⟨hw, hA90⟩, q⟩
  have hA : ∀ x, x < 6 → ∀ j, j < w → (A x j).natAbs ≤ 2 ^ 100 := fun x hx j hj => Nat.le_trans (hA90 x hx j hj) (Nat.pow_le_pow_right (by decide) (by decide))
  have hA1 : ∀ x, x < 6 → ∀ j, j < w → (A x j).natAbs < 2 ^ (100 + 714 * 0) := fun x hx j hj => Nat.lt_of_le_of_lt (hA90 x hx j hj) (Nat.pow_lt_pow_right (by decide) (by decide))
  have hA9 : ∀ x, x < 6 → ∀ j, j < w → Bd 9000 (A x j) := fun x hx j hj => Bd.mono (n := 100) (hA1 x hx j hj) (by decide)
  refine eb_cons (es_asg 1 rfl (by kernel_rfl) (.inl rfl) ((en_lst (ea_nil (⟨Nat.le_of_ble_eq_true rfl, fun _ _ => eb_cons (es_for (ei_list (ee_name 0 rfl (by kernel_rfl) rfl (⟨_, rfl, ⟨fun k en => ∃ I L f s2 s3 s4 s5, SI 6 w A k I L f ∧ I.length ≤ k ∧ en = [.dat (.list (rg 6 fun i => dR w (A i))), .dat (.list (I.map fun i => dR w (f i))), s2, s3, s4, s5], ⟨[], fun _ => 0, fun _ _ => 0, _, _, _, _, SI.zero, Nat.le_refl 0, rfl⟩, fun i d en2 hd hP => by (
 obtain ⟨I, L, f, s2, s3, s4, s5, S, Il, rfl⟩ := hP; obtain ⟨hk, rfl⟩ := rg_at hd; obtain ⟨k, rfl⟩ : ∃ k, k = i := ⟨i, rfl⟩; have fB1 : ∀ i, i ∈ I → ∀ j, j < w → (f i j).natAbs < 2 ^ 713 := fun i hi j hj => Nat.lt_of_le_of_lt (S.abs (M := 2 ^ 100) (Nat.two_pow_pos _) hA hi hj) fB; have fB4 : ∀ i, i ∈ I → ∀ j, j < w → Bd 4400 (f i j) := fun i hi j hj => Bd.mono (n := 713) (fB1 i hi j hj) (by decide); refine eg_name 2 rfl (by kernel_rfl) (.inl rfl) trivial (eb_cons (es_asg 3 rfl (by kernel_rfl) (.inl rfl) (ee_call (k_lowest_row A0) (Nat.le_of_ble_eq_true rfl) (by kernel_rfl) (ea_cons (ee_name 2 rfl (by kernel_rfl) rfl (ea_nil (⟨w, A k, rfl, ⟨by omega, fun j hj => hA9 k hk j hj⟩, eb_cons (es_for (ei_list (ee_name 1 rfl (by kernel_rfl) rfl (⟨_, rfl, ⟨fun n en => ∃ v s4 s5, Lf 6 w A k I L n v ∧ (∀ j, j < w → (v j).natAbs < 2 ^ (100 + 714 * n)) ∧ en = [.dat (.list (rg 6 fun i => dR w (A i))), .dat (.list (I.map fun i => dR w (f i))), .dat (dR w (A k)), .dat (dR w v), s4, s5], ⟨_, _, _, Lf.zero hk, fun j hj => Nat.lt_of_le_of_lt (lowV_abs hj) (hA1 k hk j hj), rfl⟩, fun i d en2 hd hP => by (
 obtain ⟨v, s4, s5, X, vb, rfl⟩ := hP; obtain ⟨i1, hn1, rfl⟩ := map_get hd; have hi1 : i1 ∈ I := List.mem_of_getElem? hn1; have hfi := first_is (S.Lw i1 hi1) (S.fL i1 hi1) (S.fb i1 hi1); have hnI : i < I.length := (List.getElem?_eq_some_iff.mp hn1).1; refine eg_name 4 rfl (by kernel_rfl) (.inl rfl) trivial (eb_one (es_asg 3 rfl (by kernel_rfl) (.inl rfl) (ee_call (k_cleared A0) (Nat.le_of_ble_eq_true rfl) (by kernel_rfl) (ea_cons (ee_name 3 rfl (by kernel_rfl) rfl (ea_cons (ee_name 4 rfl (by kernel_rfl) rfl (ea_cons (ee_call (k_first_place A0) (Nat.le_of_ble_eq_true rfl) (by kernel_rfl) (ea_cons (ee_name 4 rfl (by kernel_rfl) rfl (ea_nil (⟨w, f i1, rfl, by omega, ea_nil (⟨w, L i1, v, f i1, (by rw [hfi]), ⟨by omega, S.Lw i1 hi1, ?_, fB4 i1 hi1⟩, ⟨_, _, _, X.step S hk hn1, fun j hj => Nat.lt_of_lt_of_le (clV_abs (S.Lw i1 hi1) vb (fun j hj => fB1 i1 hi1 j hj) j hj) (Nat.pow_le_pow_right (by decide) (by omega)), rfl⟩⟩)⟩))))))))))))); exact fun j hj => Bd.mono (n := 100 + 714 * i) (vb j hj) (by omega)), fun en2 hP => by (
 obtain ⟨v, s4, s5, X, vb, rfl⟩ := hP; rw [List.length_map] at X vb; have vB : ∀ j, j < w → Bd 4400 (v j) := fun j hj => Bd.mono (n := 100 + 714 * I.length) (vb j hj) (by omega); refine eb_cons (es_asg 5 rfl (by kernel_rfl) (.inl rfl) (ee_call (k_first_place A0) (Nat.le_of_ble_eq_true rfl) (by kernel_rfl) (ea_cons (ee_name 3 rfl (by kernel_rfl) rfl (ea_nil (⟨w, v, rfl, by omega, eb_one ((by
    cases hp : firstF v w with
    | none =>
      refine es_if (et_cmp cp_notN (nomark _) (ee_name 5 rfl (by kernel_rfl) rfl (ee_none (⟨_, ⟨rfl, rfl⟩, ⟨fun z => (by cases z), fun hk2 => eb_nil (?_)⟩⟩))))
      all_goals first
        | exact ⟨I, L, f, _, _, _, _, S.skip hk X (first_none hp), by omega, rfl⟩
        | skip
    | some pl =>
      have hpl := first_some hp
      have kI : k ∉ I := fun z => Nat.lt_irrefl _ (S.Ik k z)
      refine es_if (et_cmp cp_notN (nomark _) (ee_name 5 rfl (by kernel_rfl) rfl (ee_none (⟨_, ⟨rfl, rfl⟩, ⟨fun hk2 => eb_one (es_asg 1 rfl (by kernel_rfl) (.inl rfl) ((en_catL ((en_lc [("step", 4)] (by kernel_rfl) (lcq_map I (fun i => dR w (f i)) (fun i => dR w (clV w (f i) v pl)) (ei_list (ee_name 1 rfl (by kernel_rfl) rfl (⟨_, rfl, ⟨?_, ?_, fun x hx => eg_name 4 rfl (by kernel_rfl) (.inr rfl) (by decide) (ee_call (k_cleared A0) (Nat.le_of_ble_eq_true rfl) (by kernel_rfl) (ea_cons (ee_name 4 rfl (by kernel_rfl) rfl (ea_cons (ee_name 3 rfl (by kernel_rfl) rfl (ea_cons (ee_name 5 rfl (by kernel_rfl) rfl (ea_nil (⟨w, pl, f x, v, rfl, ⟨by omega, hpl.1, fB4 x hx, vB⟩, ⟨rfl, rfl⟩⟩))))))))), fun _ _ => (en_lst (ea_cons (ee_name 3 rfl (by kernel_rfl) rfl (ea_nil (⟨Nat.le_of_ble_eq_true rfl, fun _ _ => ⟨_, _, rfl, rfl, ?_, fun _ _ => ?_⟩⟩))))).frz⟩⟩))))).frz)).frz)), fun z => (by cases z)⟩⟩))))
      all_goals first
        | rfl
        | omega
        | (simp only [List.length_map, List.length_singleton]; omega)
        | (refine ⟨I ++ [k], putN k pl L, putF w k pl v f, .dat (dR w (A k)), .dat (dR w v), .no, .dat (.int ((pl : Nat) : Int)), S.add hk X hpl.1 hpl.2.1 hpl.2.2, (by rw [List.length_append, List.length_singleton]; omega), ?_⟩; rw [← put_map kI]; rfl)
        | skip))⟩)))))); skip)⟩⟩))))⟩))))))); skip), fun en2 hP => by (
 obtain ⟨I, L, f, s2, s3, s4, s5, S, Il, rfl⟩ := hP; rw [rg_len] at S Il; refine eb_one (es_ret ((en_sortedKey (k_first_place A0) (Nat.le_of_ble_eq_true rfl) (by kernel_rfl) A0.f_sorted (by kernel_rfl) (ee_name 1 rfl (by kernel_rfl) rfl (⟨I, (fun i => dR w (f i)), (fun i => ((L i : Nat) : Int)), rfl, ?_, ?_, fun _ _ cs hp => ⟨_, rfl, q I L f cs S hp Il⟩⟩))).frz)); all_goals first
    | omega
    | (intro i hi po hpo; exact ⟨w, f i, rfl, by omega, by rw [first_is (S.Lw i hi) (S.fL i hi) (S.fb i hi)]; exact hpo⟩)
    | skip)⟩⟩))))⟩))).frz))

end Sp
namespace Sp
open PySem PySem.Spec PyProof.Rows L2 Ly SV
variable {g : Gc}

theorem fr0 : fr 0 = d01 := by
  show PyData.tuple [.int (0 : Rat).num, .int ((0 : Rat).den : Nat)] = _
  rfl
theorem rep_fr0 {n : Nat} {L : Nat → Nat} {q : Nat → Rat} {h : Nat} : (List.replicate ((n : Nat) : Int).toNat [PyData.tuple [PyData.int 0, PyData.int 1]]).flatten = rg n fun j => fr (valJ h L q [] j) := by
  rw [Int.toNat_natCast]
  apply List.ext_getElem
  · simp [rg]
  · intro k h1 h2
    simp [rg]
    rw [valJ_nil]
    show (0 : Int) = (0 : Rat).num ∧ _
    exact ⟨rfl, rfl⟩
theorem val_start {n : Nat} {L : Nat → Nat} {q : Nat → Rat} {J : List Nat} : (rg n fun j => fr (valJ 6 L q (J.take 0) j)) = rg n fun j => fr (valJ 6 (fun _ => 0) (fun _ => 0) [] j) := rg_congr fun j _ => by rw [List.take_zero, valJ_nil, valJ_nil]
theorem getD_rg {α : Type} {n i : Nat} {F : Nat → α} {d : α} (h : i < n) : (rg n F).getD i d = F i := by
  rw [List.getD_eq_getElem?_getD, rg_get h]; rfl
theorem mem_take_snoc {α : Type} {J : List α} {i : Nat} {x : α} (h : J[i]? = some x) : J.take (i + 1) = J.take i ++ [x] := by rw [List.take_add_one, h]; rfl
theorem k_shares_for (A : Al g) : KnowsP g "shares_for" 5 ["rows", "wanted"] (fun ds post => ∃ (rs : List (List Rat)) (wd : List Rat), ds = [.list (rs.map frs), frs wd] ∧ Rows rs wd ∧ ((¬ ∃ x, Sh rs wd x) → post .none) ∧
    ∀ x : Nat → Rat, Sh rs wd x → (∀ j, Sz 650 (x j)) → post (frs (rg rs.length x))) := by
  refine Knows.mkP A.d_shares_for sc_shares_for (fun ds post h => by obtain ⟨_, _, rfl, _⟩ := h; rfl) ?_
  rintro ds post ⟨rs, wd, rfl, R, q1, q2⟩
  have hn := R.n
  refine eb_cons (es_asg 2 rfl (by kernel_rfl) (.inl rfl) (ee_callB bc_len (by kernel_rfl) A.f_len (by kernel_rfl) (ea_cons (ee_name 0 rfl (by kernel_rfl) rfl (ea_nil (⟨_, ⟨_, _, rfl, rfl, rfl⟩, ?_⟩))))))
  rw [List.length_map]
  refine eb_cons (es_lc 3 [("at", 7)] (by kernel_rfl) rfl (by kernel_rfl) (lcq_map (List.range 6) (fun x => PyData.int ((x : Nat) : Int)) (fun y => dR (rs.length + 1) (lineA rs wd y)) (ei_range1 (by kernel_rfl) A.f_range (ee_callB bc_len (by kernel_rfl) A.f_len (by kernel_rfl) (ea_cons (ee_name 1 rfl (by kernel_rfl) rfl (ea_nil (⟨_, ⟨_, _, rfl, rfl, rfl⟩, ⟨_, rfl, ?_, ⟨?_, ?_, fun x hx => eg_name 7 rfl (by kernel_rfl) (.inl (by kernel_rfl)) (by decide) (ee_call (k_whole_row A) (Nat.le_of_ble_eq_true rfl) (by kernel_rfl) (ea_cons ((en_catL ((en_lc [("row", 8)] (by kernel_rfl) (lcq_map rs frs (fun r => fr (r.getD x 0)) (ei_list (ee_name 0 rfl (by kernel_rfl) rfl (⟨_, rfl, ⟨?_, ?_, fun r hr => eg_name 8 rfl (by kernel_rfl) (.inr rfl) (by decide) (ee_ix (ee_name 8 rfl (by kernel_rfl) rfl (ee_name 7 rfl (by kernel_rfl) rfl (⟨_, _, _, rfl, rfl, atI_map (by rw [R.len r hr]; exact List.mem_range.mp hx), ⟨rfl, rfl⟩⟩)))), fun _ _ => (en_lst (ea_cons (ee_ix (ee_name 1 rfl (by kernel_rfl) rfl (ee_name 7 rfl (by kernel_rfl) rfl (⟨_, _, _, rfl, rfl, atI_map (by rw [R.wl]; exact List.mem_range.mp hx), ea_nil (⟨Nat.le_of_ble_eq_true rfl, fun _ _ => ⟨_, _, rfl, rfl, ?_, fun _ _ => ea_nil (⟨qsL rs wd x, by unfold qsL; rw [List.map_append, List.map_map]; rfl, ⟨by rw [qs_len]; omega, ?_, ?_⟩, ?_, ⟨?_, rfl⟩⟩)⟩⟩)⟩)))))).frz⟩⟩))))).frz)).frz))), fun _ _ => ?_⟩⟩⟩))))))))
  all_goals try (first
    | (rw [List.length_map, R.wl]; exact rgD_map 6)
    | (rw [List.length_map, R.wl]; exact ⟨by decide, by decide⟩)
    | exact Nat.le_of_ble_eq_true rfl
    | rfl
    | omega
    | (rw [List.length_append, List.length_map]; show _ + 1 ≤ 1000; omega)
    | (rw [List.length_map]; show _ + 1 ≤ 1000; omega)
    | exact R.lcm6 (List.mem_range.mp hx)
    | exact R.num6 (List.mem_range.mp hx)
    | exact R.ov6 (List.mem_range.mp hx)
    | (rw [qs_len]; rfl))
  refine eb_frz 3 rfl ?_
  refine eb_cons (es_asgN 4 rfl (by kernel_rfl) (.inl rfl) (en_rep (en_lst (ea_cons (ee_tup (ea_cons (ee_int (ea_cons (ee_int (ea_nil (⟨Nat.le_of_ble_eq_true rfl, ea_nil (⟨Nat.le_of_ble_eq_true rfl, fun _ _ => ee_name 2 rfl (by kernel_rfl) rfl (⟨_, rfl, ?_, fun _ _ => ?_⟩)⟩)⟩)))))))))))
  · exact ⟨by omega, by omega, by decide⟩
  rw [rep_fr0 (L := fun _ => 0) (q := fun _ => 0) (h := 6)]
  refine eb_cons (es_for (ei_list (ee_call (k_stairs_of A) (Nat.le_of_ble_eq_true rfl) (by kernel_rfl) (ea_cons (ee_name 3 rfl (by kernel_rfl) rfl (ea_nil (⟨rs.length + 1, lineA rs wd, rfl, ⟨by omega, fun i hi j hj => R.line hi hj⟩, fun I L f J S hp hl => ⟨_, rfl, ⟨fun i en => ∃ a s3 s5 s6 s7 s8, (∀ i1, i1 ∈ J.take i → L i1 < rs.length) ∧ en = [.dat (.list (rs.map frs)), .dat (frs wd), .dat (.int ((rs.length : Nat) : Int)), s3, .cel a (rg rs.length fun j => fr (valJ 6 L (qF rs.length L f) (J.take i) j)), s5, s6, s7, s8], ?_, ?_, ?_⟩⟩⟩)))))))
  · exact ⟨_, _, _, _, _, _, fun i hi => (by simp at hi), by rw [val_start]; rfl⟩
  · intro i d en2 hd hP
    obtain ⟨a, s3, s5, s6, s7, s8, lt, rfl⟩ := hP; obtain ⟨i1, hn1, rfl⟩ := map_get hd; have hi1 : i1 ∈ I := hp.mem_iff.mp (List.mem_of_getElem? hn1); have h6 : i1 < 6 := Nat.lt_of_lt_of_le (S.Ik i1 hi1) S.kh
    have hfi := first_is (S.Lw i1 hi1) (S.fL i1 hi1) (S.fb i1 hi1)
    have nt : ∀ i', i' ∈ J.take i → L i' ≠ L i1 := fun i' hi' z => (by
      have e := S.inj (hp.mem_iff.mp (List.mem_of_mem_take hi')) hi1 z
      subst e
      have nd := hp.nodup_iff.mpr S.nd
      obtain ⟨j, hj, e2⟩ := List.getElem_of_mem hi'
      rw [List.length_take] at hj
      have e3 : J[j]? = some i' := (by rw [List.getElem_take] at e2; rw [← e2]; exact List.getElem?_eq_getElem (by omega))
      have := (List.getElem?_inj (i := j) (j := i) (by omega) nd).mp (e3.trans hn1.symm)
      omega)
    have fb : ∀ i, i ∈ I → ∀ j, j < rs.length + 1 → Bd 9000 (f i j) := fun i hi j hj => Bd.mono (n := 650) (Nat.lt_of_le_of_lt (S.abs (M := 2 ^ 90) (Nat.two_pow_pos _) (fun x hx j hj => R.line hx hj) hi hj) fB') (by decide)
    refine eg_name 5 rfl (by kernel_rfl) (.inl rfl) trivial (?_)
    refine eb_cons (es_asg 6 rfl (by kernel_rfl) (.inl rfl) (ee_call (k_first_place A) (Nat.le_of_ble_eq_true rfl) (by kernel_rfl) (ea_cons (ee_name 5 rfl (by kernel_rfl) rfl (ea_nil (⟨rs.length + 1, f i1, rfl, by omega, ?_⟩))))))
    rw [hfi]
    refine eb_cons (es_if (et_cmp cp_eqI (nomark _) (ee_name 6 rfl (by kernel_rfl) rfl (ee_name 2 rfl (by kernel_rfl) rfl (⟨_, ⟨_, _, rfl, rfl, rfl⟩, ⟨fun hk => eb_one (es_ret (ee_none (⟨_, rfl, q1 fun ⟨x, hx⟩ => sh_no S hi1 (by have := of_decide_eq_true hk; omega) x hx⟩))), fun hk => eb_nil (?_)⟩⟩)))))
    have hLi : L i1 < rs.length := by
      have h1 := S.Lw i1 hi1
      have h2 : ¬ ((L i1 : Nat) : Int) = ((rs.length : Nat) : Int) := of_decide_eq_false (by assumption)
      omega
    refine eb_one (es_asgT (ee_call (k_ratio A) (Nat.le_of_ble_eq_true rfl) (by kernel_rfl) (ea_cons (ee_ix (ee_name 5 rfl (by kernel_rfl) rfl (ee_name 2 rfl (by kernel_rfl) rfl (⟨_, _, _, rfl, rfl, atI_rg (by omega), ea_cons (ee_ix (ee_name 5 rfl (by kernel_rfl) rfl (ee_name 6 rfl (by kernel_rfl) rfl (⟨_, _, _, rfl, rfl, atI_rg (S.Lw i1 hi1), ea_nil (⟨_, _, rfl, ⟨S.fL i1 hi1, fb i1 hi1 _ (by omega), fb i1 hi1 _ (S.Lw i1 hi1)⟩, eg_sub 4 rfl (by kernel_rfl) rfl (ee_name 6 rfl (by kernel_rfl) rfl (⟨_, _, _, rfl, rfl, ixN_rg hLi, ?_⟩))⟩)⟩))))⟩)))))))
    refine ⟨a, s3, .dat (dR (rs.length + 1) (f i1)), .dat (.int ((L i1 : Nat) : Int)), s7, s8, fun i' hi' => ?_, ?_⟩
    · rw [mem_take_snoc hn1] at hi'
      rcases List.mem_append.mp hi' with z | z
      · exact lt i' z
      · rw [List.mem_singleton.mp z]; exact hLi
    · have e : ((rg rs.length fun j => fr (valJ 6 L (qF rs.length L f) (J.take i) j)).set (L i1) (fr (Rat.divInt (f i1 rs.length) (f i1 (L i1))))) = rg rs.length fun j => fr (valJ 6 L (qF rs.length L f) (J.take (i + 1)) j) := by
        rw [rg_set, mem_take_snoc hn1]
        exact rg_congr fun j _ => by rw [valJ_snoc h6 nt]; split <;> rfl
      rw [← e]
      rfl
  · intro en2 hP
    obtain ⟨a, s3, s5, s6, s7, s8, lt, rfl⟩ := hP
    rw [List.length_map, List.take_length] at *
    refine eb_frz 4 rfl (eb_one (es_ret (ee_tupleOf (by kernel_rfl) A.f_tuple (ee_name 4 rfl (by kernel_rfl) rfl (⟨_, rfl, ⟨_, rfl, ?_⟩⟩)))))
    have := q2 (valJ 6 L (qF rs.length L f) J) (sh_yes S (fun i => hp.mem_iff) lt) (sh_sz R S (fun i hi => hp.mem_iff.mp hi) fun i i' hi hi' e => S.inj (hp.mem_iff.mp hi) (hp.mem_iff.mp hi') e)
    unfold frs rg at this
    rw [List.map_map] at this
    exact this
end Sp
namespace Sp
open PySem PySem.Spec PyProof.Rows L2 Ly SV
variable {g : Gc}

theorem k2_rows_across (A : Al g) : KnowsP g "rows_across" 1 ["columns", "height"] (fun ds post => ∃ (w h : Nat) (M : Nat → Nat → Int), ds = [.list (rg w fun j => dR h fun i => M i j), .int ((h : Nat) : Int)] ∧ (w ≤ 1000 ∧ h ≤ 1000) ∧ post (.list (rg h fun i => dR w (M i)))) := by
  refine Knows.mkP A.d_rows_across sc_rows_across (fun ds post h => by obtain ⟨_, _, _, rfl, _⟩ := h; rfl) ?_
  rintro ds post ⟨w, h, M, rfl, ⟨h1, h2⟩, q⟩
  refine eb_one (es_ret ((en_lc [("at", 2)] (by kernel_rfl) (lcq_map (List.range h) (fun i => PyData.int ((i : Nat) : Int)) (fun i => dR w (M i)) (ei_range1 (by kernel_rfl) A.f_range (ee_name 1 rfl (by kernel_rfl) rfl (⟨_, rfl, ?_, ⟨?_, ?_, fun i hi => eg_name 2 rfl (by kernel_rfl) (.inl (by kernel_rfl)) (by decide) ((en_lc [("column", 3)] (by kernel_rfl) (lcq_map (List.range w) (fun j => dR h fun i => M i j) (fun j => PyData.int (M i j)) (ei_list (ee_name 0 rfl (by kernel_rfl) rfl (⟨_, rfl, ⟨?_, ?_, fun c hc => eg_name 3 rfl (by kernel_rfl) (.inr rfl) (by decide) (ee_ix (ee_name 3 rfl (by kernel_rfl) rfl (ee_name 2 rfl (by kernel_rfl) rfl (⟨_, _, _, rfl, rfl, atI_rg (List.mem_range.mp hi), ⟨rfl, rfl⟩⟩)))), fun _ _ => ⟨rfl, rfl⟩⟩⟩))))).frz), fun _ _ => ⟨_, rfl, q⟩⟩⟩))))).frz))
  all_goals first
    | omega
    | rfl
    | (rw [Int.toNat_natCast]; exact rgD_map _)
    | exact Nat.le_trans (Nat.le_of_eq (List.length_range)) (by omega)
    | skip
theorem cost_dR {ps : List Pin} : dL ((rg (2 * ps.length) (prA ps)).map (ovr (lcmL (rg (2 * ps.length) (prA ps))))) = dR (2 * ps.length) (cA ps) := by
  unfold dL rg
  rw [List.map_map, List.map_map]
  rfl
theorem num_dR {wd : List Rat} (h : wd.length = 6) : dL (wd.map (ovr (lcmL wd))) = dR 6 (bA wd) := by
  have := qs_rg wd (ovr (lcmL wd))
  rw [h] at this
  unfold dL
  rw [this]
  rfl
abbrev ovD (p : Pin) : PyData := .tuple [dR 6 (fun i => ovr (lcmL p.row) (p.row.getD i 0)), .int ((lcmL p.row : Nat) : Int)]
theorem pA_get {ps : List Pin} {i : Nat} {p : Pin} (h : ps[i]? = some p) : pA ps i = p := by unfold pA; rw [List.getD_eq_getElem?_getD, h]; rfl
theorem rg_two {α : Type} {i : Nat} {F : Nat → α} : rg (2 * (i + 1)) F = rg (2 * i) F ++ [F (2 * i)] ++ [F (2 * i + 1)] := by
  rw [show 2 * (i + 1) = 2 * i + 1 + 1 by omega, rg_snoc, rg_snoc]
theorem rg_fr {n : Nat} {q : Nat → Rat} : (rg n q).map fr = rg n fun j => fr (q j) := by unfold rg; rw [List.map_map]; rfl
theorem atI_two {F : Nat → PyData} {n a : Nat} (h : a < n) : atI (rg (2 * n) F) (2 * ((a : Nat) : Int)) = some (F (2 * a)) := by
  have := atI_rg (F := F) (n := 2 * n) (i := 2 * a) (by omega)
  rw [show (((2 * a : Nat)) : Int) = 2 * ((a : Nat) : Int) by omega] at this
  exact this
theorem atI_two1 {F : Nat → PyData} {n a : Nat} (h : a < n) : atI (rg (2 * n) F) (2 * ((a : Nat) : Int) + 1) = some (F (2 * a + 1)) := by
  have := atI_rg (F := F) (n := 2 * n) (i := 2 * a + 1) (by omega)
  rw [show (((2 * a + 1 : Nat)) : Int) = 2 * ((a : Nat) : Int) + 1 by omega] at this
  exact this
theorem zip_pins {ps : List Pin} : zipD (ps.map ovD) (ps.map pinD) = ps.map fun p => PyData.tuple [ovD p, pinD p] := by
  rw [zipD_map, zip_self, List.map_map]
  rfl
theorem enum_pins {ps : List Pin} : enumD (ps.map ovD) = (List.range ps.length).map fun a => PyData.tuple [.int ((a : Nat) : Int), ovD (pA ps a)] := by
  unfold enumD
  rw [List.length_map]
  refine List.map_congr_left fun a ha => ?_
  have ha := List.mem_range.mp ha
  congr 2
  rw [List.getD_eq_getElem?_getD, List.getElem?_map, pA, List.getD_eq_getElem?_getD, List.getElem?_eq_getElem ha]
  rfl
theorem sum_zip {n : Nat} {c v : Nat → Int} : (((rg n c).zip (rg n v)).map fun p => p.1 * p.2).sum = sumN n fun j => c j * v j := by
  unfold rg
  rw [List.zip_map, List.map_map, zip_self, List.map_map]
  exact sum_rgI n fun j => c j * v j
theorem cut_pins {ps : List Pin} {i : Nat} {p : Pin} (h : ps[i]? = some p) : (rg (2 * i) fun j => dR 6 fun x => mA ps x j) ++ [dR 6 fun x => ovr (lcmL p.row) (p.row.getD x 0)] ++ [PyData.list ((List.range 6).map fun x => PyData.int (-ovr (lcmL p.row) (p.row.getD x 0)))] = rg (2 * (i + 1)) fun j => dR 6 fun x => mA ps x j := by
  rw [rg_two]
  have e := pA_get h
  congr 2
  · congr 1
    show dR 6 _ = dR 6 fun x => mA ps x (2 * i)
    congr 1
    funext x
    rw [m_even]; unfold scA rwA; rw [e]
  · show dR 6 (fun x => -ovr (lcmL p.row) (p.row.getD x 0)) = dR 6 fun x => mA ps x (2 * i + 1)
    congr 1
    funext x
    rw [m_odd]; unfold scA rwA; rw [e]
theorem cut_prices {ps : List Pin} {i : Nat} {p : Pin} (h : ps[i]? = some p) : (rg (2 * i) fun j => fr (prA ps j)) ++ [fr ((((lcmL p.row : Nat) : Int) : Rat) * p.hi)] ++ [fr (((-((lcmL p.row : Nat) : Int) : Int) : Rat) * p.lo)] = rg (2 * (i + 1)) fun j => fr (prA ps j) := by
  rw [rg_two, p_even, p_odd]
  unfold scA
  rw [pA_get h]
theorem shaped_str {x : Str} (h : (PyData.str x).canLay0 = true) : SeqAt.shaped (.str x) = true := by
  show ((PyData.str x).canLay0 && decide (PyData.depth (.str x) ≤ 64)) = true
  rw [h]; rfl
theorem k_bound_on (A : Al g) : KnowsP g "bound_on" 9 ["gauge", "wanted"] (fun ds post => ∃ (ps : List Pin) (wd : List Rat), ds = [.tuple (ps.map pinD), frs wd] ∧ (GOk ps wd ∧ (∀ p, p ∈ ps → p.ok) ∧ ∃ m, Fits ps m) ∧
    ((¬ ∃ x, Sh (rowsOf ps) wd x) → post (.tuple [.str "none", .none, .none, .none])) ∧ ∀ (w : Nat → Rat) (mv : PyData), Best ps wd w → post (.tuple [.str "least", fr (worth ps w), frs (rg ps.length w), mv])) := by
  refine Knows.mkP A.d_bound_on sc_bound_on (fun ds post h => by obtain ⟨_, _, rfl, _⟩ := h; rfl) ?_
  rintro ds post ⟨ps, wd, rfl, ⟨G, ok, m, F⟩, q1, q2⟩
  have hn := G.n
  have hw := G.wl
  refine eb_cons (es_lc 2 [("row", 17)] (by kernel_rfl) rfl (by kernel_rfl) (lcq_map ps (fun p => frs p.row) ovD (ei_list (ee_call (k_pin_rows A) (Nat.le_of_ble_eq_true rfl) (by kernel_rfl) (ea_cons (ee_name 0 rfl (by kernel_rfl) rfl (ea_nil (⟨ps, rfl, ⟨by omega, ok⟩, ⟨_, rfl, ⟨?_, ?_, fun p hp => eg_name 17 rfl (by kernel_rfl) (.inr rfl) (by decide) (ee_call (k_over_one A) (Nat.le_of_ble_eq_true rfl) (by kernel_rfl) (ea_cons (ee_name 17 rfl (by kernel_rfl) rfl (ea_nil (⟨false, p.row, rfl, ⟨Nat.le_of_ble_eq_true rfl, ?_, ?_⟩, ⟨rfl, rfl⟩⟩))))), fun _ _ => ?_⟩⟩⟩))))))))
  all_goals try (first
    | rfl
    | omega
    | exact Nat.lt_of_le_of_lt (lcm_le fun q hq => G.rb p hp q hq) (Nat.lt_of_lt_of_le (by decide : 12 ^ 12 < 2 ^ 44) (Nat.pow_le_pow_right (by decide) (by decide)))
    | exact (fun q hq => Nat.lt_of_lt_of_le (Bq.rbsz (G.rb p hp q hq)).1 (Nat.pow_le_pow_right (by decide) (by decide))))
  refine eb_frz 2 rfl ?_
  refine eb_cons (es_par2N 3 4 rfl rfl (by decide) (by kernel_rfl) (by kernel_rfl) (en_lst (ea_nil ⟨Nat.le_of_ble_eq_true rfl, fun _ _ => en_lst (ea_nil ⟨Nat.le_of_ble_eq_true rfl, fun _ _ => ?_⟩)⟩)))
  refine eb_cons (es_for (ei_zip (by kernel_rfl) A.f_zip (ea_cons (ee_name 2 rfl (by kernel_rfl) rfl (ea_cons (ee_name 0 rfl (by kernel_rfl) rfl (ea_nil (⟨true, false, _, _, rfl, ⟨fun i en => ∃ a b s5 s6 s7, en = [.dat (.tuple (ps.map pinD)), .dat (frs wd), .dat (.list (ps.map ovD)), .cel a (rg (2 * i) fun j => dR 6 fun x => mA ps x j), .cel b (rg (2 * i) fun j => fr (prA ps j)), s5, s6, s7, .no, .no, .no, .no, .no, .no, .no, .no, .no, .no, .no, .no], ⟨_, _, _, _, _, rfl⟩, ?_, ?_⟩⟩))))))))
  · intro i d en2 hd hP
    obtain ⟨a, b, s5, s6, s7, rfl⟩ := hP
    rw [zip_pins] at hd
    obtain ⟨p, hp, rfl⟩ := map_get hd
    have hpm := List.mem_of_getElem? hp
    have hil := (List.getElem?_eq_some_iff.mp hp).1
    have scb : ((lcmL p.row : Nat) : Int).natAbs < 2 ^ 44 := (by rw [Int.natAbs_natCast]; exact Nat.lt_of_le_of_lt (lcm_le fun q hq => G.rb p hpm q hq) (by decide))
    refine eg_tup (egs_cons (eg_tup (egs_cons (eg_name 5 rfl (by kernel_rfl) (.inl rfl) trivial (egs_cons (eg_name 6 rfl (by kernel_rfl) (.inl rfl) trivial (egs_nil (egs_cons (eg_name 7 rfl (by kernel_rfl) (.inl rfl) trivial (egs_nil (eb_cons (es_append 3 rfl (by kernel_rfl) rfl (ee_name 5 rfl (by kernel_rfl) rfl (⟨_, rfl, ?_, eb_cons (es_append 3 rfl (by kernel_rfl) rfl ((en_lc [("number", 18)] (by kernel_rfl) (lcq_map (List.range 6) (fun x => PyData.int (ovr (lcmL p.row) (p.row.getD x 0))) (fun x => PyData.int (-ovr (lcmL p.row) (p.row.getD x 0))) (ei_list (ee_name 5 rfl (by kernel_rfl) rfl (⟨_, rfl, ⟨?_, ?_, fun x hx => eg_name 18 rfl (by kernel_rfl) (.inr rfl) (by decide) (ee_neg (ee_name 18 rfl (by kernel_rfl) rfl (⟨_, rfl, ⟨rfl, rfl⟩⟩))), fun _ _ => ⟨_, rfl, ?_, eb_cons (es_append 4 rfl (by kernel_rfl) rfl (ee_call (k_times A) (Nat.le_of_ble_eq_true rfl) (by kernel_rfl) (ea_cons (ee_tup (ea_cons (ee_name 6 rfl (by kernel_rfl) rfl (ea_cons (ee_int (ea_nil (⟨Nat.le_of_ble_eq_true rfl, ea_cons (ee_ix (ee_ix (ee_name 7 rfl (by kernel_rfl) rfl (ee_int (⟨_, _, _, rfl, rfl, rfl, ee_int (⟨_, _, _, rfl, rfl, rfl, ea_nil (⟨((((lcmL p.row : Nat) : Int)) : Rat), p.hi, rfl, ⟨?_, ?_⟩, ⟨_, rfl, ?_, eb_one (es_append 4 rfl (by kernel_rfl) rfl (ee_call (k_times A) (Nat.le_of_ble_eq_true rfl) (by kernel_rfl) (ea_cons (ee_tup (ea_cons (ee_neg (ee_name 6 rfl (by kernel_rfl) rfl (⟨_, rfl, ea_cons (ee_int (ea_nil (⟨Nat.le_of_ble_eq_true rfl, ea_cons (ee_ix (ee_ix (ee_name 7 rfl (by kernel_rfl) rfl (ee_int (⟨_, _, _, rfl, rfl, rfl, ee_int (⟨_, _, _, rfl, rfl, rfl, ea_nil (⟨((-((lcmL p.row : Nat) : Int) : Int) : Rat), p.lo, rfl, ⟨?_, ?_⟩, ⟨_, rfl, ?_, ⟨a, b, _, _, _, by rw [← cut_pins hp, ← cut_prices hp]; rfl⟩⟩⟩)⟩)⟩)))))⟩)))⟩))))))))⟩⟩)⟩)⟩)))))⟩))))))))))⟩⟩⟩))))).frz))⟩))))))))))))))
    all_goals first
        | (simp only [rg_len, List.length_append, List.length_cons, List.length_nil]; omega)
        | rfl
        | exact Nat.le_of_ble_eq_true rfl
        | exact (sz_int scb (by decide)).mono (by decide)
        | exact (sz_int (by rw [Int.natAbs_neg]; exact scb) (by decide)).mono (by decide)
        | exact (G.sl p hpm).2.mono (by decide)
        | exact (G.sl p hpm).1.mono (by decide)
        | skip
  · intro en2 hP
    obtain ⟨a, b, s5, s6, s7, rfl⟩ := hP
    rw [zip_pins, List.length_map]
    refine eb_frz 4 rfl ?_
    refine eb_frz 3 rfl ?_
    refine eb_cons (es_asgT (ee_call (k_over_one A) (Nat.le_of_ble_eq_true rfl) (by kernel_rfl) (ea_cons (ee_name 4 rfl (by kernel_rfl) rfl (ea_nil (⟨true, rg (2 * ps.length) (prA ps), congrArg (fun l => [PyData.list l]) rg_fr.symm, ⟨?_, ?_, ?_⟩, eg_tup (egs_cons (eg_name 8 rfl (by kernel_rfl) (.inl rfl) trivial (egs_cons (eg_name 9 rfl (by kernel_rfl) (.inl rfl) trivial (egs_nil (?_))))))⟩))))))
    · rw [rg_len]; omega
    · exact Nat.lt_of_le_of_lt G.coin (Nat.pow_lt_pow_right (by decide) (by decide))
    · intro q hq
      obtain ⟨j, hj, rfl⟩ := mem_rg.mp hq
      exact Nat.lt_of_lt_of_le (G.pr hj).1 (Nat.pow_le_pow_right (by decide) (by decide))
    rw [cost_dR]
    refine eb_cons (es_asgT (ee_call (k_over_one A) (Nat.le_of_ble_eq_true rfl) (by kernel_rfl) (ea_cons (ee_name 1 rfl (by kernel_rfl) rfl (ea_nil (⟨false, wd, rfl, ⟨by omega, ?_, ?_⟩, eg_tup (egs_cons (eg_name 5 rfl (by kernel_rfl) (.inl rfl) trivial (egs_cons (eg_name 10 rfl (by kernel_rfl) (.inl rfl) trivial (egs_nil (?_))))))⟩))))))
    · exact Nat.lt_of_le_of_lt (lcm_le G.wb) (Nat.lt_of_le_of_lt (by decide : 12 ^ 12 ≤ 2 ^ 44) (Nat.pow_lt_pow_right (by decide) (by decide)))
    · exact fun q hq => Nat.lt_of_lt_of_le (Bq.rbsz (G.wb q hq)).1 (Nat.pow_le_pow_right (by decide) (by decide))
    rw [num_dR hw]
    refine eb_en [.dat _, .dat _, .dat _, .dat _, .dat _, .dat _, _, _, .dat _, .dat _, .dat _, .no, .no, .no, .no, .no, .no, .no, .no, .no] rfl ?_
    refine eb_cons (es_asgT (ee_call (k_least_of A) (Nat.le_of_ble_eq_true rfl) (by kernel_rfl) (ea_cons (ee_call (k2_rows_across A) (Nat.le_of_ble_eq_true rfl) (by kernel_rfl) (ea_cons (ee_name 3 rfl (by kernel_rfl) rfl (ea_cons (ee_int (ea_nil (⟨2 * ps.length, 6, mA ps, rfl, ⟨by omega, by omega⟩, ea_cons (ee_name 5 rfl (by kernel_rfl) rfl (ea_cons (ee_name 8 rfl (by kernel_rfl) rfl (ea_nil (⟨6, 2 * ps.length, mA ps, bA wd, cA ps, rfl, ⟨by omega, by omega, ?_, ?_, ?_, G.szd1, ?_, fun y y0 hy => no_ray F y y0 hy⟩, ?_, ?_⟩)))))⟩))))))))))
    · exact fun i hi j hj => Bd.mono (n := 85) (Nat.lt_of_le_of_lt (G.mA hi hj) (by decide)) (by decide)
    · exact fun i hi => Bd.mono (n := 85) (Nat.lt_of_le_of_lt (G.bA hi) (by decide)) (by decide)
    · exact fun j hj => Bd.mono (n := 1065) (Nat.lt_of_le_of_lt (G.cA hj) (Nat.pow_lt_pow_right (by decide) (by decide))) (by decide)
    · exact G.szd2 fun j => by unfold cE; split; exact G.cA (by assumption); exact Nat.zero_le _
    · intro d W hno
      refine eg_tup (egs_cons (eg_name 11 rfl (by kernel_rfl) (.inl rfl) trivial (egs_cons (eg_name 12 rfl (by kernel_rfl) (.inl rfl) trivial (egs_cons (eg_name 13 rfl (by kernel_rfl) (.inl rfl) trivial (egs_cons (eg_name 14 rfl (by kernel_rfl) (.inl rfl) trivial (egs_nil (?_))))))))))
      refine eb_cons (es_if (et_cmp cp_eqD (nomark _) (ee_name 11 rfl (by kernel_rfl) rfl (ee_str (⟨_, ⟨?_, ?_, rfl⟩, ⟨fun hk => eb_one (es_ret (ee_tup (ea_cons (ee_name 11 rfl (by kernel_rfl) rfl (ea_cons (ee_none (ea_cons (ee_none (ea_cons (ee_none (ea_nil (⟨Nat.le_of_ble_eq_true rfl, ⟨_, rfl, q1 fun ⟨x, hx⟩ => none_of (x := x) G hno hx⟩⟩)))))))))))), fun z => (by cases z)⟩⟩)))))
      · exact shaped_str (by decide +kernel)
      · exact shaped_str (by decide +kernel)
    · intro d v u hd db hv0 ub hv opt opp ex
      obtain ⟨B, b1, b2, op⟩ := best_of G hd (fun j hj => (hv0 j hj).1) hv opt opp ex
      have sc44 : ∀ a, a < ps.length → ((scA ps a : Nat) : Int).natAbs < 2 ^ 44 := fun a ha => by rw [Int.natAbs_natCast]; exact Nat.lt_of_le_of_lt (G.sc ha) (by decide)
      have z44 : ((lcmL wd : Nat) : Int).natAbs < 2 ^ 44 := by rw [Int.natAbs_natCast]; exact Nat.lt_of_le_of_lt (lcm_le G.wb) (by decide)
      have c961 : ((coinA ps : Nat) : Int).natAbs < 2 ^ 961 := by rw [Int.natAbs_natCast]; exact Nat.lt_of_le_of_lt G.coin (Nat.pow_lt_pow_right (by decide) (by decide))
      have z0 : ((lcmL wd : Nat) : Int) ≠ 0 := by have := lcmL_pos wd; omega
      have c0 : ((coinA ps : Nat) : Int) ≠ 0 := by have := lcmL_pos (rg (2 * ps.length) (prA ps)); unfold coinA; omega
      have b1' : Bd 550 d := b1
      have b2' : ∀ j, Bd 650 (v j) := b2
      have sc' : ∀ a, a < ps.length → Bd 44 ((scA ps a : Nat) : Int) := sc44
      have z' : Bd 44 ((lcmL wd : Nat) : Int) := z44
      have c' : Bd 961 ((coinA ps : Nat) : Int) := c961
      have v2 : ∀ a, Bd 651 (v (2 * a) - v (2 * a + 1)) := fun a => (b2' _).sub (b2' _) (by decide)
      have ca : ∀ j, j < 2 * ps.length → Bd 1065 (cA ps j) := fun j hj => Nat.lt_of_le_of_lt (G.cA hj) (Nat.pow_lt_pow_right (by decide) (by decide))
      have sb : (sumN (2 * ps.length) fun j => cA ps j * v j).natAbs < 2 ^ 9000 := by
        have h1 : (sumN (2 * ps.length) fun j => cA ps j * v j).natAbs ≤ 2 * ps.length * (2 ^ 1064 * 2 ^ 650) := sumN_abs fun j hj => by
          rw [Int.natAbs_mul]
          exact Nat.mul_le_mul (G.cA hj) (Nat.le_of_lt (b2 j))
        refine Nat.lt_of_le_of_lt h1 ?_
        refine Nat.lt_of_le_of_lt (Nat.mul_le_mul_right _ (show 2 * ps.length ≤ 2 ^ 4 by omega)) ?_
        rw [← Nat.pow_add, ← Nat.pow_add]
        exact Nat.pow_lt_pow_right (by decide) (by decide)
      have sb' : Bd 9000 (sumN (2 * ps.length) fun j => cA ps j * v j) := sb
      have wdv := worth_dv (ps := ps) (wd := wd) hd (fun j hj => (hv0 j hj).1) op
      clear b1 b2 sc44 z44 c961 sb db
      refine eg_tup (egs_cons (eg_name 11 rfl (by kernel_rfl) (.inl rfl) trivial (egs_cons (eg_name 12 rfl (by kernel_rfl) (.inl rfl) trivial (egs_cons (eg_name 13 rfl (by kernel_rfl) (.inl rfl) trivial (egs_cons (eg_name 14 rfl (by kernel_rfl) (.inl rfl) trivial (egs_nil (?_))))))))))
      refine eb_cons (es_if (et_cmp cp_eqD (nomark _) (ee_name 11 rfl (by kernel_rfl) rfl (ee_str (⟨_, ⟨?_, ?_, rfl⟩, ⟨fun z => (by cases z), fun hk => eb_nil (?_)⟩⟩)))))
      · exact shaped_str (by decide +kernel)
      · exact shaped_str (by decide +kernel)
      refine eb_cons (es_lc 15 [("at", 19), ("row", 17)] (by kernel_rfl) rfl (by kernel_rfl) (lcq_map (List.range ps.length) (fun a => PyData.tuple [.int ((a : Nat) : Int), ovD (pA ps a)]) (fun a => PyData.int ((v (2 * a) - v (2 * a + 1)) * ((scA ps a : Nat) : Int))) (ei_enum (by kernel_rfl) A.f_enumerate (ee_name 2 rfl (by kernel_rfl) rfl (⟨true, _, rfl, ⟨?_, ?_, fun x hx => eg_tup (egs_cons (eg_name 19 rfl (by kernel_rfl) (.inr rfl) (by decide) (egs_cons (eg_name 17 rfl (by kernel_rfl) (.inr rfl) (by decide) (egs_nil (ee_mul (ee_sub (ee_ix (ee_name 13 rfl (by kernel_rfl) rfl (ee_mul (ee_int (ee_name 19 rfl (by kernel_rfl) rfl (⟨_, _, rfl, rfl, ⟨?_, ?_⟩, ⟨_, _, _, rfl, rfl, atI_two (List.mem_range.mp hx), ee_ix (ee_name 13 rfl (by kernel_rfl) rfl (ee_add (ee_mul (ee_int (ee_name 19 rfl (by kernel_rfl) rfl (⟨_, _, rfl, rfl, ⟨?_, ?_⟩, ee_int (⟨_, _, rfl, rfl, ⟨_, _, _, rfl, rfl, atI_two1 (List.mem_range.mp hx), ⟨_, _, rfl, rfl, ee_ix (ee_name 17 rfl (by kernel_rfl) rfl (ee_int (⟨_, _, _, rfl, rfl, rfl, ⟨_, _, rfl, rfl, ⟨?_, ?_⟩, ⟨rfl, rfl⟩⟩⟩)))⟩⟩⟩)⟩))))))⟩⟩))))))))))))), fun _ _ => ?_⟩⟩)))))
      · exact enum_pins
      all_goals try (first
        | exact Nat.le_trans (Nat.le_of_eq (List.length_range)) (by omega)
        | exact (v2 x).mono (by decide)
        | exact (sc' x (List.mem_range.mp hx)).mono (by decide)
        | (show Bd 400000 2; exact Bd.sm (by decide))
        | (show Bd 400000 ((x : Nat) : Int); have := List.mem_range.mp hx; exact Bd.sm (by omega)))
      refine eb_frz 15 rfl ?_
      refine eb_cons (es_if (et_cmp cp_eqD (nomark _) (ee_name 11 rfl (by kernel_rfl) rfl (ee_str (⟨_, ⟨?_, ?_, rfl⟩, ⟨fun z => (by cases z), fun hk => eb_nil (?_)⟩⟩)))))
      · exact shaped_str (by decide +kernel)
      · exact shaped_str (by decide +kernel)
      refine eb_en [.dat _, .dat _, .dat _, _, _, _, _, _, .dat _, .dat _, .dat _, .dat _, .dat _, .dat _, .dat _, .dat _, .no, _, _, _] rfl ?_
      refine eb_cons (es_asg 16 rfl (by kernel_rfl) (.inl rfl) (ee_call (k_move_of_row A) (Nat.le_of_ble_eq_true rfl) (by kernel_rfl) (ea_cons (ee_call (k_parts_over A) (Nat.le_of_ble_eq_true rfl) (by kernel_rfl) (ea_cons (ee_name 14 rfl (by kernel_rfl) rfl (ea_cons (ee_mul (ee_name 12 rfl (by kernel_rfl) rfl (ee_name 9 rfl (by kernel_rfl) rfl (⟨_, _, rfl, rfl, ⟨?_, ?_⟩, ea_nil (⟨rg 6 u, (d * ((coinA ps : Nat) : Int)), rfl, ⟨Nat.le_of_ble_eq_true rfl, ?_, ?_, ?_⟩, ea_nil (⟨Rat.divInt (u 0) (d * ((coinA ps : Nat) : Int)), Rat.divInt (u 1) (d * ((coinA ps : Nat) : Int)), Rat.divInt (u 2) (d * ((coinA ps : Nat) : Int)), Rat.divInt (u 3) (d * ((coinA ps : Nat) : Int)), Rat.divInt (u 4) (d * ((coinA ps : Nat) : Int)), Rat.divInt (u 5) (d * ((coinA ps : Nat) : Int)), rfl, ?_⟩)⟩)⟩)))))))))))
      all_goals try (first
        | exact b1'.mono (by decide)
        | exact c'.mono (by decide)
        | exact Int.mul_ne_zero (by omega) c0
        | exact b1'.mul c' (by decide)
        | exact (fun n hn => by obtain ⟨j, hj, rfl⟩ := mem_rg.mp hn; exact Bd.mono (n := 8000) (ub j hj) (by decide)))
      refine eb_one (es_ret (ee_tup (ea_cons (ee_name 11 rfl (by kernel_rfl) rfl (ea_cons (ee_call (k_ratio A) (Nat.le_of_ble_eq_true rfl) (by kernel_rfl) (ea_cons (ee_call (k_product_sum A) (Nat.le_of_ble_eq_true rfl) (by kernel_rfl) (ea_cons (ee_name 8 rfl (by kernel_rfl) rfl (ea_cons (ee_name 13 rfl (by kernel_rfl) rfl (ea_nil (⟨true, true, rg (2 * ps.length) (cA ps), rg (2 * ps.length) v, by rw [← rg_ints, ← rg_ints]; rfl, ⟨?_, ?_, ?_⟩, ea_cons (ee_mul (ee_mul (ee_name 12 rfl (by kernel_rfl) rfl (ee_name 10 rfl (by kernel_rfl) rfl (⟨_, _, rfl, rfl, ⟨?_, ?_⟩, ee_name 9 rfl (by kernel_rfl) rfl (⟨_, _, rfl, rfl, ⟨?_, ?_⟩, ea_nil (⟨_, _, rfl, ?_, ea_cons (ee_call (k_parts_over A) (Nat.le_of_ble_eq_true rfl) (by kernel_rfl) (ea_cons (ee_name 15 rfl (by kernel_rfl) rfl (ea_cons (ee_mul (ee_name 12 rfl (by kernel_rfl) rfl (ee_name 10 rfl (by kernel_rfl) rfl (⟨_, _, rfl, rfl, ⟨?_, ?_⟩, ea_nil (⟨rg ps.length fun a => (v (2 * a) - v (2 * a + 1)) * ((scA ps a : Nat) : Int), d * ((lcmL wd : Nat) : Int), by rw [show dL (rg ps.length fun a => (v (2 * a) - v (2 * a + 1)) * ((scA ps a : Nat) : Int)) = dR ps.length fun a => (v (2 * a) - v (2 * a + 1)) * ((scA ps a : Nat) : Int) from congrArg PyData.list rg_ints.symm], ⟨?_, ?_, ?_, ?_⟩, ea_cons (ee_name 16 rfl (by kernel_rfl) rfl (ea_nil (⟨Nat.le_of_ble_eq_true rfl, ⟨_, rfl, ?_⟩⟩)))⟩)⟩))))))))⟩)⟩)⟩)))))⟩))))))))))))))
      · rw [rg_len]; omega
      · exact fun n hn => by obtain ⟨j, hj, rfl⟩ := mem_rg.mp hn; exact (ca j hj).mono (by decide)
      · exact fun n hn => by obtain ⟨j, hj, rfl⟩ := mem_rg.mp hn; exact (b2' j).mono (by decide)
      · exact b1'.mono (by decide)
      · exact z'.mono (by decide)
      · exact b1'.mul z' (by decide)
      · exact c'.mono (by decide)
      · rw [sum_zip]
        refine ⟨Int.mul_ne_zero (Int.mul_ne_zero (by omega) z0) c0, sb', ?_⟩
        exact Bd.mul (n := 600) (b1'.mul z' (by decide)) c' (by decide)
      · exact b1'.mono (by decide)
      · exact z'.mono (by decide)
      · rw [rg_len]; omega
      · exact Int.mul_ne_zero (by omega) z0
      · exact b1'.mul z' (by decide)
      · exact fun n hn => by obtain ⟨j, hj, rfl⟩ := mem_rg.mp hn; exact (v2 j).mul (sc' j hj) (by decide)
      · rw [sum_zip]
        have q3 := fun mv => q2 (shA ps wd d v) mv B
        rw [← wdv] at q3
        have e : (rg ps.length fun a => (v (2 * a) - v (2 * a + 1)) * ((scA ps a : Nat) : Int)).map (fun n => Rat.divInt n (d * ((lcmL wd : Nat) : Int))) = rg ps.length (shA ps wd d v) := by unfold rg; rw [List.map_map]; rfl
        rw [← e] at q3
        unfold frs at q3
        rw [List.map_map] at q3
        exact q3 _
end Sp
namespace Sp
open PySem PySem.Spec PyProof.Rows L2 Ly SV
variable {g : Gc}

abbrev zs6 : List Rat := [0, 0, 0, 0, 0, 0]
abbrev ngs (l : List Rat) : List Rat := l.map fun q => -q
theorem rb_zero : Rb 0 := ⟨⟨12 ^ 12, rfl⟩, by decide +kernel, by decide +kernel⟩
theorem G_zero {ps : List Pin} {wd : List Rat} (G : GOk ps wd) : GOk ps zs6 := ⟨G.n, rfl, G.rb, G.sl, fun q hq => by
  have : q = 0 := by simpa using hq
  rw [this]; exact rb_zero⟩
theorem G_neg {ps : List Pin} {wd : List Rat} (G : GOk ps wd) : GOk ps (ngs wd) := ⟨G.n, by rw [List.length_map]; exact G.wl, G.rb, G.sl, fun q hq => by
  obtain ⟨x, hx, rfl⟩ := List.mem_map.mp hq
  exact (G.wb x hx).neg⟩
theorem G_rows {ps : List Pin} {wd : List Rat} (G : GOk ps wd) : Rows (rowsOf ps) wd := ⟨by have := G.n; rw [List.length_map]; omega, fun r hr => by obtain ⟨p, _, rfl⟩ := List.mem_map.mp hr; rfl, G.wl, fun r hr q hq => by obtain ⟨p, hp, rfl⟩ := List.mem_map.mp hr; exact G.rb p hp q hq, G.wb⟩
theorem sh_zero {rs : List (List Rat)} : Sh rs zs6 (fun _ => 0) := fun y hy => by
  rw [sumQ_zero fun j _ => Rat.mul_zero _]
  match y, hy with
  | 0, _ | 1, _ | 2, _ | 3, _ | 4, _ | 5, _ => rfl
theorem sh_neg {rs : List (List Rat)} {wd : List Rat} {x : Nat → Rat} (h : Sh rs wd x) : Sh rs (ngs wd) (fun a => - x a) := fun y hy => by
  have e : (ngs wd).getD y 0 = - (wd.getD y 0) := by
    rw [List.getD_eq_getElem?_getD, List.getElem?_map, List.getD_eq_getElem?_getD]
    cases wd[y]? <;> rfl
  rw [e, h y hy, ← sumQ_neg]
  exact sumQ_congr fun j _ => by grind

theorem k_bounds_of (A : Al g) : KnowsP g "bounds_of" 10 ["gauge", "mark"] (fun ds post => ∃ (ps : List Pin) (u v : V3), ds = [.tuple (ps.map pinD), linD (u, v)] ∧ (GOk ps (row6 u v) ∧ (∀ p, p ∈ ps → p.ok) ∧ (∃ m, Fits ps m) ∧ u.all (Sz 1000) ∧ v.all (Sz 1000)) ∧
    ((¬ ∃ x, Sh (rowsOf ps) (row6 u v) x) → post .none) ∧ ∀ (w w' : Nat → Rat) (mv mv' : PyData), Best ps (row6 u v) w → Best ps (ngs (row6 u v)) w' →
      post (.tuple [.tuple [fr (-worth ps w'), fr (worth ps w)], .tuple [frs (ngs (rg ps.length w')), frs (rg ps.length w)], .tuple [mv', mv]])) := by
  refine Knows.mkP A.d_bounds_of sc_bounds_of (fun ds post h => by obtain ⟨_, _, _, rfl, _⟩ := h; rfl) ?_
  rintro ds post ⟨ps, u, v, rfl, ⟨G, ok, ⟨m, F⟩, su, sv⟩, q1, q2⟩
  have hn := G.n
  refine eb_cons (es_if (et_cmp cp_eqD (nomark _) (ee_ix (ee_call (k_bound_on A) (Nat.le_of_ble_eq_true rfl) (by kernel_rfl) (ea_cons (ee_name 0 rfl (by kernel_rfl) rfl (ea_cons (ee_globD (by kernel_rfl) (A.gl_NOUGHTS).choose_spec.1 (A.gl_NOUGHTS).choose_spec.2 (ea_nil (⟨ps, zs6, rfl, ⟨G_zero G, ok, m, F⟩, fun hno => absurd ⟨_, sh_zero⟩ hno, fun w0 mv0 B0 => ee_int (⟨_, _, _, rfl, rfl, rfl, ee_str (⟨_, ⟨?_, ?_, rfl⟩, ⟨fun z => (by cases z), fun hk => eb_nil (?_)⟩⟩)⟩)⟩))))))))))
  · exact shaped_str (by decide +kernel)
  · exact shaped_str (by decide +kernel)
  refine eb_cons (es_asg 2 rfl (by kernel_rfl) (.inl rfl) (ee_call (k_mark_row A) (Nat.le_of_ble_eq_true rfl) (by kernel_rfl) (ea_cons (ee_name 1 rfl (by kernel_rfl) rfl (ea_nil (⟨u, v, rfl, ⟨su, sv⟩, ?_⟩))))))
  refine eb_cons (es_asgT (ee_call (k_bound_on A) (Nat.le_of_ble_eq_true rfl) (by kernel_rfl) (ea_cons (ee_name 0 rfl (by kernel_rfl) rfl (ea_cons (ee_name 2 rfl (by kernel_rfl) rfl (ea_nil (⟨ps, row6 u v, rfl, ⟨G, ok, m, F⟩, ?_, ?_⟩))))))))
  · intro hno
    refine eg_tup (egs_cons (eg_name 3 rfl (by kernel_rfl) (.inl rfl) trivial (egs_cons (eg_name 4 rfl (by kernel_rfl) (.inl rfl) trivial (egs_cons (eg_name 5 rfl (by kernel_rfl) (.inl rfl) trivial (egs_cons (eg_name 6 rfl (by kernel_rfl) (.inl rfl) trivial (egs_nil (?_))))))))))
    refine eb_cons (es_if (et_cmp cp_eqD (nomark _) (ee_name 3 rfl (by kernel_rfl) rfl (ee_str (⟨_, ⟨?_, ?_, rfl⟩, ⟨fun hk => eb_one (es_ret (ee_none (⟨_, rfl, q1 hno⟩))), fun z => (by cases z)⟩⟩)))))
    · exact shaped_str (by decide +kernel)
    · exact shaped_str (by decide +kernel)
  · intro w mv B
    refine eg_tup (egs_cons (eg_name 3 rfl (by kernel_rfl) (.inl rfl) trivial (egs_cons (eg_name 4 rfl (by kernel_rfl) (.inl rfl) trivial (egs_cons (eg_name 5 rfl (by kernel_rfl) (.inl rfl) trivial (egs_cons (eg_name 6 rfl (by kernel_rfl) (.inl rfl) trivial (egs_nil (?_))))))))))
    refine eb_cons (es_if (et_cmp cp_eqD (nomark _) (ee_name 3 rfl (by kernel_rfl) rfl (ee_str (⟨_, ⟨?_, ?_, rfl⟩, ⟨fun z => (by cases z), fun hk => eb_nil (?_)⟩⟩)))))
    · exact shaped_str (by decide +kernel)
    · exact shaped_str (by decide +kernel)
    refine eb_cons (es_asgT (ee_call (k_bound_on A) (Nat.le_of_ble_eq_true rfl) (by kernel_rfl) (ea_cons (ee_name 0 rfl (by kernel_rfl) rfl (ea_cons (ee_call (k_opposite_parts A) (Nat.le_of_ble_eq_true rfl) (by kernel_rfl) (ea_cons (ee_name 2 rfl (by kernel_rfl) rfl (ea_nil (⟨row6 u v, rfl, Nat.le_of_ble_eq_true rfl, ea_nil (⟨ps, ngs (row6 u v), rfl, ⟨G_neg G, ok, m, F⟩, fun hno => absurd ⟨_, sh_neg B.sh⟩ hno, fun w' mv' B' => eg_tup (egs_cons (eg_name 3 rfl (by kernel_rfl) (.inl rfl) trivial (egs_cons (eg_name 7 rfl (by kernel_rfl) (.inl rfl) trivial (egs_cons (eg_name 8 rfl (by kernel_rfl) (.inl rfl) trivial (egs_cons (eg_name 9 rfl (by kernel_rfl) (.inl rfl) trivial (egs_nil (?_))))))))))⟩)⟩))))))))))
    refine eb_one (es_ret (ee_tup (ea_cons (ee_tup (ea_cons (ee_tup (ea_cons (ee_neg (ee_ix (ee_name 7 rfl (by kernel_rfl) rfl (ee_int (⟨_, _, _, rfl, rfl, rfl, ⟨_, rfl, ea_cons (ee_ix (ee_name 7 rfl (by kernel_rfl) rfl (ee_int (⟨_, _, _, rfl, rfl, rfl, ea_nil (⟨Nat.le_of_ble_eq_true rfl, ea_cons (ee_name 4 rfl (by kernel_rfl) rfl (ea_nil (⟨Nat.le_of_ble_eq_true rfl, ea_cons (ee_tup (ea_cons (ee_call (k_opposite_parts A) (Nat.le_of_ble_eq_true rfl) (by kernel_rfl) (ea_cons (ee_name 8 rfl (by kernel_rfl) rfl (ea_nil (⟨rg ps.length w', rfl, ?_, ea_cons (ee_name 5 rfl (by kernel_rfl) rfl (ea_nil (⟨Nat.le_of_ble_eq_true rfl, ea_cons (ee_tup (ea_cons (ee_name 9 rfl (by kernel_rfl) rfl (ea_cons (ee_name 6 rfl (by kernel_rfl) rfl (ea_nil (⟨Nat.le_of_ble_eq_true rfl, ea_nil (⟨Nat.le_of_ble_eq_true rfl, ⟨_, rfl, q2 w w' mv mv' B B'⟩⟩)⟩)))))))⟩)))⟩)))))))⟩)))⟩)⟩))))⟩⟩))))))))))))
    rw [rg_len]; omega
theorem k_mark_shares (A : Al g) : KnowsP g "mark_shares" 10 ["gauge", "mark"] (fun ds post => ∃ (ps : List Pin) (u v : V3), ds = [.tuple (ps.map pinD), linD (u, v)] ∧ (GOk ps (row6 u v) ∧ (0 < ps.length ∧ ∀ p, p ∈ ps → p.ok) ∧ (∃ m, Fits ps m) ∧ u.all (Sz 1000) ∧ v.all (Sz 1000) ∧ v ≠ V3.zero) ∧ ((¬ ∃ x, Sh (rowsOf ps) (row6 u v) x) → post .none) ∧ ∀ x, Sh (rowsOf ps) (row6 u v) x → (∀ j, Sz 650 (x j)) → post (frs (rg ps.length x))) := by
  refine Knows.mkP A.d_mark_shares sc_mark_shares (fun ds post h => by obtain ⟨_, _, _, rfl, _⟩ := h; rfl) ?_
  rintro ds post ⟨ps, u, v, rfl, ⟨G, ⟨n0, ok⟩, F, su, sv, v0⟩, q1, q2⟩
  refine eb_cons (es_expr (ee_call (k_check_marked A) (Nat.le_of_ble_eq_true rfl) (by kernel_rfl) (ea_cons (ee_name 0 rfl (by kernel_rfl) rfl (ea_cons (ee_name 1 rfl (by kernel_rfl) rfl (ea_nil (⟨ps, u, v, rfl, ⟨n0, by have := G.n; omega, ok⟩, v0, eb_one (es_ret (ee_call (k_shares_for A) (Nat.le_of_ble_eq_true rfl) (by kernel_rfl) (ea_cons (ee_call (k_pin_rows A) (Nat.le_of_ble_eq_true rfl) (by kernel_rfl) (ea_cons (ee_name 0 rfl (by kernel_rfl) rfl (ea_nil (⟨ps, rfl, ⟨by have := G.n; omega, ok⟩, ea_cons (ee_call (k_mark_row A) (Nat.le_of_ble_eq_true rfl) (by kernel_rfl) (ea_cons (ee_name 1 rfl (by kernel_rfl) rfl (ea_nil (⟨u, v, rfl, ⟨su, sv⟩, ea_nil (⟨rowsOf ps, row6 u v, by unfold rowsOf; rw [List.map_map]; rfl, G_rows G, ?_, ?_⟩)⟩)))))⟩))))))))⟩))))))))
  · exact fun h => ⟨_, rfl, q1 h⟩
  · exact fun x hx hs => ⟨_, rfl, by have := q2 x hx hs; rw [List.length_map]; exact this⟩
theorem kk_mark_range (A : Al g) : KnowsK g "mark_range" 11 ["gauge", "mark"] "mark" "gauge" true (preP fun ds post => ∃ (ps : List Pin) (u v : V3), ds = [.tuple (ps.map pinD), linD (u, v)] ∧ (GOk ps (row6 u v) ∧ (0 < ps.length ∧ ∀ p, p ∈ ps → p.ok) ∧ (∃ m, Fits ps m) ∧ u.all (Sz 1000) ∧ v.all (Sz 1000) ∧ v ≠ V3.zero) ∧
    ((¬ ∃ x, Sh (rowsOf ps) (row6 u v) x) → post .none) ∧ ∀ (w w' : Nat → Rat), Best ps (row6 u v) w → Best ps (ngs (row6 u v)) w' → post (.tuple [fr (-worth ps w'), fr (worth ps w)])) := by
  refine KnowsK.mkP A.d_mark_range sc_mark_range (fun ds post h => by obtain ⟨_, _, _, rfl, _⟩ := h; rfl) ?_
  rintro ds post ⟨ps, u, v, rfl, ⟨G, ⟨n0, ok⟩, F, su, sv, v0⟩, q1, q2⟩
  refine eb_cons (es_expr (ee_call (k_check_marked A) (Nat.le_of_ble_eq_true rfl) (by kernel_rfl) (ea_cons (ee_name 0 rfl (by kernel_rfl) rfl (ea_cons (ee_name 1 rfl (by kernel_rfl) rfl (ea_nil (⟨ps, u, v, rfl, ⟨n0, by have := G.n; omega, ok⟩, v0, ?_⟩))))))))
  refine eb_cons (es_asg 2 rfl (by kernel_rfl) (.inl rfl) (ee_call (k_bounds_of A) (Nat.le_of_ble_eq_true rfl) (by kernel_rfl) (ea_cons (ee_name 0 rfl (by kernel_rfl) rfl (ea_cons (ee_name 1 rfl (by kernel_rfl) rfl (ea_nil (⟨ps, u, v, rfl, ⟨G, ok, F, su, sv⟩, ?_, ?_⟩))))))))
  · intro hno
    refine eb_one (es_ret (ee_if (et_cmp cp_isN (nomark _) (ee_name 2 rfl (by kernel_rfl) rfl (ee_none (⟨_, ⟨rfl, rfl⟩, ⟨fun hk => ee_none (⟨_, rfl, q1 hno⟩), fun z => (by cases z)⟩⟩))))))
  · intro w w' mv mv' B B'
    refine eb_one (es_ret (ee_if (et_cmp cp_isN (nomark _) (ee_name 2 rfl (by kernel_rfl) rfl (ee_none (⟨_, ⟨rfl, rfl⟩, ⟨fun z => (by cases z), fun hk => ee_ix (ee_name 2 rfl (by kernel_rfl) rfl (ee_int (⟨_, _, _, rfl, rfl, rfl, ⟨_, rfl, q2 w w' B B'⟩⟩)))⟩⟩))))))
theorem k_mark_range (A : Al g) : KnowsP g "mark_range" 11 ["gauge", "mark"] (fun ds post => ∃ (ps : List Pin) (u v : V3), ds = [.tuple (ps.map pinD), linD (u, v)] ∧ (GOk ps (row6 u v) ∧ (0 < ps.length ∧ ∀ p, p ∈ ps → p.ok) ∧ (∃ m, Fits ps m) ∧ u.all (Sz 1000) ∧ v.all (Sz 1000) ∧ v ≠ V3.zero) ∧
    ((¬ ∃ x, Sh (rowsOf ps) (row6 u v) x) → post .none) ∧ ∀ (w w' : Nat → Rat), Best ps (row6 u v) w → Best ps (ngs (row6 u v)) w' → post (.tuple [fr (-worth ps w'), fr (worth ps w)])) := (kk_mark_range A).kn
theorem kk_range_weights (A : Al g) : KnowsK g "range_weights" 11 ["gauge", "mark"] "gauge" "mark" false (preP fun ds post => ∃ (ps : List Pin) (u v : V3), ds = [.tuple (ps.map pinD), linD (u, v)] ∧ (GOk ps (row6 u v) ∧ (0 < ps.length ∧ ∀ p, p ∈ ps → p.ok) ∧ (∃ m, Fits ps m) ∧ u.all (Sz 1000) ∧ v.all (Sz 1000) ∧ v ≠ V3.zero) ∧
    ((¬ ∃ x, Sh (rowsOf ps) (row6 u v) x) → post .none) ∧ ∀ (w w' : Nat → Rat), Best ps (row6 u v) w → Best ps (ngs (row6 u v)) w' → post (.tuple [frs (ngs (rg ps.length w')), frs (rg ps.length w)])) := by
  refine KnowsK.mkP A.d_range_weights sc_range_weights (fun ds post h => by obtain ⟨_, _, _, rfl, _⟩ := h; rfl) ?_
  rintro ds post ⟨ps, u, v, rfl, ⟨G, ⟨n0, ok⟩, F, su, sv, v0⟩, q1, q2⟩
  refine eb_cons (es_expr (ee_call (k_check_marked A) (Nat.le_of_ble_eq_true rfl) (by kernel_rfl) (ea_cons (ee_name 0 rfl (by kernel_rfl) rfl (ea_cons (ee_name 1 rfl (by kernel_rfl) rfl (ea_nil (⟨ps, u, v, rfl, ⟨n0, by have := G.n; omega, ok⟩, v0, ?_⟩))))))))
  refine eb_cons (es_asg 2 rfl (by kernel_rfl) (.inl rfl) (ee_call (k_bounds_of A) (Nat.le_of_ble_eq_true rfl) (by kernel_rfl) (ea_cons (ee_name 0 rfl (by kernel_rfl) rfl (ea_cons (ee_name 1 rfl (by kernel_rfl) rfl (ea_nil (⟨ps, u, v, rfl, ⟨G, ok, F, su, sv⟩, ?_, ?_⟩))))))))
  · intro hno
    refine eb_one (es_ret (ee_if (et_cmp cp_isN (nomark _) (ee_name 2 rfl (by kernel_rfl) rfl (ee_none (⟨_, ⟨rfl, rfl⟩, ⟨fun hk => ee_none (⟨_, rfl, q1 hno⟩), fun z => (by cases z)⟩⟩))))))
  · intro w w' mv mv' B B'
    refine eb_one (es_ret (ee_if (et_cmp cp_isN (nomark _) (ee_name 2 rfl (by kernel_rfl) rfl (ee_none (⟨_, ⟨rfl, rfl⟩, ⟨fun z => (by cases z), fun hk => ee_ix (ee_name 2 rfl (by kernel_rfl) rfl (ee_int (⟨_, _, _, rfl, rfl, rfl, ⟨_, rfl, q2 w w' B B'⟩⟩)))⟩⟩))))))
theorem k_range_weights (A : Al g) : KnowsP g "range_weights" 11 ["gauge", "mark"] (fun ds post => ∃ (ps : List Pin) (u v : V3), ds = [.tuple (ps.map pinD), linD (u, v)] ∧ (GOk ps (row6 u v) ∧ (0 < ps.length ∧ ∀ p, p ∈ ps → p.ok) ∧ (∃ m, Fits ps m) ∧ u.all (Sz 1000) ∧ v.all (Sz 1000) ∧ v ≠ V3.zero) ∧
    ((¬ ∃ x, Sh (rowsOf ps) (row6 u v) x) → post .none) ∧ ∀ (w w' : Nat → Rat), Best ps (row6 u v) w → Best ps (ngs (row6 u v)) w' → post (.tuple [frs (ngs (rg ps.length w')), frs (rg ps.length w)])) := (kk_range_weights A).kn
end Sp
namespace Sp
open PySem PySem.Spec PyProof.Rows L2 Ly SV
variable {g : Gc}

theorem bits_lt (i : Int) : i.natAbs < 2 ^ Builtin.Int.intBits i := by
  unfold Builtin.Int.intBits
  split
  · have : i = 0 := by simpa using (by assumption : (i == 0) = true)
    subst this; decide
  · exact Nat.lt_log2_self
theorem bits_le {i : Int} {k : Nat} (h : Bd k i) : Builtin.Int.intBits i ≤ k := by
  unfold Builtin.Int.intBits
  split
  · omega
  · rename_i h0
    have h1 : i.natAbs ≠ 0 := by intro z; apply h0; simp; omega
    exact (Nat.log2_lt h1).mpr h
theorem k__law_lean (A : Al g) : KnowsP g "_law_lean" 1 ["_law_up", "_law_low"] (fun ds post => ∃ up low : Int, ds = [.int up, .int low] ∧ (low ≠ 0 ∧ Bd 9000 low) ∧ post (fr (Rat.divInt up low))) := by
  refine Knows.mkP A.d__law_lean sc__law_lean (fun ds post h => by obtain ⟨_, _, rfl, _⟩ := h; rfl) ?_
  rintro ds post ⟨up, low, rfl, ⟨h1, h2⟩, q⟩
  have hb : Builtin.Int.intBits (if low < 0 then -low else low) ≤ 9000 := bits_le (by rw [abs_nat]; show (((low.natAbs : Nat) : Int)).natAbs < _; rw [Int.natAbs_natCast]; exact h2)
  have hb2 := bits_lt (if low < 0 then -low else low)
  generalize hbb : Builtin.Int.intBits (if low < 0 then -low else low) = bb at hb hb2
  rw [abs_nat, Int.natAbs_natCast] at hb2
  have fin : ∀ (o t : Nat) (i : Nat) (s : Sl), Eu up.natAbs low.natAbs i o t → t = 0 → EvB ⟨g, ["_law_up", "_law_low", "_law_one", "_law_two", "_law_step"], defScope (top 69), fun _ => true, 0⟩ [(defBody (top 69)).getLast!] [.dat (.int up), .dat (.int low), .dat (.int ((o : Nat) : Int)), .dat (.int ((t : Nat) : Int)), s] ⟨fun _ => post .none, fun s en => ∃ d, s = .dat d ∧ post d, fun _ => False, fun _ => False⟩ := by
    intro o t i s E ht
    have eo : o = Nat.gcd up.natAbs low.natAbs := by have := E.g; rw [ht, Nat.gcd_zero_right] at this; exact this
    have op : 0 < o := by rw [eo]; exact Nat.gcd_pos_of_pos_right _ (by omega)
    have ob : Bd 9000 ((o : Nat) : Int) := by
      show (((o : Nat) : Int)).natAbs < _
      rw [Int.natAbs_natCast, eo]
      exact Nat.lt_of_le_of_lt (Nat.le_of_dvd (by omega) (Nat.gcd_dvd_right _ _)) h2
    obtain ⟨l1, l2⟩ := lean_eq h1 eo
    refine eb_one (es_ret (ee_if (et_cmp cp_gt (nomark _) (ee_name 1 rfl (by kernel_rfl) rfl (ee_int (⟨_, ⟨_, _, rfl, rfl, rfl⟩, ⟨fun hk => ee_tup (ea_cons (ee_div (ee_name 0 rfl (by kernel_rfl) rfl (ee_name 2 rfl (by kernel_rfl) rfl (⟨_, _, rfl, rfl, ⟨?_, ?_⟩, ea_cons (ee_div (ee_name 1 rfl (by kernel_rfl) rfl (ee_name 2 rfl (by kernel_rfl) rfl (⟨_, _, rfl, rfl, ⟨?_, ?_⟩, ea_nil (⟨Nat.le_of_ble_eq_true rfl, ⟨_, rfl, ?_⟩⟩)⟩))))⟩))))), fun hk => ee_tup (ea_cons (ee_div (ee_sub (ee_int (ee_name 0 rfl (by kernel_rfl) rfl (⟨_, _, rfl, rfl, ee_name 2 rfl (by kernel_rfl) rfl (⟨_, _, rfl, rfl, ⟨?_, ?_⟩, ea_cons (ee_div (ee_sub (ee_int (ee_name 1 rfl (by kernel_rfl) rfl (⟨_, _, rfl, rfl, ee_name 2 rfl (by kernel_rfl) rfl (⟨_, _, rfl, rfl, ⟨?_, ?_⟩, ea_nil (⟨Nat.le_of_ble_eq_true rfl, ⟨_, rfl, ?_⟩⟩)⟩)⟩)))))⟩)⟩))))))⟩⟩))))))
    all_goals first
      | exact ob
      | (show (0 : Int) < ((o : Nat) : Int); omega)
      | skip
    · obtain ⟨e1, e2⟩ := l1 (of_decide_eq_true hk)
      rw [e1, e2]; exact q
    · obtain ⟨e1, e2⟩ := l2 (of_decide_eq_false hk)
      rw [e1, e2]; exact q
  refine eb_cons (es_par2 2 3 rfl rfl (by decide) (by kernel_rfl) (by kernel_rfl) (ea_cons (ee_callB bc_abs (by kernel_rfl) A.f_abs (by kernel_rfl) (ea_cons (ee_name 0 rfl (by kernel_rfl) rfl (ea_nil (⟨_, ⟨_, rfl, rfl⟩, ea_cons (ee_callB bc_abs (by kernel_rfl) A.f_abs (by kernel_rfl) (ea_cons (ee_name 1 rfl (by kernel_rfl) rfl (ea_nil (⟨_, ⟨_, rfl, rfl⟩, ea_nil (⟨_, _, rfl, ?_⟩)⟩)))))⟩)))))))
  refine eb_cons (es_for (ei_range1 (by kernel_rfl) A.f_range (ee_add (ee_mul (ee_int (ee_bits (ee_name 3 rfl (by kernel_rfl) rfl (⟨_, rfl, ⟨_, _, rfl, rfl, ⟨?_, ?_⟩, ee_int (⟨_, _, rfl, rfl, ⟨_, rfl, ?_, ⟨fun i en => ∃ (o t : Nat) (s : Sl), Eu up.natAbs low.natAbs i o t ∧ en = [.dat (.int up), .dat (.int low), .dat (.int ((o : Nat) : Int)), .dat (.int ((t : Nat) : Int)), s], ⟨_, _, _, Eu.init _ _, by rw [abs_nat, abs_nat]; rfl⟩, ?_, ?_⟩⟩⟩)⟩⟩))))))))
  · exact Bd.sm (by decide)
  · rw [hbb]; exact Bd.sm (by omega)
  · rw [hbb]; omega
  · rintro i d en2 hd ⟨o, t, s, E, rfl⟩
    refine eg_name 4 rfl (by kernel_rfl) (.inl rfl) trivial (?_)
    refine eb_cons (es_if (et_cmp cp_eqI (nomark _) (ee_name 3 rfl (by kernel_rfl) rfl (ee_int (⟨_, ⟨_, _, rfl, rfl, rfl⟩, ⟨fun hk => eb_one (es_break (?_)), fun hk => eb_nil (?_)⟩⟩)))))
    · exact fin o t i _ E (by have := of_decide_eq_true hk; omega)
    · have ht : t ≠ 0 := by have := of_decide_eq_false hk; omega
      refine eb_one (es_par2 2 3 rfl rfl (by decide) (by kernel_rfl) (by kernel_rfl) (ea_cons (ee_name 3 rfl (by kernel_rfl) rfl (ea_cons (ee_mod (ee_callTy bc_int (by kernel_rfl) A.f_int (by kernel_rfl) (ea_cons (ee_name 2 rfl (by kernel_rfl) rfl (ea_nil (⟨_, .inl ⟨_, rfl, rfl⟩, ee_name 3 rfl (by kernel_rfl) rfl (⟨_, _, rfl, rfl, ?_, ea_nil (⟨_, _, rfl, ⟨_, _, _, E.step (by omega), rfl⟩⟩)⟩)⟩))))))))))
      omega
  · rintro en2 ⟨o, t, s, E, rfl⟩
    refine fin o t _ _ E (E.done hb2 ?_)
    rw [rgD_len, hbb]
    omega
end Sp
namespace Sp
open PySem PySem.Spec PyProof.Rows L2 Ly SV
variable {g : Gc}

theorem Szn {k m : Nat} {q : Rat} (h : Sz k q) (l : k ≤ m) : Bd m q.num := Bd.mono (n := k) h.1 l
theorem Szd {k m : Nat} {q : Rat} (h : Sz k q) (l : k ≤ m) : Bd m ((q.den : Nat) : Int) := Bd.mono (n := k) (by show (((q.den : Nat) : Int)).natAbs < _; rw [Int.natAbs_natCast]; exact h.2) l
abbrev six (u v : V3) (i : Nat) : Rat := [u.x, u.y, u.z, v.x, v.y, v.z].getD i 0
theorem fr_neg (b : Rat) : PyData.tuple [.int (0 - b.num), .int ((b.den : Nat) : Int)] = fr (-b) := by
  show _ = PyData.tuple [.int (-b).num, .int (((-b).den : Nat) : Int)]
  rw [Rat.neg_num, Rat.neg_den, Int.zero_sub]
theorem k__law_added (A : Al g) : KnowsP g "_law_added" 2 ["_law_one", "_law_two"] (fun ds post => ∃ a b : Rat, ds = [fr a, fr b] ∧ (Sz 4000 a ∧ Sz 4000 b) ∧ post (fr (a + b))) := by
  refine Knows.mkP A.d__law_added sc__law_added (fun ds post h => by obtain ⟨_, _, rfl, _⟩ := h; rfl) ?_
  rintro ds post ⟨a, b, rfl, ⟨h1, h2⟩, q⟩
  refine eb_one (es_ret (ee_call (k__law_lean A) (Nat.le_of_ble_eq_true rfl) (by kernel_rfl) (ea_cons (ee_add (ee_mul (ee_ix (ee_name 0 rfl (by kernel_rfl) rfl (ee_int (⟨_, _, _, rfl, rfl, rfl, ee_ix (ee_name 1 rfl (by kernel_rfl) rfl (ee_int (⟨_, _, _, rfl, rfl, rfl, ⟨_, _, rfl, rfl, ⟨?_, ?_⟩, ee_mul (ee_ix (ee_name 1 rfl (by kernel_rfl) rfl (ee_int (⟨_, _, _, rfl, rfl, rfl, ee_ix (ee_name 0 rfl (by kernel_rfl) rfl (ee_int (⟨_, _, _, rfl, rfl, rfl, ⟨_, _, rfl, rfl, ⟨?_, ?_⟩, ⟨_, _, rfl, rfl, ea_cons (ee_mul (ee_ix (ee_name 0 rfl (by kernel_rfl) rfl (ee_int (⟨_, _, _, rfl, rfl, rfl, ee_ix (ee_name 1 rfl (by kernel_rfl) rfl (ee_int (⟨_, _, _, rfl, rfl, rfl, ⟨_, _, rfl, rfl, ⟨?_, ?_⟩, ea_nil (⟨_, _, rfl, ?_, ⟨_, rfl, ?_⟩⟩)⟩⟩)))⟩)))))⟩⟩⟩)))⟩))))⟩⟩)))⟩)))))))))
  all_goals first
    | exact Szn h1 (by decide)
    | exact Szn h2 (by decide)
    | exact Szd h1 (by decide)
    | exact Szd h2 (by decide)
    | exact ⟨Szn h1 (by decide), Szn h2 (by decide)⟩
    | exact ⟨Szn h1 (by decide), Szd h2 (by decide)⟩
    | exact ⟨Szn h2 (by decide), Szd h1 (by decide)⟩
    | exact ⟨Szd h1 (by decide), Szd h2 (by decide)⟩
    | exact ⟨den_mul_ne a b, (Szd h1 (Nat.le_refl _)).mul (Szd h2 (Nat.le_refl _)) (by decide)⟩
    | skip
  rw [dv_add]; exact q
theorem k__law_times (A : Al g) : KnowsP g "_law_times" 2 ["_law_one", "_law_two"] (fun ds post => ∃ a b : Rat, ds = [fr a, fr b] ∧ (Sz 4000 a ∧ Sz 4000 b) ∧ post (fr (a * b))) := by
  refine Knows.mkP A.d__law_times sc__law_times (fun ds post h => by obtain ⟨_, _, rfl, _⟩ := h; rfl) ?_
  rintro ds post ⟨a, b, rfl, ⟨h1, h2⟩, q⟩
  refine eb_one (es_ret (ee_call (k__law_lean A) (Nat.le_of_ble_eq_true rfl) (by kernel_rfl) (ea_cons (ee_mul (ee_ix (ee_name 0 rfl (by kernel_rfl) rfl (ee_int (⟨_, _, _, rfl, rfl, rfl, ee_ix (ee_name 1 rfl (by kernel_rfl) rfl (ee_int (⟨_, _, _, rfl, rfl, rfl, ⟨_, _, rfl, rfl, ⟨?_, ?_⟩, ea_cons (ee_mul (ee_ix (ee_name 0 rfl (by kernel_rfl) rfl (ee_int (⟨_, _, _, rfl, rfl, rfl, ee_ix (ee_name 1 rfl (by kernel_rfl) rfl (ee_int (⟨_, _, _, rfl, rfl, rfl, ⟨_, _, rfl, rfl, ⟨?_, ?_⟩, ea_nil (⟨_, _, rfl, ?_, ⟨_, rfl, ?_⟩⟩)⟩⟩)))⟩)))))⟩⟩)))⟩))))))))
  all_goals first
    | exact Szn h1 (by decide)
    | exact Szn h2 (by decide)
    | exact Szd h1 (by decide)
    | exact Szd h2 (by decide)
    | exact ⟨Szn h1 (by decide), Szn h2 (by decide)⟩
    | exact ⟨Szn h1 (by decide), Szd h2 (by decide)⟩
    | exact ⟨Szn h2 (by decide), Szd h1 (by decide)⟩
    | exact ⟨Szd h1 (by decide), Szd h2 (by decide)⟩
    | exact ⟨den_mul_ne a b, (Szd h1 (Nat.le_refl _)).mul (Szd h2 (Nat.le_refl _)) (by decide)⟩
    | skip
  rw [dv_mul]; exact q
theorem k__law_less (A : Al g) : KnowsP g "_law_less" 3 ["_law_one", "_law_two"] (fun ds post => ∃ a b : Rat, ds = [fr a, fr b] ∧ (Sz 4000 a ∧ Sz 4000 b) ∧ post (fr (a - b))) := by
  refine Knows.mkP A.d__law_less sc__law_less (fun ds post h => by obtain ⟨_, _, rfl, _⟩ := h; rfl) ?_
  rintro ds post ⟨a, b, rfl, ⟨h1, h2⟩, q⟩
  refine eb_one (es_ret (ee_call (k__law_added A) (Nat.le_of_ble_eq_true rfl) (by kernel_rfl) (ea_cons (ee_name 0 rfl (by kernel_rfl) rfl (ea_cons (ee_tup (ea_cons (ee_sub (ee_int (ee_ix (ee_name 1 rfl (by kernel_rfl) rfl (ee_int (⟨_, _, _, rfl, rfl, rfl, ⟨_, _, rfl, rfl, ea_cons (ee_ix (ee_name 1 rfl (by kernel_rfl) rfl (ee_int (⟨_, _, _, rfl, rfl, rfl, ea_nil (⟨Nat.le_of_ble_eq_true rfl, ea_nil (⟨a, -b, by rw [← fr_neg], ⟨h1, h2.neg⟩, ⟨_, rfl, ?_⟩⟩)⟩)⟩))))⟩⟩)))))))))))))
  rw [Rat.sub_eq_add_neg] at q; exact q
theorem k__law_is_less (A : Al g) : KnowsP g "_law_is_less" 1 ["_law_one", "_law_two"] (fun ds post => ∃ a b : Rat, ds = [fr a, fr b] ∧ (Sz 4000 a ∧ Sz 4000 b) ∧ post (.bool (decide (a < b)))) := by
  refine Knows.mkP A.d__law_is_less sc__law_is_less (fun ds post h => by obtain ⟨_, _, rfl, _⟩ := h; rfl) ?_
  rintro ds post ⟨a, b, rfl, ⟨h1, h2⟩, q⟩
  refine eb_one (es_ret (ee_cmp cp_lt (nomark _) (ee_mul (ee_ix (ee_name 0 rfl (by kernel_rfl) rfl (ee_int (⟨_, _, _, rfl, rfl, rfl, ee_ix (ee_name 1 rfl (by kernel_rfl) rfl (ee_int (⟨_, _, _, rfl, rfl, rfl, ⟨_, _, rfl, rfl, ⟨?_, ?_⟩, ee_mul (ee_ix (ee_name 1 rfl (by kernel_rfl) rfl (ee_int (⟨_, _, _, rfl, rfl, rfl, ee_ix (ee_name 0 rfl (by kernel_rfl) rfl (ee_int (⟨_, _, _, rfl, rfl, rfl, ⟨_, _, rfl, rfl, ⟨?_, ?_⟩, ⟨_, ⟨_, _, rfl, rfl, rfl⟩, ⟨_, rfl, ?_⟩⟩⟩⟩)))⟩))))⟩⟩)))⟩)))))))
  all_goals first
    | exact Szn h1 (by decide)
    | exact Szn h2 (by decide)
    | exact Szd h1 (by decide)
    | exact Szd h2 (by decide)
    | exact ⟨Szn h1 (by decide), Szn h2 (by decide)⟩
    | exact ⟨Szn h1 (by decide), Szd h2 (by decide)⟩
    | exact ⟨Szn h2 (by decide), Szd h1 (by decide)⟩
    | exact ⟨Szd h1 (by decide), Szd h2 (by decide)⟩
    | exact ⟨den_mul_ne a b, (Szd h1 (Nat.le_refl _)).mul (Szd h2 (Nat.le_refl _)) (by decide)⟩
    | skip
  show post (.bool (decide (_ < _))); rw [lt_dec]; exact q
abbrev V3.at (v : V3) (i : Nat) : Rat := [v.x, v.y, v.z].getD i 0
theorem at3 {v : V3} {i : Nat} (h : i < 3) : atI [fr v.x, fr v.y, fr v.z] ((i : Nat) : Int) = some (fr (V3.at v i)) := by
  match i, h with
  | 0, _ | 1, _ | 2, _ => rfl
theorem at3_all {P : Rat → Prop} {v : V3} {i : Nat} (h : i < 3) (k : v.all P) : P (V3.at v i) := by
  match i, h with
  | 0, _ => exact k.1
  | 1, _ => exact k.2.1
  | 2, _ => exact k.2.2
theorem dv_minor (a b c d : Rat) : Rat.divInt (a.num * b.num * c.den * d.den - c.num * d.num * a.den * b.den) (a.den * b.den * c.den * d.den) = a * b - c * d := by
  have h1 := den_ne a
  have h2 := den_ne b
  have h3 := den_ne c
  have h4 := den_ne d
  have e1 := rat_dv a
  have e2 := rat_dv b
  have e3 := rat_dv c
  have e4 := rat_dv d
  rw [Rat.divInt_eq_div]
  simp only [Rat.intCast_sub, Rat.intCast_mul]
  grind
theorem k__law_minor (A : Al g) : KnowsP g "_law_minor" 2 ["_law_a", "_law_b", "_law_i", "_law_j"] (fun ds post => ∃ (a b : V3) (i j : Nat), ds = [tr a, tr b, .int ((i : Nat) : Int), .int ((j : Nat) : Int)] ∧ (i < 3 ∧ j < 3 ∧ a.all (Sz 1000) ∧ b.all (Sz 1000)) ∧ post (fr (V3.at a i * V3.at b j - V3.at a j * V3.at b i))) := by
  refine Knows.mkP A.d__law_minor sc__law_minor (fun ds post h => by obtain ⟨_, _, _, _, rfl, _⟩ := h; rfl) ?_
  rintro ds post ⟨a, b, i, j, rfl, ⟨hi, hj, sa, sb⟩, q⟩
  have a1 := at3_all hi sa
  have a2 := at3_all hj sa
  have b1 := at3_all hi sb
  have b2 := at3_all hj sb
  have n1 : Bd 1000 (V3.at a i).num := Szn a1 (Nat.le_refl _)
  have n2 : Bd 1000 (V3.at a j).num := Szn a2 (Nat.le_refl _)
  have n3 : Bd 1000 (V3.at b i).num := Szn b1 (Nat.le_refl _)
  have n4 : Bd 1000 (V3.at b j).num := Szn b2 (Nat.le_refl _)
  have d1 : Bd 1000 (((V3.at a i).den : Nat) : Int) := Szd a1 (Nat.le_refl _)
  have d2 : Bd 1000 (((V3.at a j).den : Nat) : Int) := Szd a2 (Nat.le_refl _)
  have d3 : Bd 1000 (((V3.at b i).den : Nat) : Int) := Szd b1 (Nat.le_refl _)
  have d4 : Bd 1000 (((V3.at b j).den : Nat) : Int) := Szd b2 (Nat.le_refl _)
  refine eb_cons (es_asg 4 rfl (by kernel_rfl) (.inl rfl) (ee_sub (ee_mul (ee_mul (ee_mul (ee_ix (ee_ix (ee_name 0 rfl (by kernel_rfl) rfl (ee_name 2 rfl (by kernel_rfl) rfl (⟨_, _, _, rfl, rfl, at3 hi, ee_int (⟨_, _, _, rfl, rfl, rfl, ee_ix (ee_ix (ee_name 1 rfl (by kernel_rfl) rfl (ee_name 3 rfl (by kernel_rfl) rfl (⟨_, _, _, rfl, rfl, at3 hj, ee_int (⟨_, _, _, rfl, rfl, rfl, ⟨_, _, rfl, rfl, ⟨?_, ?_⟩, ee_ix (ee_ix (ee_name 0 rfl (by kernel_rfl) rfl (ee_name 3 rfl (by kernel_rfl) rfl (⟨_, _, _, rfl, rfl, at3 hj, ee_int (⟨_, _, _, rfl, rfl, rfl, ⟨_, _, rfl, rfl, ⟨?_, ?_⟩, ee_ix (ee_ix (ee_name 1 rfl (by kernel_rfl) rfl (ee_name 2 rfl (by kernel_rfl) rfl (⟨_, _, _, rfl, rfl, at3 hi, ee_int (⟨_, _, _, rfl, rfl, rfl, ⟨_, _, rfl, rfl, ⟨?_, ?_⟩, ee_mul (ee_mul (ee_mul (ee_ix (ee_ix (ee_name 0 rfl (by kernel_rfl) rfl (ee_name 3 rfl (by kernel_rfl) rfl (⟨_, _, _, rfl, rfl, at3 hj, ee_int (⟨_, _, _, rfl, rfl, rfl, ee_ix (ee_ix (ee_name 1 rfl (by kernel_rfl) rfl (ee_name 2 rfl (by kernel_rfl) rfl (⟨_, _, _, rfl, rfl, at3 hi, ee_int (⟨_, _, _, rfl, rfl, rfl, ⟨_, _, rfl, rfl, ⟨?_, ?_⟩, ee_ix (ee_ix (ee_name 0 rfl (by kernel_rfl) rfl (ee_name 2 rfl (by kernel_rfl) rfl (⟨_, _, _, rfl, rfl, at3 hi, ee_int (⟨_, _, _, rfl, rfl, rfl, ⟨_, _, rfl, rfl, ⟨?_, ?_⟩, ee_ix (ee_ix (ee_name 1 rfl (by kernel_rfl) rfl (ee_name 3 rfl (by kernel_rfl) rfl (⟨_, _, _, rfl, rfl, at3 hj, ee_int (⟨_, _, _, rfl, rfl, rfl, ⟨_, _, rfl, rfl, ⟨?_, ?_⟩, ⟨_, _, rfl, rfl, eb_one (es_ret (ee_call (k__law_lean A) (Nat.le_of_ble_eq_true rfl) (by kernel_rfl) (ea_cons (ee_name 4 rfl (by kernel_rfl) rfl (ea_cons (ee_mul (ee_mul (ee_mul (ee_ix (ee_ix (ee_name 0 rfl (by kernel_rfl) rfl (ee_name 2 rfl (by kernel_rfl) rfl (⟨_, _, _, rfl, rfl, at3 hi, ee_int (⟨_, _, _, rfl, rfl, rfl, ee_ix (ee_ix (ee_name 1 rfl (by kernel_rfl) rfl (ee_name 3 rfl (by kernel_rfl) rfl (⟨_, _, _, rfl, rfl, at3 hj, ee_int (⟨_, _, _, rfl, rfl, rfl, ⟨_, _, rfl, rfl, ⟨?_, ?_⟩, ee_ix (ee_ix (ee_name 0 rfl (by kernel_rfl) rfl (ee_name 3 rfl (by kernel_rfl) rfl (⟨_, _, _, rfl, rfl, at3 hj, ee_int (⟨_, _, _, rfl, rfl, rfl, ⟨_, _, rfl, rfl, ⟨?_, ?_⟩, ee_ix (ee_ix (ee_name 1 rfl (by kernel_rfl) rfl (ee_name 2 rfl (by kernel_rfl) rfl (⟨_, _, _, rfl, rfl, at3 hi, ee_int (⟨_, _, _, rfl, rfl, rfl, ⟨_, _, rfl, rfl, ⟨?_, ?_⟩, ea_nil (⟨_, _, rfl, ?_, ⟨_, rfl, ?_⟩⟩)⟩⟩)⟩))))⟩⟩)⟩))))⟩⟩)⟩))))⟩)⟩)))))))))))))⟩⟩⟩)⟩))))⟩⟩)⟩))))⟩⟩)⟩))))⟩)⟩)))))))⟩⟩)⟩))))⟩⟩)⟩))))⟩⟩)⟩))))⟩)⟩))))))))))
  all_goals first
    | exact Bd.mono (n := 1000) (by assumption) (by decide)
    | exact Bd.mul (n := 1000) (m := 1000) (by assumption) (by assumption) (by decide)
    | exact Bd.mul (n := 2000) (m := 1000) (Bd.mul (n := 1000) (m := 1000) (by assumption) (by assumption) (by decide)) (by assumption) (by decide)
    | skip
  · refine ⟨?_, ?_⟩
    · exact Int.mul_ne_zero (Int.mul_ne_zero (Int.mul_ne_zero (den_ne0 _) (den_ne0 _)) (den_ne0 _)) (den_ne0 _)
    · exact Bd.mul (n := 3000) (m := 1000) (Bd.mul (n := 2000) (m := 1000) (Bd.mul (n := 1000) (m := 1000) (by assumption) (by assumption) (by decide)) (by assumption) (by decide)) (by assumption) (by decide)
  · rw [dv_minor]; exact q
theorem k__law_cross (A : Al g) : KnowsP g "_law_cross" 3 ["_law_a", "_law_b"] (fun ds post => ∃ p e : V3, ds = [tr p, tr e] ∧ (p.all (Sz 1000) ∧ e.all (Sz 1000)) ∧ post (tr (p.cross e))) := by
  refine Knows.mkP A.d__law_cross sc__law_cross (fun ds post h => by obtain ⟨_, _, rfl, _⟩ := h; rfl) ?_
  rintro ds post ⟨p, e, rfl, h, q⟩
  refine eb_one (es_ret (ee_tup (ea_cons (ee_call (k__law_minor A) (Nat.le_of_ble_eq_true rfl) (by kernel_rfl) (ea_cons (ee_name 0 rfl (by kernel_rfl) rfl (ea_cons (ee_name 1 rfl (by kernel_rfl) rfl (ea_cons (ee_int (ea_cons (ee_int (ea_nil (⟨p, e, 1, 2, rfl, ⟨by decide, by decide, h.1, h.2⟩, ea_cons (ee_call (k__law_minor A) (Nat.le_of_ble_eq_true rfl) (by kernel_rfl) (ea_cons (ee_name 0 rfl (by kernel_rfl) rfl (ea_cons (ee_name 1 rfl (by kernel_rfl) rfl (ea_cons (ee_int (ea_cons (ee_int (ea_nil (⟨p, e, 2, 0, rfl, ⟨by decide, by decide, h.1, h.2⟩, ea_cons (ee_call (k__law_minor A) (Nat.le_of_ble_eq_true rfl) (by kernel_rfl) (ea_cons (ee_name 0 rfl (by kernel_rfl) rfl (ea_cons (ee_name 1 rfl (by kernel_rfl) rfl (ea_cons (ee_int (ea_cons (ee_int (ea_nil (⟨p, e, 0, 1, rfl, ⟨by decide, by decide, h.1, h.2⟩, ea_nil (⟨Nat.le_of_ble_eq_true rfl, ⟨_, rfl, q⟩⟩)⟩)))))))))))⟩)))))))))))⟩))))))))))))))
theorem k__law_line (A : Al g) : KnowsP g "_law_line" 4 ["_law_at", "_law_along_here"] (fun ds post => ∃ p e : V3, ds = [tr p, tr e] ∧ (p.all (Sz 1000) ∧ e.all (Sz 1000)) ∧ post (linD (e, p.cross e))) := by
  refine Knows.mkP A.d__law_line sc__law_line (fun ds post h => by obtain ⟨_, _, rfl, _⟩ := h; rfl) ?_
  rintro ds post ⟨p, e, rfl, h, q⟩
  refine eb_one (es_ret (ee_tup (ea_cons (ee_name 1 rfl (by kernel_rfl) rfl (ea_cons (ee_call (k__law_cross A) (Nat.le_of_ble_eq_true rfl) (by kernel_rfl) (ea_cons (ee_name 0 rfl (by kernel_rfl) rfl (ea_cons (ee_name 1 rfl (by kernel_rfl) rfl (ea_nil (⟨_, _, rfl, h, ea_nil (⟨Nat.le_of_ble_eq_true rfl, ⟨_, rfl, q⟩⟩)⟩))))))))))))

theorem k__law_plus (A : Al g) : KnowsP g "_law_plus" 3 ["_law_a", "_law_b"] (fun ds post => ∃ a b : V3, ds = [tr a, tr b] ∧ (a.all (Sz 4000) ∧ b.all (Sz 4000)) ∧ post (tr (a.add b))) := by
  refine Knows.mkP A.d__law_plus sc__law_plus (fun ds post h => by obtain ⟨_, _, rfl, _⟩ := h; rfl) ?_
  rintro ds post ⟨a, b, rfl, ⟨h1, h2⟩, q⟩
  have h : ∀ x, x ∈ [(a.x, b.x), (a.y, b.y), (a.z, b.z)] → Sz 4000 x.1 ∧ Sz 4000 x.2 := by
    intro x hx
    simp only [List.mem_cons, List.not_mem_nil, or_false] at hx
    rcases hx with rfl | rfl | rfl
    · exact ⟨h1.1, h2.1⟩
    · exact ⟨h1.2.1, h2.2.1⟩
    · exact ⟨h1.2.2, h2.2.2⟩
  refine eb_one (es_ret (ee_tupleOf (by kernel_rfl) A.f_tuple ((en_lc [("_law_one", 2), ("_law_two", 3)] (by kernel_rfl) (lcq_map [(a.x, b.x), (a.y, b.y), (a.z, b.z)] (fun p => PyData.tuple [fr p.1, fr p.2]) (fun p => fr (p.1 + p.2)) (ei_zip (by kernel_rfl) A.f_zip (ea_cons (ee_name 0 rfl (by kernel_rfl) rfl (ea_cons (ee_name 1 rfl (by kernel_rfl) rfl (ea_nil (⟨false, false, _, _, rfl, ⟨?_, ?_, fun x hx => eg_tup (egs_cons (eg_name 2 rfl (by kernel_rfl) (.inr rfl) (by decide) (egs_cons (eg_name 3 rfl (by kernel_rfl) (.inr rfl) (by decide) (egs_nil (ee_call (k__law_added A) (Nat.le_of_ble_eq_true rfl) (by kernel_rfl) (ea_cons (ee_name 2 rfl (by kernel_rfl) rfl (ea_cons (ee_name 3 rfl (by kernel_rfl) rfl (ea_nil (⟨x.1, x.2, rfl, h x hx, ⟨rfl, rfl⟩⟩)))))))))))), fun _ _ => ⟨_, rfl, ⟨_, rfl, q⟩⟩⟩⟩))))))))).frz)))
  · rfl
  · exact Nat.le_of_ble_eq_true rfl
theorem k__law_scaled (A : Al g) : KnowsP g "_law_scaled" 3 ["_law_a", "_law_by"] (fun ds post => ∃ (a : V3) (k : Rat), ds = [tr a, fr k] ∧ (a.all (Sz 4000) ∧ Sz 4000 k) ∧ post (tr (a.smul k))) := by
  refine Knows.mkP A.d__law_scaled sc__law_scaled (fun ds post h => by obtain ⟨_, _, rfl, _⟩ := h; rfl) ?_
  rintro ds post ⟨a, k, rfl, ⟨h1, h2⟩, q⟩
  have h : ∀ x, x ∈ [a.x, a.y, a.z] → Sz 4000 x := by
    intro x hx
    simp only [List.mem_cons, List.not_mem_nil, or_false] at hx
    rcases hx with rfl | rfl | rfl
    · exact h1.1
    · exact h1.2.1
    · exact h1.2.2
  refine eb_one (es_ret (ee_tupleOf (by kernel_rfl) A.f_tuple ((en_lc [("_law_one", 2)] (by kernel_rfl) (lcq_map [a.x, a.y, a.z] fr (fun p => fr (p * k)) (ei_tup (ee_name 0 rfl (by kernel_rfl) rfl (⟨_, rfl, ⟨?_, ?_, fun x hx => eg_name 2 rfl (by kernel_rfl) (.inr rfl) (by decide) (ee_call (k__law_times A) (Nat.le_of_ble_eq_true rfl) (by kernel_rfl) (ea_cons (ee_name 2 rfl (by kernel_rfl) rfl (ea_cons (ee_name 1 rfl (by kernel_rfl) rfl (ea_nil (⟨x, k, rfl, ⟨h x hx, h2⟩, ⟨rfl, rfl⟩⟩))))))), fun _ _ => ⟨_, rfl, ⟨_, rfl, q⟩⟩⟩⟩))))).frz)))
  · rfl
  · exact Nat.le_of_ble_eq_true rfl
theorem lay_map {α : Type} {F : α → PyData} (h : ∀ x, (F x).canLay0 = true) : ∀ (xs : List α), PyData.canLayAll0 (xs.map F) = true
  | [] => rfl
  | x :: xs => by
    show (PyData.canLay0 (F x) && PyData.canLayAll0 (xs.map F)) = true
    rw [lay_map h xs, h x]
    rfl
theorem depth_map {α : Type} {F : α → PyData} (h : ∀ x, (F x).depth ≤ 60) : ∀ (xs : List α), PyData.depthAll (xs.map F) ≤ 60
  | [] => Nat.zero_le _
  | x :: xs => by
    show max (PyData.depth (F x)) (PyData.depthAll (xs.map F)) ≤ 60
    exact Nat.max_le.mpr ⟨h x, depth_map h xs⟩
theorem shaped_map {α : Type} {F : α → PyData} (h : ∀ x, (F x).canLay0 = true) (h2 : ∀ x, (F x).depth ≤ 60) (xs : List α) : SeqAt.shaped (PyData.list (xs.map F)) = true := by
  show (PyData.canLayAll0 (xs.map F) && decide (PyData.depthAll (xs.map F) + 1 ≤ 64)) = true
  rw [lay_map h, decide_eq_true (by have := depth_map h2 xs; omega)]
  rfl
theorem shaped_frl (xs : List Rat) : SeqAt.shaped (PyData.list (xs.map fr)) = true := shaped_map (fun _ => rfl) (fun _ => Nat.le_of_ble_eq_true rfl) xs
theorem eqv_nilL {α : Type} {F : α → PyData} (xs : List α) : PyData.eqv (.list (xs.map F)) (.list []) = xs.isEmpty := by cases xs <;> rfl
theorem nz_empty (a : V3) : ([a.x, a.y, a.z].filter fun q => decide (q.num ≠ 0)).isEmpty = decide (a = V3.zero) := by
  rw [Bool.eq_iff_iff, List.isEmpty_iff, List.filter_eq_nil_iff, decide_eq_true_iff]
  constructor
  · intro h
    have e : ∀ q, q ∈ [a.x, a.y, a.z] → q = 0 := fun q hq => by
      have := h q hq
      rw [decide_eq_true_iff] at this
      exact Rat.num_eq_zero.mp (by omega)
    cases a
    simp at e
    simp [V3.zero, e]
  · rintro rfl q hq
    have : q = 0 := by simpa [V3.zero] using hq
    rw [this]
    decide
theorem num0 (q : Rat) : decide (q.num ≠ 0) = decide (q ≠ 0) := decide_eq_decide.mpr (not_congr Rat.num_eq_zero)
theorem k__law_is_nought (A : Al g) : KnowsP g "_law_is_nought" 1 ["_law_a"] (fun ds post => ∃ a : V3, ds = [tr a] ∧ post (.bool (decide (a = V3.zero)))) := by
  refine Knows.mkP A.d__law_is_nought sc__law_is_nought (fun ds post h => by obtain ⟨_, rfl, _⟩ := h; rfl) ?_
  rintro ds post ⟨a, rfl, q⟩
  refine eb_one (es_ret (ee_cmp cp_eqD (nomark _) ((en_lc [("_law_each", 1)] (by kernel_rfl) (lcq_filter [a.x, a.y, a.z] fr fr (fun q => decide (q.num ≠ 0)) (ei_tup (ee_name 0 rfl (by kernel_rfl) rfl (⟨_, rfl, ⟨?_, ?_, fun x hx => eg_name 1 rfl (by kernel_rfl) (.inr rfl) (by decide) (et_cmp cp_neI (nomark _) (ee_ix (ee_name 1 rfl (by kernel_rfl) rfl (ee_int (⟨_, _, _, rfl, rfl, rfl, ee_int (⟨_, ⟨_, _, rfl, rfl, rfl⟩, ⟨?_, fun hk => ee_name 1 rfl (by kernel_rfl) rfl (⟨rfl, rfl⟩), fun hk => rfl⟩⟩)⟩))))), fun _ _ => (en_lst (ea_nil (⟨Nat.le_of_ble_eq_true rfl, fun _ _ => ⟨_, ⟨?_, ?_, rfl⟩, ⟨_, rfl, ?_⟩⟩⟩))).frz⟩⟩))))).frz)))
  · rfl
  · exact Nat.le_of_ble_eq_true rfl
  · exact ne_flip _
  · exact shaped_frl _
  · rfl
  · rw [eqv_nilL, nz_empty]; exact q
end Sp
namespace Sp
open PySem PySem.Spec PyProof.Rows L2 Ly SV
variable {g : Gc}

theorem k__law_summed (A : Al g) : KnowsP g "_law_summed" 2 ["_law_ones", "_law_twos"] (fun ds post => ∃ (b1 b2 : Bool) (n k1 k2 : Nat) (f h : Nat → Rat), ds = [seqB b1 (rg n fun i => fr (f i)), seqB b2 (rg n fun i => fr (h i))] ∧ (n ≤ 8 ∧ k1 + k2 ≤ 1000 ∧ (∀ i, i < n → Sz k1 (f i)) ∧ ∀ i, i < n → Sz k2 (h i)) ∧ post (fr (sumQ n fun i => f i * h i))) := by
  refine Knows.mkP A.d__law_summed sc__law_summed (fun ds post h => by obtain ⟨_, _, _, _, _, _, _, rfl, _⟩ := h; rfl) ?_
  rintro ds post ⟨b1, b2, n, k1, k2, f, h, rfl, ⟨hn, hk, sf, sh⟩, q⟩
  refine eb_cons (es_asgT (ee_tup (ea_cons (ee_int (ea_cons (ee_int (ea_nil (⟨Nat.le_of_ble_eq_true rfl, eg_tup (egs_cons (eg_name 2 rfl (by kernel_rfl) (.inl rfl) trivial (egs_cons (eg_name 3 rfl (by kernel_rfl) (.inl rfl) trivial (egs_nil (?_))))))⟩))))))))
  refine eb_cons (es_for (ei_zip (by kernel_rfl) A.f_zip (ea_cons (ee_name 0 rfl (by kernel_rfl) rfl (ea_cons (ee_name 1 rfl (by kernel_rfl) rfl (ea_nil (⟨b1, b2, _, _, rfl, ⟨fun i en => ∃ (up low : Int) (s4 s5 s6 : Sl), Sm f h i up low ∧ en = [.dat (seqB b1 (rg n fun i => fr (f i))), .dat (seqB b2 (rg n fun i => fr (h i))), .dat (.int up), .dat (.int low), s4, s5, s6], ⟨_, _, _, _, _, Sm.init f h, rfl⟩, ?_, ?_⟩⟩))))))))
  · rintro i d en2 hd ⟨up, low, s4, s5, s6, S, rfl⟩
    rw [rg_zip] at hd
    obtain ⟨hi, rfl⟩ := rg_at hd
    have h1 := sf i hi
    have h2 := sh i hi
    have lo : Bd 8001 low := Nat.lt_of_le_of_lt S.lb (Nat.pow_lt_pow_right (by decide) (by omega))
    have uo : Bd 8100 up := Nat.lt_of_le_of_lt S.ub (Nat.pow_lt_pow_right (by decide) (by omega))
    refine eg_tup (egs_cons (eg_name 4 rfl (by kernel_rfl) (.inl rfl) trivial (egs_cons (eg_name 5 rfl (by kernel_rfl) (.inl rfl) trivial (egs_nil (eb_cons (es_asg 6 rfl (by kernel_rfl) (.inl rfl) (ee_mul (ee_ix (ee_name 4 rfl (by kernel_rfl) rfl (ee_int (⟨_, _, _, rfl, rfl, rfl, ee_ix (ee_name 5 rfl (by kernel_rfl) rfl (ee_int (⟨_, _, _, rfl, rfl, rfl, ⟨_, _, rfl, rfl, ⟨?_, ?_⟩, eb_one (es_par2 2 3 rfl rfl (by decide) (by kernel_rfl) (by kernel_rfl) (ea_cons (ee_add (ee_mul (ee_name 2 rfl (by kernel_rfl) rfl (ee_name 6 rfl (by kernel_rfl) rfl (⟨_, _, rfl, rfl, ⟨?_, ?_⟩, ee_mul (ee_mul (ee_ix (ee_name 4 rfl (by kernel_rfl) rfl (ee_int (⟨_, _, _, rfl, rfl, rfl, ee_ix (ee_name 5 rfl (by kernel_rfl) rfl (ee_int (⟨_, _, _, rfl, rfl, rfl, ⟨_, _, rfl, rfl, ⟨?_, ?_⟩, ee_name 3 rfl (by kernel_rfl) rfl (⟨_, _, rfl, rfl, ⟨?_, ?_⟩, ⟨_, _, rfl, rfl, ea_cons (ee_mul (ee_name 3 rfl (by kernel_rfl) rfl (ee_name 6 rfl (by kernel_rfl) rfl (⟨_, _, rfl, rfl, ⟨?_, ?_⟩, ea_nil (⟨_, _, rfl, ⟨_, _, _, _, _, S.step h1 h2 hk, rfl⟩⟩)⟩))))⟩⟩)⟩⟩)))⟩)))))⟩)))))))⟩⟩)))⟩))))))))))))
    all_goals first
      | exact ⟨(Szd h1 (Nat.le_refl _)).mono (by omega), (Szd h2 (Nat.le_refl _)).mono (by omega)⟩
      | exact (Szd h1 (Nat.le_refl _)).mono (by omega)
      | exact (Szd h2 (Nat.le_refl _)).mono (by omega)
      | exact (Szn h1 (Nat.le_refl _)).mono (by omega)
      | exact (Szn h2 (Nat.le_refl _)).mono (by omega)
      | exact uo.mono (by decide)
      | exact lo.mono (by decide)
      | exact ((Szd h1 (Nat.le_refl _)).mul (Szd h2 (Nat.le_refl _)) (Nat.le_refl _)).mono (by omega)
      | exact ((Szn h1 (Nat.le_refl _)).mul (Szn h2 (Nat.le_refl _)) (Nat.le_refl _)).mono (by omega)
  · rintro en2 ⟨up, low, s4, s5, s6, S, rfl⟩
    rw [rg_zip, rg_len] at S
    refine eb_one (es_ret (ee_call (k__law_lean A) (Nat.le_of_ble_eq_true rfl) (by kernel_rfl) (ea_cons (ee_name 2 rfl (by kernel_rfl) rfl (ea_cons (ee_name 3 rfl (by kernel_rfl) rfl (ea_nil (⟨up, low, rfl, ⟨S.z, ?_⟩, ⟨_, rfl, ?_⟩⟩))))))))
    · exact Nat.lt_of_le_of_lt S.lb (Nat.pow_lt_pow_right (by decide) (by omega))
    · rw [S.fin]; exact q
theorem six_all {P : Rat → Prop} {u v : V3} (h : u.all P) (k : v.all P) : ∀ i, i < 6 → P (six u v i) := fun i hi => by
  match i, hi with
  | 0, _ => exact h.1
  | 1, _ => exact h.2.1
  | 2, _ => exact h.2.2
  | 3, _ => exact k.1
  | 4, _ => exact k.2.1
  | 5, _ => exact k.2.2
theorem k__law_power (A : Al g) : KnowsP g "_law_power" 3 ["_law_one", "_law_two"] (fun ds post => ∃ u v s t : V3, ds = [linD (u, v), linD (s, t)] ∧ (u.all (Sz 100) ∧ v.all (Sz 100) ∧ s.all (Sz 100) ∧ t.all (Sz 100)) ∧ post (fr (sumQ 6 fun i => six u v i * six t s i))) := by
  refine Knows.mkP A.d__law_power sc__law_power (fun ds post h => by obtain ⟨_, _, _, _, rfl, _⟩ := h; rfl) ?_
  rintro ds post ⟨u, v, s, t, rfl, ⟨h1, h2, h3, h4⟩, q⟩
  refine eb_one (es_ret (ee_call (k__law_summed A) (Nat.le_of_ble_eq_true rfl) (by kernel_rfl) (ea_cons (ee_catT (ee_ix (ee_name 0 rfl (by kernel_rfl) rfl (ee_int (⟨_, _, _, rfl, rfl, rfl, ee_ix (ee_name 0 rfl (by kernel_rfl) rfl (ee_int (⟨_, _, _, rfl, rfl, rfl, ⟨_, _, rfl, rfl, ?_, ea_cons (ee_catT (ee_ix (ee_name 1 rfl (by kernel_rfl) rfl (ee_int (⟨_, _, _, rfl, rfl, rfl, ee_ix (ee_name 1 rfl (by kernel_rfl) rfl (ee_int (⟨_, _, _, rfl, rfl, rfl, ⟨_, _, rfl, rfl, ?_, ea_nil (⟨false, false, 6, 100, 100, six u v, six t s, rfl, ⟨by decide, by decide, ?_, ?_⟩, ⟨_, rfl, q⟩⟩)⟩⟩)))⟩)))))⟩⟩)))⟩))))))))
  all_goals first
    | exact Nat.le_of_ble_eq_true rfl
    | exact six_all h1 h2
    | exact six_all h4 h3
/-- a pin with or without its stretch -/
abbrev bareD (p : Pin) : PyData := .tuple [tr p.at_, tr p.al]
abbrev pushD (p : Pin) : PyData := linD (p.al, p.at_.cross p.al)
theorem k__law_pushes (A : Al g) : KnowsP g "_law_pushes" 5 ["_law_pins_here"] (fun ds post => ∃ ps : List Pin, ds = [seqB false (ps.map pinD)] ∧ (ps.length ≤ 12 ∧ ∀ p, p ∈ ps → p.at_.all (Sz 1000) ∧ p.al.all (Sz 1000)) ∧ post (.list (ps.map pushD))) := by
  refine Knows.mkP A.d__law_pushes sc__law_pushes (fun ds post h => by obtain ⟨_, rfl, _⟩ := h; rfl) ?_
  rintro ds post ⟨ps, rfl, ⟨h1, h⟩, q⟩
  refine eb_one (es_ret ((en_lc [("_law_pin", 1)] (by kernel_rfl) (lcq_map ps pinD pushD (ei_B false (ee_name 0 rfl (by kernel_rfl) rfl (⟨_, rfl, ⟨?_, ?_, fun p hp => eg_name 1 rfl (by kernel_rfl) (.inr rfl) (by decide) (ee_call (k__law_line A) (Nat.le_of_ble_eq_true rfl) (by kernel_rfl) (ea_cons (ee_ix (ee_name 1 rfl (by kernel_rfl) rfl (ee_int (⟨_, _, _, rfl, rfl, rfl, ea_cons (ee_ix (ee_name 1 rfl (by kernel_rfl) rfl (ee_int (⟨_, _, _, rfl, rfl, rfl, ea_nil (⟨p.at_, p.al, rfl, h p hp, ⟨rfl, rfl⟩⟩)⟩))))⟩)))))), fun _ _ => ⟨_, rfl, q⟩⟩⟩))))).frz))
  · rfl
  · omega
theorem k2__law_pushes (A : Al g) : KnowsP g "_law_pushes" 5 ["_law_pins_here"] (fun ds post => ∃ ps : List Pin, ds = [seqB true (ps.map bareD)] ∧ (ps.length ≤ 12 ∧ ∀ p, p ∈ ps → p.at_.all (Sz 1000) ∧ p.al.all (Sz 1000)) ∧ post (.list (ps.map pushD))) := by
  refine Knows.mkP A.d__law_pushes sc__law_pushes (fun ds post h => by obtain ⟨_, rfl, _⟩ := h; rfl) ?_
  rintro ds post ⟨ps, rfl, ⟨h1, h⟩, q⟩
  refine eb_one (es_ret ((en_lc [("_law_pin", 1)] (by kernel_rfl) (lcq_map ps bareD pushD (ei_B true (ee_name 0 rfl (by kernel_rfl) rfl (⟨_, rfl, ⟨?_, ?_, fun p hp => eg_name 1 rfl (by kernel_rfl) (.inr rfl) (by decide) (ee_call (k__law_line A) (Nat.le_of_ble_eq_true rfl) (by kernel_rfl) (ea_cons (ee_ix (ee_name 1 rfl (by kernel_rfl) rfl (ee_int (⟨_, _, _, rfl, rfl, rfl, ea_cons (ee_ix (ee_name 1 rfl (by kernel_rfl) rfl (ee_int (⟨_, _, _, rfl, rfl, rfl, ea_nil (⟨p.at_, p.al, rfl, h p hp, ⟨rfl, rfl⟩⟩)⟩))))⟩)))))), fun _ _ => ⟨_, rfl, q⟩⟩⟩))))).frz))
  · rfl
  · omega
/-- kept shut, that nobody runs it -/
structure EeS (c : Cs) (e : Expr) (en : En) (Q : PyData → En → Prop) : Prop where
  run : EvE c e en Q
section
variable {c : Cs} {en : En} {Q : PyData → En → Prop} {D : Eds} {e1 e2 e3 : Expr} {k : Nat} {pos : Pos}
theorem es_c2 {i j : Int} {a b : Nat} {p1 p2 : Pos} (q : Q (.tuple [.int i, .int j]) en) : EeS c (.Tuple [.Constant (.int i) a p1, .Constant (.int j) b p2] k pos) en Q :=
  ⟨ee_tup (ea_cons (ee_int (ea_cons (ee_int (ea_nil ⟨Nat.le_of_ble_eq_true rfl, q⟩)))))⟩
theorem es_t2 (s1 : ∀ env, starEach [e1, e2] env = (false, eval e1 env) :: starEach [e2] env) (s2 : ∀ env, starEach [e2] env = [(false, eval e2 env)]) (h : EeS c e1 en fun d1 en1 => EeS c e2 en1 fun d2 en2 => Q (.tuple [d1, d2]) en2) : EeS c (.Tuple [e1, e2] k pos) en Q :=
  ⟨ee_tup (ea_cons (h.run.mono fun d1 en1 h2 => ea_cons (h2.run.mono fun d2 en2 q => ea_nil ⟨Nat.le_of_ble_eq_true rfl, q⟩) s2) s1)⟩
theorem es_t3 (s1 : ∀ env, starEach [e1, e2, e3] env = (false, eval e1 env) :: starEach [e2, e3] env) (s2 : ∀ env, starEach [e2, e3] env = (false, eval e2 env) :: starEach [e3] env) (s3 : ∀ env, starEach [e3] env = [(false, eval e3 env)]) (h : EeS c e1 en fun d1 en1 => EeS c e2 en1 fun d2 en2 => EeS c e3 en2 fun d3 en3 => Q (.tuple [d1, d2, d3]) en3) : EeS c (.Tuple [e1, e2, e3] k pos) en Q :=
  ⟨ee_tup (ea_cons (h.run.mono fun d1 en1 h2 => ea_cons (h2.run.mono fun d2 en2 h3 => ea_cons (h3.run.mono fun d3 en3 q => ea_nil ⟨Nat.le_of_ble_eq_true rfl, q⟩) s3) s2) s1)⟩
theorem es_retS (h : EeS c e1 en fun d en1 => D.rt (.dat d) en1) : EvS c (.Return (some e1) pos) en D := es_ret h.run
end
def axD : PyData := .tuple [tr ⟨1, 0, 0⟩, tr ⟨0, 1, 0⟩, tr ⟨0, 0, 1⟩]
abbrev d11 : PyData := .tuple [.int 1, .int 1]
theorem axes_eq : axD = .tuple [.tuple [d11, d01, d01], .tuple [d01, d11, d01], .tuple [d01, d01, d11]] := by
  unfold axD
  kernel_rfl
def noughtD : PyData := linD (V3.zero, V3.zero)
theorem nought_eq : noughtD = .tuple [.tuple [d01, d01, d01], .tuple [d01, d01, d01]] := by
  unfold noughtD
  kernel_rfl
theorem k__law_nought (A : Al g) : KnowsP g "_law_nought" 1 [] (fun ds post => ds = [] ∧ post noughtD) := by
  refine Knows.mkP A.d__law_nought sc__law_nought (fun ds post h => by obtain ⟨rfl, _⟩ := h; rfl) ?_
  rintro ds post ⟨rfl, q⟩
  rw [nought_eq] at q
  refine eb_one ?_
  refine es_retS ?_
  refine es_t2 (fun _ => rfl) (fun _ => rfl) (es_t3 (fun _ => rfl) (fun _ => rfl) (fun _ => rfl) (es_c2 (es_c2 (es_c2 (es_t3 (fun _ => rfl) (fun _ => rfl) (fun _ => rfl) (es_c2 (es_c2 (es_c2 (⟨_, rfl, q⟩)))))))))
theorem k__law_axes (A : Al g) : KnowsP g "_law_axes" 1 [] (fun ds post => ds = [] ∧ post axD) := by
  refine Knows.mkP A.d__law_axes sc__law_axes (fun ds post h => by obtain ⟨rfl, _⟩ := h; rfl) ?_
  rintro ds post ⟨rfl, q⟩
  rw [axes_eq] at q
  refine eb_one ?_
  refine es_retS ?_
  refine es_t3 (fun _ => rfl) (fun _ => rfl) (fun _ => rfl) (es_t3 (fun _ => rfl) (fun _ => rfl) (fun _ => rfl) (es_c2 (es_c2 (es_c2 (es_t3 (fun _ => rfl) (fun _ => rfl) (fun _ => rfl) (es_c2 (es_c2 (es_c2 (es_t3 (fun _ => rfl) (fun _ => rfl) (fun _ => rfl) (es_c2 (es_c2 (es_c2 (⟨_, rfl, q⟩)))))))))))))
end Sp
namespace Sp
open PySem PySem.Spec PyProof.Rows L2 Ly SV
variable {g : Gc}

abbrev pushR (p : Pin) : Nat → Rat := six p.al (p.at_.cross p.al)
abbrev rowD (p : Pin) : PyData := .tuple [fr p.al.x, fr p.al.y, fr p.al.z, fr (p.at_.cross p.al).x, fr (p.at_.cross p.al).y, fr (p.at_.cross p.al).z]
/-- the sum of pushes by shares -/
def mixA (ps : List Pin) (w : Nat → Rat) (k : Nat) : Rat := sumQ ps.length fun a => rwA ps a k * w a
def mixV (ps : List Pin) (w : Nat → Rat) : V3 × V3 := (⟨mixA ps w 0, mixA ps w 1, mixA ps w 2⟩, ⟨mixA ps w 3, mixA ps w 4, mixA ps w 5⟩)
theorem row_ix {p : Pin} {k : Nat} (h : k < 6) : atI [fr p.al.x, fr p.al.y, fr p.al.z, fr (p.at_.cross p.al).x, fr (p.at_.cross p.al).y, fr (p.at_.cross p.al).z] ((k : Nat) : Int) = some (fr (p.row.getD k 0)) := by
  match k, h with
  | 0, _ | 1, _ | 2, _ | 3, _ | 4, _ | 5, _ => rfl
theorem rgpins {ps : List Pin} {F : Pin → PyData} : ps.map F = rg ps.length fun a => F (pA ps a) := by
  refine List.ext_getElem? fun i => ?_
  by_cases h : i < ps.length
  · rw [rg_get h, List.getElem?_map, pA, List.getD_eq_getElem?_getD, List.getElem?_eq_getElem h]
    rfl
  · rw [List.getElem?_eq_none (by rw [List.length_map]; omega), List.getElem?_eq_none (by rw [rg_len]; omega)]
theorem k__law_mixed (A : Al g) : KnowsP g "_law_mixed" 3 ["_law_some", "_law_weights"] (fun ds post => ∃ (ps : List Pin) (w : Nat → Rat), ds = [.list (ps.map pushD), frs (rg ps.length w)] ∧ (ps.length ≤ 8 ∧ (∀ p, p ∈ ps → ∀ q, q ∈ p.row → Sz 90 q) ∧ ∀ i, i < ps.length → Sz 700 (w i)) ∧ post (linD (mixV ps w))) := by
  refine Knows.mkP A.d__law_mixed sc__law_mixed (fun ds post h => by obtain ⟨_, _, rfl, _⟩ := h; rfl) ?_
  rintro ds post ⟨ps, w, rfl, ⟨hn, hr, hs⟩, q⟩
  refine eb_cons (es_lcK 2 rfl (by kernel_rfl) (en_lc [("_law_each", 4)] (by kernel_rfl) (lcq_map ps pushD rowD (ei_list (ee_name 0 rfl (by kernel_rfl) rfl (⟨_, rfl, ⟨?_, ?_, fun p hp => eg_name 4 rfl (by kernel_rfl) (.inr rfl) (by decide) (ee_catT (ee_ix (ee_name 4 rfl (by kernel_rfl) rfl (ee_int (⟨_, _, _, rfl, rfl, rfl, ee_ix (ee_name 4 rfl (by kernel_rfl) rfl (ee_int (⟨_, _, _, rfl, rfl, rfl, ⟨_, _, rfl, rfl, ?_, ⟨rfl, rfl⟩⟩⟩)))⟩))))), fun _ _ => eb_frz 2 rfl (eb_cons (es_lc 3 [("_law_k", 5)] (by kernel_rfl) rfl (by kernel_rfl) (lcq_map (List.range 6) (fun k => PyData.int ((k : Nat) : Int)) (fun k => fr (mixA ps w k)) (ei_range1 (by kernel_rfl) A.f_range (ee_int (⟨_, rfl, ?_, ⟨?_, ?_, fun k hx => eg_name 5 rfl (by kernel_rfl) (.inl (by kernel_rfl)) (by decide) (ee_call (k__law_summed A) (Nat.le_of_ble_eq_true rfl) (by kernel_rfl) (ea_cons ((en_lc [("_law_row", 6)] (by kernel_rfl) (lcq_map ps rowD (fun p => fr (p.row.getD k 0)) (ei_list (ee_name 2 rfl (by kernel_rfl) rfl (⟨_, rfl, ⟨?_, ?_, fun p hp => eg_name 6 rfl (by kernel_rfl) (.inr rfl) (by decide) (ee_ix (ee_name 6 rfl (by kernel_rfl) rfl (ee_name 5 rfl (by kernel_rfl) rfl (⟨_, _, _, rfl, rfl, row_ix (List.mem_range.mp hx), ⟨rfl, rfl⟩⟩)))), fun _ _ => ea_cons (ee_name 1 rfl (by kernel_rfl) rfl (ea_nil (⟨true, false, ps.length, 90, 700, (fun a => rwA ps a k), w, ?_, ⟨hn, by decide, ?_, fun i hi => hs i hi⟩, ⟨rfl, rfl⟩⟩)))⟩⟩))))).frz))), fun _ _ => eb_frz 3 rfl (eb_one (es_ret (ee_tup (ea_cons (ee_tupleOf (by kernel_rfl) A.f_tuple (EvN.frz (en_slice (ee_name 3 rfl (by kernel_rfl) rfl (ee_int (⟨_, rfl, ⟨_, rfl, fun _ _ => ⟨_, rfl, ea_cons (ee_tupleOf (by kernel_rfl) A.f_tuple (EvN.frz (en_slice (ee_name 3 rfl (by kernel_rfl) rfl (ee_int (⟨_, rfl, ⟨_, rfl, fun _ _ => ⟨_, rfl, ea_nil (⟨Nat.le_of_ble_eq_true rfl, ⟨_, rfl, q⟩⟩)⟩⟩⟩))))))⟩⟩⟩))))))))))⟩⟩))))))⟩⟩))))))
  all_goals first
    | rfl
    | omega
    | exact Nat.le_of_ble_eq_true rfl
    | (rw [show frs (rg ps.length w) = seqB false (rg ps.length fun i => fr (w i)) from congrArg PyData.tuple rg_fr, rgpins]; rfl)
    | exact fun i hi => hr _ (pA_mem hi) _ (rw_mem (List.mem_range.mp hx))
theorem k__law_is_whole (A : Al g) : KnowsP g "_law_is_whole" 1 ["_law_thing"] (fun ds post => ∃ i : Int, ds = [.int i] ∧ post (.bool true)) := by
  refine Knows.mkP A.d__law_is_whole sc__law_is_whole (fun ds post h => by obtain ⟨_, rfl, _⟩ := h; rfl) ?_
  rintro ds post ⟨i, rfl, q⟩
  refine eb_one (es_ret (ee_and (ee_isi (T := "int") (by decide) (by kernel_rfl) A.f_isinstance (by kernel_rfl) A.f_int (by kernel_rfl) (ee_name 0 rfl (by kernel_rfl) rfl (⟨_, rfl, fun _ => ee_one (ee_not (ee_isi (T := "bool") (by decide) (by kernel_rfl) A.f_isinstance (by kernel_rfl) A.f_bool (by kernel_rfl) (ee_name 0 rfl (by kernel_rfl) rfl (⟨_, rfl, ⟨_, rfl, ?_⟩⟩)))), fun _ => ?_⟩)))))
  all_goals first | exact q | (rename_i z; cases z) | (rename_i z; exact q)
end Sp
namespace Sp
open PySem PySem.Spec PyProof.Rows L2 Ly SV
variable {g : Gc}

theorem k__law_is_fraction (A : Al g) : KnowsP g "_law_is_fraction" 2 ["_law_thing"] (fun ds post => ∃ q : Rat, ds = [fr q] ∧ Sz 1000 q ∧ post (.bool true)) := by
  refine Knows.mkP A.d__law_is_fraction sc__law_is_fraction (fun ds post h => by obtain ⟨_, rfl, _⟩ := h; rfl) ?_
  rintro ds post ⟨q, rfl, h1, k⟩
  refine eb_cons (es_if (et_W (ew_or (et_not (et_val (ee_isi (T := "tuple") (by decide) (by kernel_rfl) A.f_isinstance (by kernel_rfl) A.f_tuple (by kernel_rfl) (ee_name 0 rfl (by kernel_rfl) rfl (⟨_, rfl, ⟨fun z => (by cases z), fun _ => ew_or1 (et_cmp cp_neI (nomark _) (ee_callB bc_len (by kernel_rfl) A.f_len (by kernel_rfl) (ea_cons (ee_name 0 rfl (by kernel_rfl) rfl (ea_nil (⟨_, ⟨_, _, rfl, rfl, rfl⟩, ee_int (⟨_, ⟨_, _, rfl, rfl, rfl⟩, ⟨fun z => (by cases z), fun hk => eb_nil (eb_cons (es_if (et_W (ew_or (et_not (et_val (ee_call (k__law_is_whole A) (Nat.le_of_ble_eq_true rfl) (by kernel_rfl) (ea_cons (ee_ix (ee_name 0 rfl (by kernel_rfl) rfl (ee_int (⟨_, _, _, rfl, rfl, rfl, ea_nil (⟨_, rfl, ⟨_, rfl, ⟨fun z => (by cases z), fun _ => ew_or (et_not (et_val (ee_call (k__law_is_whole A) (Nat.le_of_ble_eq_true rfl) (by kernel_rfl) (ea_cons (ee_ix (ee_name 0 rfl (by kernel_rfl) rfl (ee_int (⟨_, _, _, rfl, rfl, rfl, ea_nil (⟨_, rfl, ⟨_, rfl, ⟨fun z => (by cases z), fun _ => ew_or1 (et_cmp cp_lt (nomark _) (ee_ix (ee_name 0 rfl (by kernel_rfl) rfl (ee_int (⟨_, _, _, rfl, rfl, rfl, ee_int (⟨_, ⟨_, _, rfl, rfl, rfl⟩, ⟨fun hk => eb_one (es_ret (ee_bool (⟨_, rfl, ?_⟩))), fun hk => eb_nil (eb_one (es_ret (ee_cmp cp_eqD (nomark _) (ee_call (k__law_lean A) (Nat.le_of_ble_eq_true rfl) (by kernel_rfl) (ea_cons (ee_ix (ee_name 0 rfl (by kernel_rfl) rfl (ee_int (⟨_, _, _, rfl, rfl, rfl, ea_cons (ee_ix (ee_name 0 rfl (by kernel_rfl) rfl (ee_int (⟨_, _, _, rfl, rfl, rfl, ea_nil (⟨q.num, ((q.den : Nat) : Int), rfl, ⟨den_ne0 q, Szd h1 (by decide)⟩, ee_name 0 rfl (by kernel_rfl) rfl (⟨_, ⟨?_, ?_, rfl⟩, ⟨_, rfl, ?_⟩⟩)⟩)⟩))))⟩)))))))))⟩⟩)⟩)))))⟩⟩⟩)⟩))))))))⟩⟩⟩)⟩))))))))))))⟩⟩)⟩))))))⟩⟩))))))))
  · have := of_decide_eq_true hk
    have := q.den_pos
    omega
  · rfl
  · rfl
  · rw [eqv_fr, Rat.divInt_eq_div, ← rat_dv, decide_eq_true rfl]; exact k
theorem k__law_are (A : Al g) : KnowsP g "_law_are" 3 ["_law_thing", "_law_size"] (fun ds post => ∃ qs : List Rat, ds = [frs qs, .int ((qs.length : Nat) : Int)] ∧ (qs.length ≤ 1000 ∧ ∀ q, q ∈ qs → Sz 1000 q) ∧ post (.bool true)) := by
  refine Knows.mkP A.d__law_are sc__law_are (fun ds post h => by obtain ⟨_, rfl, _⟩ := h; rfl) ?_
  rintro ds post ⟨qs, rfl, ⟨h1, h2⟩, q⟩
  refine eb_cons (es_if (et_W (ew_or (et_not (et_val (ee_isi (T := "tuple") (by decide) (by kernel_rfl) A.f_isinstance (by kernel_rfl) A.f_tuple (by kernel_rfl) (ee_name 0 rfl (by kernel_rfl) rfl (⟨_, rfl, ⟨fun z => (by cases z), fun _ => ew_or1 (et_cmp cp_neI (nomark _) (ee_callB bc_len (by kernel_rfl) A.f_len (by kernel_rfl) (ea_cons (ee_name 0 rfl (by kernel_rfl) rfl (ea_nil (⟨_, ⟨_, _, rfl, rfl, rfl⟩, ee_name 1 rfl (by kernel_rfl) rfl (⟨_, ⟨_, _, rfl, rfl, rfl⟩, ⟨fun hk => eb_one (es_ret (ee_bool (⟨_, rfl, ?_⟩))), fun hk => eb_nil (eb_one (es_ret (ee_cmp cp_eqD (nomark _) ((en_lc [("_law_each", 2)] (by kernel_rfl) (lcq_filter qs fr fr (fun _ => false) (ei_tup (ee_name 0 rfl (by kernel_rfl) rfl (⟨_, rfl, ⟨?_, ?_, fun x hx => eg_name 2 rfl (by kernel_rfl) (.inr rfl) (by decide) (et_not (et_val (ee_call (k__law_is_fraction A) (Nat.le_of_ble_eq_true rfl) (by kernel_rfl) (ea_cons (ee_name 2 rfl (by kernel_rfl) rfl (ea_nil (⟨x, rfl, h2 x hx, ⟨_, rfl, ⟨rfl, fun hk => ee_name 2 rfl (by kernel_rfl) rfl (⟨rfl, rfl⟩), fun hk => rfl⟩⟩⟩))))))), fun _ _ => (en_lst (ea_nil (⟨Nat.le_of_ble_eq_true rfl, fun _ _ => ⟨_, ⟨?_, ?_, rfl⟩, ⟨_, rfl, ?_⟩⟩⟩))).frz⟩⟩))))).frz))))⟩⟩)⟩))))))⟩⟩))))))))
  · have : (!decide ((((qs.map fr).length : Nat) : Int) = ((qs.length : Nat) : Int))) = true := hk
    rw [List.length_map, decide_eq_true rfl] at this
    cases this
  · rfl
  · exact h1
  · rw [filter_no]; rfl
  · rfl
  · rw [filter_no]; exact q
theorem k__law_within (A : Al g) : KnowsP g "_law_within" 2 ["_law_told", "_law_one"] (fun ds post => ∃ lo hi x : Rat, ds = [.tuple [fr lo, fr hi], fr x] ∧ (Sz 4000 lo ∧ Sz 4000 hi ∧ Sz 4000 x ∧ lo ≤ x ∧ x ≤ hi) ∧ post (.bool true)) := by
  refine Knows.mkP A.d__law_within sc__law_within (fun ds post h => by obtain ⟨_, _, _, rfl, _⟩ := h; rfl) ?_
  rintro ds post ⟨lo, hi, x, rfl, ⟨s1, s2, s3, h1, h2⟩, q⟩
  refine eb_cons (es_if (et_W (ew_and (et_cmp cp_notN (nomark _) (ee_ix (ee_name 0 rfl (by kernel_rfl) rfl (ee_int (⟨_, _, _, rfl, rfl, rfl, ee_none (⟨_, ⟨rfl, rfl⟩, ⟨fun _ => ew_and1 (et_val (ee_call (k__law_is_less A) (Nat.le_of_ble_eq_true rfl) (by kernel_rfl) (ea_cons (ee_name 1 rfl (by kernel_rfl) rfl (ea_cons (ee_ix (ee_name 0 rfl (by kernel_rfl) rfl (ee_int (⟨_, _, _, rfl, rfl, rfl, ea_nil (⟨_, _, rfl, ⟨?_, ?_⟩, ⟨_, rfl, ⟨fun hk => eb_one (es_ret (ee_bool (⟨_, rfl, ?_⟩))), fun hk => eb_nil (eb_one (es_ret (ee_or (ee_cmp cp_isN (nomark _) (ee_ix (ee_name 0 rfl (by kernel_rfl) rfl (ee_int (⟨_, _, _, rfl, rfl, rfl, ee_none (⟨_, ⟨rfl, rfl⟩, ⟨_, rfl, fun z => (by cases z), fun _ => ee_one (ee_not (ee_call (k__law_is_less A) (Nat.le_of_ble_eq_true rfl) (by kernel_rfl) (ea_cons (ee_ix (ee_name 0 rfl (by kernel_rfl) rfl (ee_int (⟨_, _, _, rfl, rfl, rfl, ea_cons (ee_name 1 rfl (by kernel_rfl) rfl (ea_nil (⟨_, _, rfl, ⟨?_, ?_⟩, ⟨_, rfl, ⟨_, rfl, ?_⟩⟩⟩)))⟩)))))))⟩⟩)⟩))))))))⟩⟩⟩)⟩))))))))), fun z => (by cases z)⟩⟩)⟩))))))))
  all_goals first
    | exact s1
    | exact s2
    | exact s3
    | exact absurd (of_decide_eq_true hk) (Rat.not_lt.mpr h1)
    | (rw [decide_eq_false (Rat.not_lt.mpr h2)]; exact q)
theorem k__law_shared (A : Al g) : KnowsP g "_law_shared" 6 ["_law_pins_here", "_law_goal", "_law_shares"] (fun ds post => ∃ (ps : List Pin) (u : V3 × V3) (w : Nat → Rat), ds = [.tuple (ps.map pinD), linD u, frs (rg ps.length w)] ∧ (ps.length ≤ 8 ∧ (∀ p, p ∈ ps → p.at_.all (Sz 1000) ∧ p.al.all (Sz 1000)) ∧ (∀ p, p ∈ ps → ∀ q, q ∈ p.row → Sz 90 q) ∧ ∀ i, i < ps.length → Sz 700 (w i)) ∧ post (.bool (decide (mixV ps w = u)))) := by
  refine Knows.mkP A.d__law_shared sc__law_shared (fun ds post h => by obtain ⟨_, _, _, rfl, _⟩ := h; rfl) ?_
  rintro ds post ⟨ps, u, w, rfl, ⟨hn, hp, hr, hs⟩, q⟩
  refine eb_one (es_ret (ee_and (ee_call (k__law_are A) (Nat.le_of_ble_eq_true rfl) (by kernel_rfl) (ea_cons (ee_name 2 rfl (by kernel_rfl) rfl (ea_cons (ee_callB bc_len (by kernel_rfl) A.f_len (by kernel_rfl) (ea_cons (ee_name 0 rfl (by kernel_rfl) rfl (ea_nil (⟨_, ⟨_, _, rfl, rfl, rfl⟩, ea_nil (⟨rg ps.length w, by rw [rg_len, List.length_map], ⟨by rw [rg_len]; omega, ?_⟩, ⟨_, rfl, fun _ => ee_one (ee_cmp cp_eqD (nomark _) (ee_call (k__law_mixed A) (Nat.le_of_ble_eq_true rfl) (by kernel_rfl) (ea_cons (ee_call (k__law_pushes A) (Nat.le_of_ble_eq_true rfl) (by kernel_rfl) (ea_cons (ee_name 0 rfl (by kernel_rfl) rfl (ea_nil (⟨ps, rfl, ⟨by omega, hp⟩, ea_cons (ee_name 2 rfl (by kernel_rfl) rfl (ea_nil (⟨ps, w, rfl, ⟨hn, hr, hs⟩, ee_name 1 rfl (by kernel_rfl) rfl (⟨_, ⟨?_, ?_, rfl⟩, ⟨_, rfl, ?_⟩⟩)⟩)))⟩)))))))), fun z => (by cases z)⟩⟩)⟩)))))))))))
  · exact fun q hq => by obtain ⟨i, hi, rfl⟩ := mem_rg.mp hq; exact (hs i hi).mono (by decide)
  all_goals first
    | rfl
    | (rw [eqv_lin]; exact q)
def endA (ps : List Pin) (w : Nat → Rat) (most : Bool) (a : Nat) : Rat := if decide (0 < w a) = most then (pA ps a).hi else (pA ps a).lo
theorem zip_pw {ps : List Pin} {w : Nat → Rat} : zipD (ps.map pinD) ((rg ps.length w).map fr) = (List.range ps.length).map fun a => PyData.tuple [pinD (pA ps a), fr (w a)] := by
  rw [rgpins, rg_fr, rg_zip]
theorem eqv_bool (a b : Bool) : PyData.eqv (.bool a) (.bool b) = decide (a = b) := by cases a <;> cases b <;> rfl
theorem num_pos' {w : Rat} : w.num > 0 ↔ 0 < w := by
  rw [Rat.lt_iff]
  simp
theorem end_ix {lo hi w : Rat} {most : Bool} : atI [fr lo, fr hi] (if PyData.eqv (.bool (decide (w.num > 0))) (.bool most) = true then 1 else 0) = some (fr (if decide (0 < w) = most then hi else lo)) := by
  rw [eqv_bool, show decide (w.num > 0) = decide (0 < w) from decide_eq_decide.mpr num_pos']
  by_cases h : decide (0 < w) = most
  · rw [decide_eq_true h, if_pos h]; rfl
  · rw [decide_eq_false h, if_neg h]; rfl
theorem k__law_worth (A : Al g) : KnowsP g "_law_worth" 3 ["_law_pins_here", "_law_weights", "_law_most"] (fun ds post => ∃ (ps : List Pin) (w : Nat → Rat) (most : Bool), ds = [.tuple (ps.map pinD), frs (rg ps.length w), .bool most] ∧ (ps.length ≤ 8 ∧ (∀ p, p ∈ ps → Sz 60 p.lo ∧ Sz 60 p.hi) ∧ ∀ i, i < ps.length → Sz 700 (w i)) ∧ post (fr (sumQ ps.length fun a => w a * endA ps w most a))) := by
  refine Knows.mkP A.d__law_worth sc__law_worth (fun ds post h => by obtain ⟨_, _, _, rfl, _⟩ := h; rfl) ?_
  rintro ds post ⟨ps, w, most, rfl, ⟨hn, hp, hs⟩, q⟩
  refine eb_one (es_ret (ee_call (k__law_summed A) (Nat.le_of_ble_eq_true rfl) (by kernel_rfl) (ea_cons (ee_name 1 rfl (by kernel_rfl) rfl (ea_cons ((en_lc [("_law_pin", 3), ("_law_each", 4)] (by kernel_rfl) (lcq_map (List.range ps.length) (fun a => PyData.tuple [pinD (pA ps a), fr (w a)]) (fun a => fr (endA ps w most a)) (ei_zip (by kernel_rfl) A.f_zip (ea_cons (ee_name 0 rfl (by kernel_rfl) rfl (ea_cons (ee_name 1 rfl (by kernel_rfl) rfl (ea_nil (⟨false, false, _, _, rfl, ⟨?_, ?_, fun a ha => eg_tup (egs_cons (eg_name 3 rfl (by kernel_rfl) (.inr rfl) (by decide) (egs_cons (eg_name 4 rfl (by kernel_rfl) (.inr rfl) (by decide) (egs_nil (ee_ix (ee_ix (ee_name 3 rfl (by kernel_rfl) rfl (ee_int (⟨_, _, _, rfl, rfl, rfl, ee_callTy bc_int (by kernel_rfl) A.f_int (by kernel_rfl) (ea_cons (ee_cmp cp_eqD (nomark _) (ee_cmp cp_gt (nomark _) (ee_ix (ee_name 4 rfl (by kernel_rfl) rfl (ee_int (⟨_, _, _, rfl, rfl, rfl, ee_int (⟨_, ⟨_, _, rfl, rfl, rfl⟩, ee_name 2 rfl (by kernel_rfl) rfl (⟨_, ⟨?_, ?_, rfl⟩, ea_nil (⟨_, .inr ⟨_, rfl, rfl⟩, ⟨_, _, _, rfl, rfl, end_ix, ⟨rfl, rfl⟩⟩⟩)⟩)⟩)⟩)))))))⟩)))))))))), fun _ _ => ea_nil (⟨false, true, ps.length, 700, 60, w, endA ps w most, ?_, ⟨hn, by decide, fun i hi => hs i hi, ?_⟩, ⟨_, rfl, ?_⟩⟩)⟩⟩))))))))).frz))))))
  · exact zip_pw
  · rw [List.length_range]; omega
  · rfl
  · rfl
  · rw [show frs (rg ps.length w) = seqB false (rg ps.length fun i => fr (w i)) from congrArg PyData.tuple rg_fr]; rfl
  · intro i hi
    have := hp _ (pA_mem hi)
    unfold endA
    split
    · exact this.2
    · exact this.1
  · exact q
end Sp
namespace Sp
open PySem PySem.Spec PyProof.Rows L2 Ly SV
variable {g : Gc}

theorem k__law_cleared (A : Al g) : KnowsP g "_law_cleared" 1 ["_law_row"] (fun ds post => ∃ q : Nat → Rat, ds = [.tuple (rg 6 fun i => fr (q i))] ∧ (∀ i, i < 6 → Sz 90 (q i)) ∧ post (dR 6 (clr q))) := by
  refine Knows.mkP A.d__law_cleared sc__law_cleared (fun ds post h => by obtain ⟨_, rfl, _⟩ := h; rfl) ?_
  rintro ds post ⟨q, rfl, h, k⟩
  have pb : ∀ i, i ≤ 6 → Bd 600 ((denP q i : Nat) : Int) := fun i hi => by
    show (((denP q i : Nat) : Int)).natAbs < _
    rw [Int.natAbs_natCast]
    exact Nat.lt_of_le_of_lt (denP_le (k := 90) fun j hj => h j (by omega)) (Nat.pow_lt_pow_right (by decide) (by omega))
  refine eb_cons (es_asg 1 rfl (by kernel_rfl) (.inl rfl) (ee_int (?_)))
  refine eb_cons (es_for (ei_tup (ee_name 0 rfl (by kernel_rfl) rfl (⟨_, rfl, ⟨fun i en => ∃ s : Sl, en = [.dat (.tuple (rg 6 fun i => fr (q i))), .dat (.int ((denP q i : Nat) : Int)), s], ⟨_, rfl⟩, ?_, ?_⟩⟩))))
  · rintro i d en2 hd ⟨s, rfl⟩
    obtain ⟨hi, rfl⟩ := rg_at hd
    refine eg_name 2 rfl (by kernel_rfl) (.inl rfl) trivial (eb_one (es_asg 1 rfl (by kernel_rfl) (.inl rfl) (ee_mul (ee_name 1 rfl (by kernel_rfl) rfl (ee_ix (ee_name 2 rfl (by kernel_rfl) rfl (ee_int (⟨_, _, _, rfl, rfl, rfl, ⟨_, _, rfl, rfl, ⟨?_, ?_⟩, ⟨_, rfl⟩⟩⟩))))))))
    · exact (pb i (by omega)).mono (by decide)
    · exact (Szd (h i hi) (Nat.le_refl _)).mono (by decide)
  · rintro en2 ⟨s, rfl⟩
    rw [rg_len]
    refine eb_one (es_ret ((en_lc [("_law_each", 2)] (by kernel_rfl) (lcq_map (List.range 6) (fun i => fr (q i)) (fun i => PyData.int (clr q i)) (ei_tup (ee_name 0 rfl (by kernel_rfl) rfl (⟨_, rfl, ⟨?_, ?_, fun i hi => eg_name 2 rfl (by kernel_rfl) (.inr rfl) (by decide) (ee_mul (ee_ix (ee_name 2 rfl (by kernel_rfl) rfl (ee_int (⟨_, _, _, rfl, rfl, rfl, ee_div (ee_name 1 rfl (by kernel_rfl) rfl (ee_ix (ee_name 2 rfl (by kernel_rfl) rfl (ee_int (⟨_, _, _, rfl, rfl, rfl, ⟨_, _, rfl, rfl, ⟨?_, ?_⟩, ⟨_, _, rfl, rfl, ⟨?_, ?_⟩, ⟨rfl, rfl⟩⟩⟩⟩)))))⟩))))), fun _ _ => ⟨_, rfl, k⟩⟩⟩))))).frz))
    · rfl
    · exact Nat.le_of_ble_eq_true rfl
    · have := (q i).den_pos; show (0 : Int) < (((q i).den : Nat) : Int); omega
    · exact Szd (h i (List.mem_range.mp hi)) (by decide)
    · exact Szn (h i (List.mem_range.mp hi)) (by decide)
    · refine Nat.lt_of_le_of_lt (Int.natAbs_ediv_le_natAbs _ _) ?_
      exact Bd.mono (pb 6 (by decide)) (by decide)
theorem cutD_tail {α : Type} (x : α) (xs : List α) : Ly.cutD (x :: xs) (some 1) none = xs := by
  unfold Ly.cutD
  rw [show (some (1 : Int)) = some ((1 : Nat) : Int) from rfl, HT.sIx_nat, HT.sIx_none, List.length_cons, show min 1 (xs.length + 1) = 1 by omega, show xs.length + 1 - 1 = xs.length by omega, List.drop_succ_cons, List.drop_zero, List.take_length]
/-- the rows as the search has them -/
def RkE (sm : PyData) (R : List (Nat → Int)) (i : Nat) (en : En) : Prop := ∃ (s0 s3 s4 s5 s6 s7 : Sl), (s0 = .dat (.list ((rkR R i).map (dR 6))) ∨ ∃ a, s0 = .cel a ((rkR R i).map (dR 6))) ∧ en = [.dat sm, s0, .dat (.int ((rkN R i : Nat) : Int)), s3, s4, s5, s6, s7]
theorem k__law_rank (A : Al g) : KnowsP g "_law_rank" 2 ["_law_some"] (fun ds post => ∃ (q0 : Nat → Rat) (qs : List (Nat → Rat)), ds = [.list ((q0 :: qs).map fun q => .tuple (rg 6 fun i => fr (q i)))] ∧ (qs.length ≤ 20 ∧ ∀ q, q ∈ q0 :: qs → ∀ i, i < 6 → Sz 90 (q i)) ∧ post (.int ((rkN ((q0 :: qs).map clr) 6 : Nat) : Int))) := by
  refine Knows.mkP A.d__law_rank sc__law_rank (fun ds post h => by obtain ⟨_, _, rfl, _⟩ := h; rfl) ?_
  rintro ds post ⟨q0, qs, rfl, ⟨hn, hs⟩, k⟩
  refine eb_cons (es_par2 1 2 rfl rfl (by decide) (by kernel_rfl) (by kernel_rfl) (ea_cons ((en_lc [("_law_row", 6)] (by kernel_rfl) (lcq_map (q0 :: qs) (fun q : Nat → Rat => PyData.tuple (rg 6 fun i => fr (q i))) (fun q => dR 6 (clr q)) (ei_list (ee_name 0 rfl (by kernel_rfl) rfl (⟨_, rfl, ⟨?_, ?_, fun q hq => eg_name 6 rfl (by kernel_rfl) (.inr rfl) (by decide) (ee_call (k__law_cleared A) (Nat.le_of_ble_eq_true rfl) (by kernel_rfl) (ea_cons (ee_name 6 rfl (by kernel_rfl) rfl (ea_nil (⟨q, rfl, fun i hi => hs q hq i hi, ⟨rfl, rfl⟩⟩))))), fun _ _ => ea_cons (ee_int (ea_nil (⟨_, _, rfl, ?_⟩)))⟩⟩))))).frz)))
  · rfl
  · show (q0 :: qs).length ≤ 1000; simp only [List.length_cons]; omega
  refine eb_cons (es_for (ei_range1 (by kernel_rfl) A.f_range (ee_if (et_cmp cp_neD (nomark _) (ee_name 1 rfl (by kernel_rfl) rfl ((en_lst (ea_nil (⟨Nat.le_of_ble_eq_true rfl, fun _ _ => ⟨_, ⟨?_, ?_, rfl⟩, ⟨fun hk => ee_callB bc_len (by kernel_rfl) A.f_len (by kernel_rfl) (ea_cons (ee_ix (ee_name 1 rfl (by kernel_rfl) rfl (ee_int (⟨_, _, _, rfl, rfl, (atI_map (F := fun q => dR 6 (clr q)) (c := q0 :: qs) (i := 0) (d0 := q0) (Nat.succ_pos _)), ea_nil (⟨_, ⟨_, _, rfl, rfl, rfl⟩, ⟨_, rfl, ?_, ⟨(fun i en => RkE (.list ((q0 :: qs).map fun q => .tuple (rg 6 fun i => fr (q i)))) ((q0 :: qs).map clr) i en), ⟨_, _, _, _, _, _, .inl rfl, by rw [show rkR ((q0 :: qs).map clr) 0 = (q0 :: qs).map clr from rfl, List.map_map]; rfl⟩, ?_, ?_⟩⟩⟩)⟩))))), fun z => (by cases z)⟩⟩⟩))).frz))))))
  · exact shaped_map (fun _ => rfl) (fun _ => Nat.le_of_ble_eq_true rfl) _
  · rfl
  · rw [rg_len]; decide
  · generalize hR : (q0 :: qs).map clr = R at *
    generalize PyData.list ((q0 :: qs).map fun q => PyData.tuple (rg 6 fun i => fr (q i))) = sm
    have Rb6 : ∀ r, r ∈ R → ∀ j, j < 6 → (r j).natAbs < 2 ^ 640 := by
      subst hR
      intro r hr j hj
      obtain ⟨q, hq, rfl⟩ := List.mem_map.mp hr
      exact clr_abs (hs q hq) hj
    have Rl : R.length ≤ 21 := by subst hR; rw [List.length_map, List.length_cons]; omega
    rintro i d en2 hd ⟨s0, s3, s4, s5, s6, s7, hs0, rfl⟩
    rw [rg_len, show (((6 : Nat) : Int)).toNat = 6 from rfl, rgD_map] at hd
    obtain ⟨hi, rfl⟩ := rg_at hd
    have bd : ∀ r, r ∈ rkR R i → ∀ j, j < 6 → Bd 21000 (r j) := fun r hr j hj => Nat.lt_of_lt_of_le (rkR_abs Rb6 i (by omega) r hr j hj) (Nat.pow_le_pow_right (by decide) (by
      have : 2 ^ i ≤ 2 ^ 5 := Nat.pow_le_pow_right (by decide) (by omega)
      omega))
    have rl : (rkR R i).length ≤ 21 := Nat.le_trans (rkR_len R i) Rl
    clear hs k Rb6
    refine eg_name 3 rfl (by kernel_rfl) (.inl rfl) trivial (?_)
    rcases hs0 with rfl | ⟨a0, rfl⟩
    rotate_left
    refine eb_frz 1 rfl ?_
    all_goals
      refine eb_en [.dat sm, .dat (.list ((rkR R i).map (dR 6))), .dat (.int ((rkN R i : Nat) : Int)), .dat (.int ((i : Nat) : Int)), s4, s5, s6, s7] rfl ?_
      refine eb_cons (es_lc 4 [("_law_row", 6)] (by kernel_rfl) rfl (by kernel_rfl) (lcq_filter (rkR R i) (dR 6) (dR 6) (fun v => decide (v i ≠ 0)) (ei_list (ee_name 1 rfl (by kernel_rfl) rfl (⟨_, rfl, ⟨?_, ?_, fun v hv => eg_name 6 rfl (by kernel_rfl) (.inr rfl) (by decide) (et_cmp cp_neI (nomark _) (ee_ix (ee_name 6 rfl (by kernel_rfl) rfl (ee_name 3 rfl (by kernel_rfl) rfl (⟨_, _, _, rfl, rfl, atI_rg hi, ee_int (⟨_, ⟨_, _, rfl, rfl, rfl⟩, ⟨ne_flip _, fun hk => ee_name 6 rfl (by kernel_rfl) rfl (⟨rfl, rfl⟩), fun hk => rfl⟩⟩)⟩))))), fun _ _ => ?_⟩⟩)))))
      · rfl
      · omega
      refine eb_frz 4 rfl ?_
      cases hl : (rkR R i).filter fun v => decide (v i ≠ 0) with
      | nil =>
        obtain ⟨e1, e2⟩ := rkS_nil hl
        refine eb_one (es_if (et_cmp cp_neD (nomark _) (ee_name 4 rfl (by kernel_rfl) rfl ((en_lst (ea_nil (⟨Nat.le_of_ble_eq_true rfl, fun _ _ => ⟨_, ⟨?_, ?_, rfl⟩, ⟨fun z => (by cases z), fun hk => eb_nil (?_)⟩⟩⟩))).frz))))
        · rfl
        · rfl
        · exact ⟨.dat (.list ((rkR R i).map (dR 6))), _, _, _, _, _, .inl (by rw [show rkR R (i + 1) = rkS i (rkR R i) from rfl, e1]), by rw [show rkN R (i + 1) = rkN R i + rkB i (rkR R i) from rfl, e2]; rfl⟩
      | cons f rest =>
        obtain ⟨e1, e2⟩ := rkS_cons hl
        refine eb_one (es_if (et_cmp cp_neD (nomark _) (ee_name 4 rfl (by kernel_rfl) rfl ((en_lst (ea_nil (⟨Nat.le_of_ble_eq_true rfl, fun _ _ => ⟨_, ⟨?_, ?_, rfl⟩, ⟨fun hk => ?_, fun z => (by cases z)⟩⟩⟩))).frz))))
        · exact shaped_map (fun _ => rfl) (fun _ => Nat.le_of_ble_eq_true rfl) _
        · rfl
        · have hfm : ∀ v, v ∈ f :: rest → v ∈ rkR R i := fun v hv => (List.mem_filter.mp (by rw [hl]; exact hv)).1
          have ll : rest.length + 1 ≤ 21 := by
            have := List.length_filter_le (fun v : Nat → Int => decide (v i ≠ 0)) (rkR R i)
            rw [hl, List.length_cons] at this
            omega
          have lz : ((rkR R i).filter fun v => decide (v i = 0)).length ≤ 21 := Nat.le_trans (List.length_filter_le _ _) rl
          refine eb_cons (es_asgT (ee_tup (ea_cons (ee_ix (ee_name 4 rfl (by kernel_rfl) rfl (ee_int (⟨_, _, _, rfl, rfl, (atI_map (F := dR 6) (c := f :: rest) (i := 0) (d0 := f) (Nat.succ_pos _)), ea_cons (ee_add (ee_name 2 rfl (by kernel_rfl) rfl (ee_int (⟨_, _, rfl, rfl, ea_nil (⟨Nat.le_of_ble_eq_true rfl, eg_tup (egs_cons (eg_name 5 rfl (by kernel_rfl) (.inl rfl) trivial (egs_cons (eg_name 2 rfl (by kernel_rfl) (.inl rfl) trivial (egs_nil (?_))))))⟩)⟩))))⟩)))))))
          refine eb_cons (es_lc 1 [("_law_row", 6)] (by kernel_rfl) rfl (by kernel_rfl) (lcq_filter (rkR R i) (dR 6) (dR 6) (fun v => decide (v i = 0)) (ei_list (ee_name 1 rfl (by kernel_rfl) rfl (⟨_, rfl, ⟨?_, ?_, fun v hv => eg_name 6 rfl (by kernel_rfl) (.inr rfl) (by decide) (et_cmp cp_eqI (nomark _) (ee_ix (ee_name 6 rfl (by kernel_rfl) rfl (ee_name 3 rfl (by kernel_rfl) rfl (⟨_, _, _, rfl, rfl, atI_rg hi, ee_int (⟨_, ⟨_, _, rfl, rfl, rfl⟩, ⟨rfl, fun hk => ee_name 6 rfl (by kernel_rfl) rfl (⟨rfl, rfl⟩), fun hk => rfl⟩⟩)⟩))))), fun _ _ => ?_⟩⟩)))))
          · rfl
          · omega
          rename_i a1 hc1
          refine eb_en [.dat sm, .cel a1 (((rkR R i).filter fun v => decide (v i = 0)).map (dR 6) ++ []), .dat (.int ((rkN R i + 1 : Nat) : Int)), .dat (.int ((i : Nat) : Int)), .dat (.list ((f :: rest).map (dR 6))), .dat (dR 6 f), .no, s7] (by rw [List.append_nil]; rfl) ?_
          refine eb_one (es_for (ei_list (EvN.frz (en_slice (ee_name 4 rfl (by kernel_rfl) rfl (ee_int (⟨_, rfl, ⟨_, rfl, fun _ _ => ⟨_, rfl, ⟨(fun n en => ∃ (a : Addr) (s6 s7 : Sl), en = [.dat sm, .cel a (((rkR R i).filter fun v => decide (v i = 0)).map (dR 6) ++ ((rest.take n).map fun v j => v j * f i - f j * v i).map (dR 6)), .dat (.int ((rkN R i + 1 : Nat) : Int)), .dat (.int ((i : Nat) : Int)), .dat (.list ((f :: rest).map (dR 6))), .dat (dR 6 f), s6, s7]), ?_, ?_, ?_⟩⟩⟩⟩)))))))
          · exact ⟨_, _, _, rfl⟩
          · rintro n d en3 hd ⟨a, s6', s7', rfl⟩
            rw [List.map_cons, cutD_tail] at hd
            obtain ⟨v, hv, rfl⟩ := map_get hd
            have hvm := hfm v (List.mem_cons_of_mem _ (List.mem_of_getElem? hv))
            refine eg_name 6 rfl (by kernel_rfl) (.inl rfl) trivial (?_)
            refine eb_one (es_append 1 rfl (by kernel_rfl) rfl ((en_lc [("_law_j", 7)] (by kernel_rfl) (lcq_map (List.range 6) (fun j => PyData.int ((j : Nat) : Int)) (fun j => PyData.int (v j * f i - f j * v i)) (ei_range1 (by kernel_rfl) A.f_range (ee_callB bc_len (by kernel_rfl) A.f_len (by kernel_rfl) (ea_cons (ee_name 6 rfl (by kernel_rfl) rfl (ea_nil (⟨_, ⟨_, _, rfl, rfl, rfl⟩, ⟨_, rfl, ?_, ⟨?_, ?_, fun j hj => eg_name 7 rfl (by kernel_rfl) (.inr rfl) (by decide) (ee_sub (ee_mul (ee_ix (ee_name 6 rfl (by kernel_rfl) rfl (ee_name 7 rfl (by kernel_rfl) rfl (⟨_, _, _, rfl, rfl, atI_rg (List.mem_range.mp hj), ee_ix (ee_name 5 rfl (by kernel_rfl) rfl (ee_name 3 rfl (by kernel_rfl) rfl (⟨_, _, _, rfl, rfl, atI_rg hi, ⟨_, _, rfl, rfl, ⟨?_, ?_⟩, ee_mul (ee_ix (ee_name 5 rfl (by kernel_rfl) rfl (ee_name 7 rfl (by kernel_rfl) rfl (⟨_, _, _, rfl, rfl, atI_rg (List.mem_range.mp hj), ee_ix (ee_name 6 rfl (by kernel_rfl) rfl (ee_name 3 rfl (by kernel_rfl) rfl (⟨_, _, _, rfl, rfl, atI_rg hi, ⟨_, _, rfl, rfl, ⟨?_, ?_⟩, ⟨_, _, rfl, rfl, ⟨rfl, rfl⟩⟩⟩⟩)))⟩))))⟩⟩)))⟩)))))), fun _ _ => ⟨_, rfl, ?_, ?_⟩⟩⟩⟩)))))))).frz))
            · rw [rg_len]; decide
            · rw [rg_len]; exact rgD_map 6
            · exact Nat.le_of_ble_eq_true rfl
            · exact (bd v hvm j (List.mem_range.mp hj)).mono (by decide)
            · exact (bd f (hfm f (List.mem_cons_self ..)) i hi).mono (by decide)
            · exact (bd f (hfm f (List.mem_cons_self ..)) j (List.mem_range.mp hj)).mono (by decide)
            · exact (bd v hvm i hi).mono (by decide)
            · rw [List.length_append, List.length_map, List.length_map, List.length_map, List.length_take]
              omega
            · have key : (((rkR R i).filter fun v => decide (v i = 0)).map (dR 6) ++ ((rest.take (n + 1)).map fun v j => v j * f i - f j * v i).map (dR 6)) = (((rkR R i).filter fun v => decide (v i = 0)).map (dR 6) ++ ((rest.take n).map fun v j => v j * f i - f j * v i).map (dR 6)) ++ [dR 6 fun j => v j * f i - f j * v i] := by
                rw [List.take_add_one, hv, List.map_append, List.map_append, List.append_assoc]
                rfl
              exact ⟨a, _, _, by rw [key]; rfl⟩
          · rintro en3 ⟨a, s6', s7', rfl⟩
            rw [List.map_cons, cutD_tail, List.length_map, List.take_length]
            exact ⟨_, _, _, _, _, _, .inr ⟨a, rfl⟩, by rw [show rkR R (i + 1) = rkS i (rkR R i) from rfl, e1, show rkN R (i + 1) = rkN R i + rkB i (rkR R i) from rfl, e2, List.map_append]⟩
  · rintro en2 ⟨s0, s3, s4, s5, s6, s7, hs0, rfl⟩
    rw [rgD_len, rg_len]
    refine eb_one (es_ret (ee_name 2 rfl (by kernel_rfl) rfl (⟨_, rfl, ?_⟩)))
    exact k
end Sp
namespace Sp
open PySem PySem.Spec PyProof.Rows L2 Ly SV
variable {g : Gc}

theorem ix_all {es : List PyData} {v : Int} (h1 : 0 ≤ v) (h2 : v < ((es.length : Nat) : Int)) : ∃ (n : Nat) (r : PyData), v = ((n : Nat) : Int) ∧ es[n]? = some r ∧ atI es ((n : Nat) : Int) = some r := by
  have hv : v = ((v.toNat : Nat) : Int) := (Int.toNat_of_nonneg h1).symm
  have hl : v.toNat < es.length := by omega
  refine ⟨v.toNat, es[v.toNat], hv, List.getElem?_eq_getElem hl, ?_⟩
  unfold atI
  rw [ixN_nat hl]
  exact List.getElem?_eq_getElem hl
theorem _root_.Ly.Bd.sm2 {i : Int} (h : i.natAbs < 2 ^ 60) : Bd 9000 i := Bd.mono (n := 60) h (by decide)
/-- the well that the law draws from -/
def Well (xs : List PyData) : Prop := ∃ a b c : Int, xs = [.int a, .int b, .int c] ∧ 0 ≤ b ∧ b < 1000000007
theorem bd_small {i : Int} {k : Nat} (h1 : -(2 ^ 60) < i) (h2 : i < 2 ^ 60) (l : 60 ≤ k) : Bd k i := Bd.mono (n := 60) (by show i.natAbs < _; omega) l
theorem k__law_draw (A : Al g) : KnowsC g "_law_draw" 1 ["_law_well_here", "_law_size"] (fun xs ds post => Well xs ∧ ∃ n : Int, ds = [.int n] ∧ (0 < n ∧ n < 1073741824) ∧ ∀ v ys, 0 ≤ v → v < n → Well ys → post (.int v) ys) := by
  refine Knows.mkC A.d__law_draw sc__law_draw (fun xs ds post h => by obtain ⟨_, _, rfl, _⟩ := h; rfl) ?_
  rintro a xs ds post ⟨⟨w0, w1, w2, rfl, h1, h2⟩, n, rfl, ⟨h3, h4⟩, q⟩
  refine eb_cons (es_if (et_cmp cp_gt (nomark _) (ee_ixC 0 rfl (by kernel_rfl) rfl (ee_int (⟨_, _, _, rfl, rfl, rfl, ee_int (⟨_, ⟨_, _, rfl, rfl, rfl⟩, ⟨fun hk => eb_cons (es_asgT (ee_divmod (by kernel_rfl) A.f_divmod (ea_cons (ee_ixC 0 rfl (by kernel_rfl) rfl (ee_int (⟨_, _, _, rfl, rfl, rfl, ea_cons (ee_name 1 rfl (by kernel_rfl) rfl (ea_nil (⟨_, _, rfl, ?_, eg_tup (egs_cons (eg_sub 0 rfl (by kernel_rfl) rfl (ee_int (⟨_, _, _, rfl, rfl, rfl, egs_cons (eg_name 2 rfl (by kernel_rfl) (.inl rfl) trivial (egs_nil (eb_one (es_ret (ee_name 2 rfl (by kernel_rfl) rfl (⟨_, _, _, rfl, rfl, ?_⟩))))))⟩))))⟩)))⟩)))))), fun hk => eb_nil (eb_cons (es_asgT (ee_add (ee_ixC 0 rfl (by kernel_rfl) rfl (ee_int (⟨_, _, _, rfl, rfl, rfl, ee_int (⟨_, _, rfl, rfl, eg_sub 0 rfl (by kernel_rfl) rfl (ee_int (⟨_, _, _, rfl, rfl, rfl, eb_cons (es_asg 3 rfl (by kernel_rfl) (.inl rfl) (ee_mod (ee_callTy bc_int (by kernel_rfl) A.f_int (by kernel_rfl) (ea_cons (ee_add (ee_add (ee_mul (ee_ixC 0 rfl (by kernel_rfl) rfl (ee_int (⟨_, _, _, rfl, rfl, rfl, ee_int (⟨_, _, rfl, rfl, ⟨?_, ?_⟩, ee_mulS (ee_int (ee_ixC 0 rfl (by kernel_rfl) rfl (ee_int (⟨_, _, _, rfl, rfl, rfl, ⟨_, _, rfl, rfl, ?_, ⟨_, _, rfl, rfl, ee_int (⟨_, _, rfl, rfl, ea_nil (⟨_, .inl ⟨_, rfl, rfl⟩, ee_int (⟨_, _, rfl, rfl, ?_, eb_cons (es_asgT (ee_mod (ee_callTy bc_int (by kernel_rfl) A.f_int (by kernel_rfl) (ea_cons (ee_add (ee_mul (ee_name 3 rfl (by kernel_rfl) rfl (ee_add (ee_mod (ee_callTy bc_int (by kernel_rfl) A.f_int (by kernel_rfl) (ea_cons (ee_name 3 rfl (by kernel_rfl) rfl (ea_nil (⟨_, .inl ⟨_, rfl, rfl⟩, ee_int (⟨_, _, rfl, rfl, ?_, ee_int (⟨_, _, rfl, rfl, ⟨_, _, rfl, rfl, ⟨?_, ?_⟩, ee_mulS (ee_int (ee_ixC 0 rfl (by kernel_rfl) rfl (ee_int (⟨_, _, _, rfl, rfl, rfl, ⟨_, _, rfl, rfl, ?_, ⟨_, _, rfl, rfl, ea_nil (⟨_, .inl ⟨_, rfl, rfl⟩, ee_int (⟨_, _, rfl, rfl, ?_, eg_sub 0 rfl (by kernel_rfl) rfl (ee_int (⟨_, _, _, rfl, rfl, rfl, eb_one (es_ret (ee_mod (ee_callTy bc_int (by kernel_rfl) A.f_int (by kernel_rfl) (ea_cons (ee_div (ee_ixC 0 rfl (by kernel_rfl) rfl (ee_int (⟨_, _, _, rfl, rfl, rfl, ee_int (⟨_, _, rfl, rfl, ⟨?_, ?_⟩, ea_nil (⟨_, .inl ⟨_, rfl, rfl⟩, ee_name 1 rfl (by kernel_rfl) rfl (⟨_, _, rfl, rfl, ?_, ⟨_, _, _, rfl, rfl, ?_⟩⟩)⟩)⟩)⟩))))))))⟩))⟩)⟩)⟩⟩⟩))))⟩⟩)⟩)⟩))))))))))))))⟩)⟩)⟩)⟩⟩⟩))))⟩)⟩))))))))))⟩))⟩)⟩))))))⟩⟩)⟩)))))
  · exact ⟨h3, h4⟩
  · exact q _ _ (Int.emod_nonneg _ (by omega)) (Int.emod_lt_of_pos _ h3) ⟨_, _, _, rfl, h1, h2⟩
  · exact bd_small (by omega) (by omega) (by decide)
  · exact Bd.sm (by decide)
  · exact .inl ⟨by decide, by decide⟩
  · decide
  · decide
  · exact bd_small (by omega) (by omega) (by decide)
  · exact bd_small (by omega) (by omega) (by decide)
  · exact .inl ⟨by decide, by decide⟩
  · decide
  · decide
  · exact Bd.sm2 (by decide)
  · exact h3
  · exact q _ _ (Int.emod_nonneg _ (by omega)) (Int.emod_lt_of_pos _ h3) ⟨_, _, _, rfl, Int.emod_nonneg _ (by decide), Int.emod_lt_of_pos _ (by decide)⟩
theorem k__law_pick (A : Al g) : KnowsC g "_law_pick" 2 ["_law_well_here", "_law_some"] (fun xs ds post => Well xs ∧ ∃ (b : Bool) (es : List PyData), ds = [seqB b es] ∧ (0 < es.length ∧ es.length ≤ 1000) ∧ ∀ (i : Nat) r ys, es[i]? = some r → Well ys → post r ys) := by
  refine Knows.mkC A.d__law_pick sc__law_pick (fun xs ds post h => by obtain ⟨_, _, _, rfl, _⟩ := h; rfl) ?_
  rintro a xs ds post ⟨hw, b, es, rfl, ⟨h3, h4⟩, q⟩
  cases b
  · refine eb_one (es_ret (ee_ix (ee_name 1 rfl (by kernel_rfl) rfl (ee_callC 0 (k__law_draw A) (Nat.le_of_ble_eq_true rfl) (by kernel_rfl) rfl (by kernel_rfl) rfl (ea_cons (ee_callB bc_len (by kernel_rfl) A.f_len (by kernel_rfl) (ea_cons (ee_name 1 rfl (by kernel_rfl) rfl (ea_nil (⟨_, ⟨_, _, rfl, rfl, rfl⟩, ea_nil (⟨_, rfl, ⟨hw, _, rfl, ⟨?_, ?_⟩, fun v ys h1 h2 hw => by (
 obtain ⟨n, r, rfl, hn, hi⟩ := ix_all (es := es) h1 h2; exact ⟨_, _, _, rfl, rfl, hi, ⟨_, _, _, rfl, rfl, q n r _ hn hw⟩⟩)⟩⟩)⟩))))))))))
    · omega
    · omega

    all_goals done
  · refine eb_one (es_ret (ee_ix (ee_name 1 rfl (by kernel_rfl) rfl (ee_callC 0 (k__law_draw A) (Nat.le_of_ble_eq_true rfl) (by kernel_rfl) rfl (by kernel_rfl) rfl (ea_cons (ee_callB bc_len (by kernel_rfl) A.f_len (by kernel_rfl) (ea_cons (ee_name 1 rfl (by kernel_rfl) rfl (ea_nil (⟨_, ⟨_, _, rfl, rfl, rfl⟩, ea_nil (⟨_, rfl, ⟨hw, _, rfl, ⟨?_, ?_⟩, fun v ys h1 h2 hw => by (
 obtain ⟨n, r, rfl, hn, hi⟩ := ix_all (es := es) h1 h2; exact ⟨_, _, _, rfl, rfl, hi, ⟨_, _, _, rfl, rfl, q n r _ hn hw⟩⟩)⟩⟩)⟩))))))))))
    · omega
    · omega

    all_goals done
end Sp
namespace Sp
open PySem PySem.Spec PyProof.Rows L2 Ly SV
variable {g : Gc}

theorem fr_int (i : Int) : PyData.tuple [.int i, .int 1] = fr (i : Rat) := rfl
abbrev B4 (q : Rat) : Prop := Bq 12 4 q
theorem in19 {w : Int} (h0 : 0 ≤ w) (h1 : w < 4) : 0 < 1 + w ∧ 1 + w ∣ ((12 : Nat) : Int) := by
  have : w = 0 ∨ w = 1 ∨ w = 2 ∨ w = 3 := by omega
  rcases this with rfl | rfl | rfl | rfl <;> decide
theorem k__law_number (A : Al g) : KnowsC g "_law_number" 2 ["_law_well_here", "_law_sort"] (fun xs ds post => Well xs ∧ ∃ k : Nat, ds = [.int ((k : Nat) : Int)] ∧ k ≤ 2 ∧ ∀ q ys, B4 q → Well ys → post (fr q) ys) := by
  refine Knows.mkC A.d__law_number sc__law_number (fun xs ds post h => by obtain ⟨_, _, rfl, _⟩ := h; rfl) ?_
  rintro a xs ds post ⟨hw, k, rfl, hk2, q⟩
  have hk3 : k = 0 ∨ k = 1 ∨ k = 2 := by omega
  rcases hk3 with rfl | rfl | rfl
  · refine eb_cons (es_if (et_cmp cp_lt (nomark _) (ee_name 1 rfl (by kernel_rfl) rfl (ee_int (⟨_, ⟨_, _, rfl, rfl, rfl⟩, ⟨fun hk => eb_one (es_ret (ee_if (et_cmp cp_eqI (nomark _) (ee_name 1 rfl (by kernel_rfl) rfl (ee_int (⟨_, ⟨_, _, rfl, rfl, rfl⟩, ⟨fun hk => ee_tup (ea_cons (ee_sub (ee_callC 0 (k__law_draw A) (Nat.le_of_ble_eq_true rfl) (by kernel_rfl) rfl (by kernel_rfl) rfl (ea_cons (ee_int (ea_nil (⟨_, rfl, ⟨hw, _, rfl, ⟨by decide, by decide⟩, fun v _ v0 v1 hw => ee_int (⟨_, _, rfl, rfl, ea_cons (ee_int (ea_nil (⟨Nat.le_of_ble_eq_true rfl, ⟨_, _, _, rfl, rfl, ?_⟩⟩)))⟩)⟩⟩))))))), fun z => (by cases z)⟩⟩)))))), fun z => (by cases z)⟩⟩)))))
    exact q ((v - 1 : Int) : Rat) _ (bq_int (by omega) (by omega)) hw
  · refine eb_cons (es_if (et_cmp cp_lt (nomark _) (ee_name 1 rfl (by kernel_rfl) rfl (ee_int (⟨_, ⟨_, _, rfl, rfl, rfl⟩, ⟨fun hk => eb_one (es_ret (ee_if (et_cmp cp_eqI (nomark _) (ee_name 1 rfl (by kernel_rfl) rfl (ee_int (⟨_, ⟨_, _, rfl, rfl, rfl⟩, ⟨fun z => (by cases z), fun hk => ee_tup (ea_cons (ee_sub (ee_callC 0 (k__law_draw A) (Nat.le_of_ble_eq_true rfl) (by kernel_rfl) rfl (by kernel_rfl) rfl (ea_cons (ee_int (ea_nil (⟨_, rfl, ⟨hw, _, rfl, ⟨by decide, by decide⟩, fun v _ v0 v1 hw => ee_int (⟨_, _, rfl, rfl, ea_cons (ee_int (ea_nil (⟨Nat.le_of_ble_eq_true rfl, ⟨_, _, _, rfl, rfl, ?_⟩⟩)))⟩)⟩⟩)))))))⟩⟩)))))), fun z => (by cases z)⟩⟩)))))
    exact q ((v - 2 : Int) : Rat) _ (bq_int (by omega) (by omega)) hw
  · refine eb_cons (es_if (et_cmp cp_lt (nomark _) (ee_name 1 rfl (by kernel_rfl) rfl (ee_int (⟨_, ⟨_, _, rfl, rfl, rfl⟩, ⟨fun z => (by cases z), fun hk => eb_nil (?_)⟩⟩)))))
    refine eb_cons (es_if (et_cmp cp_eqI (nomark _) (ee_name 1 rfl (by kernel_rfl) rfl (ee_int (⟨_, ⟨_, _, rfl, rfl, rfl⟩, ⟨fun hk => eb_one (es_ret (ee_call (k__law_lean A) (Nat.le_of_ble_eq_true rfl) (by kernel_rfl) (ea_cons (ee_sub (ee_callC 0 (k__law_draw A) (Nat.le_of_ble_eq_true rfl) (by kernel_rfl) rfl (by kernel_rfl) rfl (ea_cons (ee_int (ea_nil (⟨_, rfl, ⟨hw, _, rfl, ⟨by decide, by decide⟩, fun v _ v0 v1 hw => ee_int (⟨_, _, rfl, rfl, ea_cons (ee_add (ee_int (ee_callC 0 (k__law_draw A) (Nat.le_of_ble_eq_true rfl) (by kernel_rfl) rfl (by kernel_rfl) rfl (ea_cons (ee_int (ea_nil (⟨_, rfl, ⟨hw, _, rfl, ⟨by decide, by decide⟩, fun w _ w0 w1 hw => ⟨_, _, rfl, rfl, ea_nil (⟨_, _, rfl, ⟨?_, ?_⟩, ⟨_, _, _, rfl, rfl, ?_⟩⟩)⟩⟩⟩)))))))⟩)⟩⟩))))))))), fun z => (by cases z)⟩⟩)))))
    · omega
    · exact Bd.sm2 (by omega)
    · obtain ⟨i1, i2⟩ := in19 w0 w1
      exact q _ _ (bq_dv i1 i2 (by omega) (by omega)) hw
theorem k__law_scale (A : Al g) : KnowsC g "_law_scale" 2 ["_law_well_here"] (fun xs ds post => Well xs ∧ ds = [] ∧ ∀ q ys, Bq 12 3 q → Well ys → post (fr q) ys) := by
  refine Knows.mkC A.d__law_scale sc__law_scale (fun xs ds post h => by obtain ⟨_, rfl, _⟩ := h; rfl) ?_
  rintro a xs ds post ⟨hw, rfl, q⟩
  refine eb_one (es_ret (ee_call (k__law_lean A) (Nat.le_of_ble_eq_true rfl) (by kernel_rfl) (ea_cons (ee_add (ee_int (ee_callC 0 (k__law_draw A) (Nat.le_of_ble_eq_true rfl) (by kernel_rfl) rfl (by kernel_rfl) rfl (ea_cons (ee_int (ea_nil (⟨_, rfl, ⟨hw, _, rfl, ⟨by decide, by decide⟩, fun va _ va0 va1 hw => ⟨_, _, rfl, rfl, ea_cons (ee_add (ee_int (ee_callC 0 (k__law_draw A) (Nat.le_of_ble_eq_true rfl) (by kernel_rfl) rfl (by kernel_rfl) rfl (ea_cons (ee_int (ea_nil (⟨_, rfl, ⟨hw, _, rfl, ⟨by decide, by decide⟩, fun vb _ vb0 vb1 hw => ⟨_, _, rfl, rfl, ea_nil (⟨_, _, rfl, ⟨?_, ?_⟩, ⟨_, _, _, rfl, rfl, ?_⟩⟩)⟩⟩⟩)))))))⟩⟩⟩))))))))))
  · omega
  · exact Bd.sm2 (by omega)
  · obtain ⟨i1, i2⟩ := in19 vb0 (show vb < 4 by omega)
    exact q _ _ (bq_dv i1 i2 (by omega) (by omega)) hw
theorem lit {m va vb : Int} (a0 : 0 ≤ va) (a1 : va < 4) (b0 : 0 ≤ vb) (b1 : vb < m) (hm : m < 1073741824) : 0 ≤ Rat.divInt (1 + va) (1 + vb) ∧ Sz 31 (Rat.divInt (1 + va) (1 + vb)) := by
  constructor
  · rw [Rat.divInt_nonneg_iff_of_pos_right (by omega)]
    omega
  · exact Sz.of_dv (by omega) (by omega) (by omega)
theorem pk3 {i : Nat} {r : PyData} (h : [PyData.int 1, .int 9, .int 1000003][i]? = some r) : ∃ m : Int, 0 < m ∧ m < 1073741824 ∧ r = .int m := by
  match i, h with
  | 0, h => cases h; exact ⟨1, by decide, by decide, rfl⟩
  | 1, h => cases h; exact ⟨9, by decide, by decide, rfl⟩
  | 2, h => cases h; exact ⟨1000003, by decide, by decide, rfl⟩
theorem k__law_little (A : Al g) : KnowsC g "_law_little" 3 ["_law_well_here"] (fun xs ds post => Well xs ∧ ds = [] ∧ ∀ q ys, (0 ≤ q ∧ Sz 31 q) → Well ys → post (fr q) ys) := by
  refine Knows.mkC A.d__law_little sc__law_little (fun xs ds post h => by obtain ⟨_, rfl, _⟩ := h; rfl) ?_
  rintro a xs ds post ⟨hw, rfl, q⟩
  refine eb_one (es_ret (ee_call (k__law_lean A) (Nat.le_of_ble_eq_true rfl) (by kernel_rfl) (ea_cons (ee_add (ee_int (ee_callC 0 (k__law_draw A) (Nat.le_of_ble_eq_true rfl) (by kernel_rfl) rfl (by kernel_rfl) rfl (ea_cons (ee_int (ea_nil (⟨_, rfl, ⟨hw, _, rfl, ⟨by decide, by decide⟩, fun va _ va0 va1 hw => ⟨_, _, rfl, rfl, ea_cons (ee_add (ee_int (ee_callC 0 (k__law_draw A) (Nat.le_of_ble_eq_true rfl) (by kernel_rfl) rfl (by kernel_rfl) rfl (ea_cons (ee_callC 0 (k__law_pick A) (Nat.le_of_ble_eq_true rfl) (by kernel_rfl) rfl (by kernel_rfl) rfl (ea_cons (ee_tup (ea_cons (ee_int (ea_cons (ee_int (ea_cons (ee_int (ea_nil (⟨Nat.le_of_ble_eq_true rfl, ea_nil (⟨_, rfl, ⟨hw, false, [.int 1, .int 9, .int 1000003], rfl, ⟨by decide, by decide⟩, fun i r _ hi hw => by (
 obtain ⟨m, m1, m2, rfl⟩ := pk3 hi; exact ea_nil (⟨_, rfl, ⟨hw, m, rfl, ⟨m1, m2⟩, fun vb _ vb0 vb1 hw => ⟨_, _, rfl, rfl, ea_nil (⟨_, _, rfl, ⟨by omega, Bd.sm2 (by omega)⟩, ⟨_, _, _, rfl, rfl, q _ _ (lit va0 va1 vb0 vb1 m2) hw⟩⟩)⟩⟩⟩))⟩⟩)⟩)))))))))))))))⟩⟩⟩))))))))))

end Sp
namespace Sp
open PySem PySem.Spec PyProof.Rows L2 Ly SV
variable {g : Gc}

theorem three {bs : List Rat} (h : bs.length = (List.range 3).length) : ∃ b0 b1 b2, bs = [b0, b1, b2] := by
  match bs, h with
  | [b0, b1, b2], _ => exact ⟨b0, b1, b2, rfl⟩
theorem k__law_point (A : Al g) : KnowsC g "_law_point" 3 ["_law_well_here", "_law_sort"] (fun xs ds post => Well xs ∧ ∃ k : Nat, ds = [.int ((k : Nat) : Int)] ∧ k ≤ 2 ∧ ∀ p ys, V3.all B4 p → Well ys → post (tr p) ys) := by
  refine Knows.mkC A.d__law_point sc__law_point (fun xs ds post h => by obtain ⟨_, _, rfl, _⟩ := h; rfl) ?_
  rintro a xs ds post ⟨hw, k, rfl, hk2, q⟩
  refine eb_one (es_ret (ee_tupleOf (by kernel_rfl) A.f_tuple (EvN.frz (en_lc [("_law_k", 2)] (by kernel_rfl) (lcq_draw Well B4 0 a (fun i => PyData.int ((i : Nat) : Int)) fr (by decide) (ei_range1 (by kernel_rfl) A.f_range (ee_int (⟨_, rfl, ?_, ⟨(List.range 3), ?_, ?_, ⟨_, hw, rfl⟩, fun x hx w hw => eg_name 2 rfl (by kernel_rfl) (.inr rfl) (by decide) (ee_callC 0 (k__law_number A) (Nat.le_of_ble_eq_true rfl) (by kernel_rfl) rfl (by kernel_rfl) rfl (ea_cons (ee_name 1 rfl (by kernel_rfl) rfl (ea_nil (⟨_, rfl, ⟨hw, k, rfl, hk2, fun q _ qh hw => ⟨_, _, rfl, qh, hw, rfl⟩⟩⟩))))), fun bs w' hl hg hw _ _ => ⟨_, rfl, ⟨_, _, _, rfl, rfl, ?_⟩⟩⟩⟩))))))))
  · decide
  · rfl
  · decide
  · obtain ⟨b0, b1, b2, rfl⟩ := three hl
    exact q ⟨b0, b1, b2⟩ _ ⟨hg b0 (by simp), hg b1 (by simp), hg b2 (by simp)⟩ hw
theorem unit_ok {vk s : Int} (h0 : 0 ≤ vk) (h1 : vk < 3) (hs : s = 1 ∨ s = -1) : ∃ p : V3, p ≠ V3.zero ∧ p.all B4 ∧ (List.range 3).map (fun i : Nat => fr (((if ((i : Nat) : Int) = vk then s else 0 : Int) : Int) : Rat)) = [fr p.x, fr p.y, fr p.z] := by
  have b : ∀ i : Nat, B4 (((if ((i : Nat) : Int) = vk then s else 0 : Int) : Int) : Rat) := fun i => by
    split
    · exact bq_int (by omega) (by omega)
    · exact bq_int (by omega) (by omega)
  refine ⟨⟨(((if ((0 : Nat) : Int) = vk then s else 0 : Int) : Int) : Rat), (((if ((1 : Nat) : Int) = vk then s else 0 : Int) : Int) : Rat), (((if ((2 : Nat) : Int) = vk then s else 0 : Int) : Int) : Rat)⟩, fun z => ?_, ⟨b 0, b 1, b 2⟩, rfl⟩
  have s0 : (s : Rat) ≠ 0 := icast_ne (by omega)
  have z1 := congrArg V3.x z
  have z2 := congrArg V3.y z
  have z3 := congrArg V3.z z
  have : vk = 0 ∨ vk = 1 ∨ vk = 2 := by omega
  rcases this with rfl | rfl | rfl
  · exact s0 z1
  · exact s0 z2
  · exact s0 z3
theorem ax2_ok : (⟨0, 0, 1⟩ : V3) ≠ V3.zero ∧ V3.all B4 ⟨0, 0, 1⟩ := by
  refine ⟨fun z => ?_, bq_int (a := 0) (by decide) (by decide), bq_int (a := 0) (by decide) (by decide), bq_int (a := 1) (by decide) (by decide)⟩
  have := congrArg V3.z z
  exact absurd this (by decide +kernel)
theorem k__law_along (A : Al g) : KnowsC g "_law_along" 4 ["_law_well_here", "_law_sort"] (fun xs ds post => Well xs ∧ ∃ k : Nat, ds = [.int ((k : Nat) : Int)] ∧ k ≤ 2 ∧ ∀ p ys, p ≠ V3.zero → V3.all B4 p → Well ys → post (tr p) ys) := by
  refine Knows.mkC A.d__law_along sc__law_along (fun xs ds post h => by obtain ⟨_, _, rfl, _⟩ := h; rfl) ?_
  rintro a xs ds post ⟨hw, k, rfl, hk2, q⟩
  refine eb_cons (es_if (et_cmp cp_eqI (nomark _) (ee_callC 0 (k__law_draw A) (Nat.le_of_ble_eq_true rfl) (by kernel_rfl) rfl (by kernel_rfl) rfl (ea_cons (ee_int (ea_nil (⟨_, rfl, ⟨hw, _, rfl, ⟨by decide, by decide⟩, fun vt _ vt0 vt1 hw => ee_int (⟨_, ⟨_, _, rfl, rfl, rfl⟩, ⟨fun hk => ?_, fun hk => ?_⟩⟩)⟩⟩)))))))
  · refine eb_cons (es_asgT (ee_tup (ea_cons (ee_callC 0 (k__law_draw A) (Nat.le_of_ble_eq_true rfl) (by kernel_rfl) rfl (by kernel_rfl) rfl (ea_cons (ee_int (ea_nil (⟨_, rfl, ⟨hw, _, rfl, ⟨by decide, by decide⟩, fun vk _ vk0 vk1 hw => ea_cons (ee_sub (ee_int (ee_mul (ee_int (ee_callC 0 (k__law_draw A) (Nat.le_of_ble_eq_true rfl) (by kernel_rfl) rfl (by kernel_rfl) rfl (ea_cons (ee_int (ea_nil (⟨_, rfl, ⟨hw, _, rfl, ⟨by decide, by decide⟩, fun vs _ vs0 vs1 hw => ⟨_, _, rfl, rfl, ⟨?_, ?_⟩, ⟨_, _, rfl, rfl, ea_nil (⟨Nat.le_of_ble_eq_true rfl, eg_tup (egs_cons (eg_name 2 rfl (by kernel_rfl) (.inl rfl) trivial (egs_cons (eg_name 3 rfl (by kernel_rfl) (.inl rfl) trivial (egs_nil (?_))))))⟩)⟩⟩⟩⟩)))))))))⟩⟩))))))))
    · exact Bd.sm (by decide)
    · exact bd_small (by omega) (by omega) (by decide)
    refine eb_one (es_ret (ee_tupleOf (by kernel_rfl) A.f_tuple ((en_lc [("_law_j", 5)] (by kernel_rfl) (lcq_map (List.range 3) (fun i => PyData.int ((i : Nat) : Int)) (fun i : Nat => fr (((if ((i : Nat) : Int) = vk then (1 - 2 * vs) else 0 : Int) : Int) : Rat)) (ei_range1 (by kernel_rfl) A.f_range (ee_int (⟨_, rfl, ?_, ⟨?_, ?_, fun i hi => eg_name 5 rfl (by kernel_rfl) (.inr rfl) (by decide) (ee_tup (ea_cons (ee_if (et_cmp cp_eqI (nomark _) (ee_name 5 rfl (by kernel_rfl) rfl (ee_name 2 rfl (by kernel_rfl) rfl (⟨_, ⟨_, _, rfl, rfl, rfl⟩, ⟨fun he => ee_name 3 rfl (by kernel_rfl) rfl (ea_cons (ee_int (ea_nil (⟨Nat.le_of_ble_eq_true rfl, ⟨?_, rfl⟩⟩)))), fun he => ee_int (ea_cons (ee_int (ea_nil (⟨Nat.le_of_ble_eq_true rfl, ⟨?_, rfl⟩⟩))))⟩⟩))))))), fun _ _ => ⟨_, rfl, ⟨_, _, _, rfl, rfl, ?_⟩⟩⟩⟩))))).frz)))
    · decide
    · rfl
    · decide
    · rw [if_pos (of_decide_eq_true he)]; rfl
    · rw [if_neg (of_decide_eq_false he)]; rfl
    · obtain ⟨p, pz, pb, e⟩ := unit_ok (vk := vk) (s := 1 - 2 * vs) vk0 vk1 (by omega)
      rw [e]
      exact q p _ pz pb hw
  · refine eb_nil ?_
    refine eb_cons (es_asg 4 rfl (by kernel_rfl) (.inl rfl) (ee_callC 0 (k__law_point A) (Nat.le_of_ble_eq_true rfl) (by kernel_rfl) rfl (by kernel_rfl) rfl (ea_cons (ee_name 1 rfl (by kernel_rfl) rfl (ea_nil (⟨_, rfl, ⟨hw, k, rfl, hk2, fun p _ ph hw => ?_⟩⟩))))))
    refine eb_one (es_ret (ee_if (et_not (et_val (ee_call (k__law_is_nought A) (Nat.le_of_ble_eq_true rfl) (by kernel_rfl) (ea_cons (ee_name 4 rfl (by kernel_rfl) rfl (ea_nil (⟨p, rfl, ⟨_, rfl, ⟨fun hn => ee_name 4 rfl (by kernel_rfl) rfl (⟨_, _, _, rfl, rfl, ?_⟩), fun hn => ee_ix (ee_call0 (k__law_axes A) (Nat.le_of_ble_eq_true rfl) (by kernel_rfl) (⟨rfl, ee_int (⟨_, _, _, rfl, rfl, rfl, ⟨_, _, _, rfl, rfl, ?_⟩⟩)⟩))⟩⟩⟩)))))))))
    · refine q p _ (fun z => ?_) ph hw
      rw [decide_eq_true z] at hn
      cases hn
    · exact q _ _ ax2_ok.1 ax2_ok.2 hw
end Sp
namespace Sp
open PySem PySem.Spec PyProof.Rows L2 Ly SV
variable {g : Gc}

abbrev BW (q : Rat) : Prop := Bq 144 32 q
theorem b4_w {q : Rat} (h : B4 q) : BW q := h.mono (by decide) (by decide)
theorem b4_all {P : Rat → Prop} {p : V3} (h : p.all B4) (k : ∀ q, B4 q → P q) : p.all P := ⟨k _ h.1, k _ h.2.1, k _ h.2.2⟩
theorem b4_sz {q : Rat} (h : B4 q) : Sz 1000 q := (h.sz (k := 10) (by decide) (by decide) (by decide)).mono (by decide)
theorem cross_bq {N M N' M' : Nat} {p e : V3} (h : p.all (Bq N M)) (k : e.all (Bq N' M')) : (p.cross e).all (Bq (N * N') (M * M' + M * M')) :=
  ⟨(h.2.1.mul k.2.2).sub (h.2.2.mul k.2.1), (h.2.2.mul k.1).sub (h.1.mul k.2.2), (h.1.mul k.2.1).sub (h.2.1.mul k.1)⟩
theorem zero_all {N M : Nat} : V3.zero.all (Bq N M) := ⟨bq_int (a := 0) (by omega) (by omega), bq_int (a := 0) (by omega) (by omega), bq_int (a := 0) (by omega) (by omega)⟩
theorem k__law_way (A : Al g) : KnowsC g "_law_way" 5 ["_law_well_here", "_law_sort"] (fun xs ds post => Well xs ∧ ∃ k : Nat, ds = [.int ((k : Nat) : Int)] ∧ k ≤ 2 ∧ ∀ u v ys, V3.all BW u → V3.all BW v → Well ys → post (linD (u, v)) ys) := by
  refine Knows.mkC A.d__law_way sc__law_way (fun xs ds post h => by obtain ⟨_, _, rfl, _⟩ := h; rfl) ?_
  rintro a xs ds post ⟨hw, k, rfl, hk2, q⟩
  refine eb_cons (es_par3 2 3 4 rfl rfl rfl (by decide) (by decide) (by decide) (by kernel_rfl) (by kernel_rfl) (by kernel_rfl) (ea_cons (ee_callC 0 (k__law_draw A) (Nat.le_of_ble_eq_true rfl) (by kernel_rfl) rfl (by kernel_rfl) rfl (ea_cons (ee_int (ea_nil (⟨_, rfl, ⟨hw, _, rfl, ⟨by decide, by decide⟩, fun v _ v0 v1 hw => ea_cons (ee_callC 0 (k__law_point A) (Nat.le_of_ble_eq_true rfl) (by kernel_rfl) rfl (by kernel_rfl) rfl (ea_cons (ee_name 1 rfl (by kernel_rfl) rfl (ea_nil (⟨_, rfl, ⟨hw, k, rfl, hk2, fun p _ ph hw => ea_cons (ee_callC 0 (k__law_along A) (Nat.le_of_ble_eq_true rfl) (by kernel_rfl) rfl (by kernel_rfl) rfl (ea_cons (ee_name 1 rfl (by kernel_rfl) rfl (ea_nil (⟨_, rfl, ⟨hw, k, rfl, hk2, fun l _ lz lh hw => ea_nil (⟨_, _, _, rfl, ?_⟩)⟩⟩)))))⟩⟩)))))⟩⟩)))))))
  refine eb_cons (es_if (et_cmp cp_eqI (nomark _) (ee_name 2 rfl (by kernel_rfl) rfl (ee_int (⟨_, ⟨_, _, rfl, rfl, rfl⟩, ⟨fun hk => eb_one (es_ret (ee_tup (ea_cons (ee_ix (ee_call0 (k__law_nought A) (Nat.le_of_ble_eq_true rfl) (by kernel_rfl) (⟨rfl, ee_int (⟨_, _, _, rfl, rfl, rfl, ea_cons (ee_name 4 rfl (by kernel_rfl) rfl (ea_nil (⟨Nat.le_of_ble_eq_true rfl, ⟨_, _, _, rfl, rfl, ?_⟩⟩)))⟩)⟩)))))), fun hk => eb_nil (?_)⟩⟩)))))
  · exact q V3.zero l _ zero_all (b4_all lh fun _ h => b4_w h) hw
  refine eb_cons (es_if (et_cmp cp_eqI (nomark _) (ee_name 2 rfl (by kernel_rfl) rfl (ee_int (⟨_, ⟨_, _, rfl, rfl, rfl⟩, ⟨fun hk => eb_one (es_ret (ee_call (k__law_line A) (Nat.le_of_ble_eq_true rfl) (by kernel_rfl) (ea_cons (ee_name 3 rfl (by kernel_rfl) rfl (ea_cons (ee_name 4 rfl (by kernel_rfl) rfl (ea_nil (⟨p, l, rfl, ⟨b4_all ph fun _ h => b4_sz h, b4_all lh fun _ h => b4_sz h⟩, ⟨_, _, _, rfl, rfl, ?_⟩⟩)))))))), fun hk => eb_nil (?_)⟩⟩)))))
  · refine q l (p.cross l) _ (b4_all lh fun _ h => b4_w h) ?_ hw
    exact (cross_bq ph lh)
  refine eb_one (es_ret (ee_tup (ea_cons (ee_name 4 rfl (by kernel_rfl) rfl (ea_cons (ee_name 3 rfl (by kernel_rfl) rfl (ea_nil (⟨Nat.le_of_ble_eq_true rfl, ⟨_, _, _, rfl, rfl, ?_⟩⟩))))))))
  exact q l p _ (b4_all lh fun _ h => b4_w h) (b4_all ph fun _ h => b4_w h) hw
section
variable {c : Cs} {en : En} {Q : PyData → En → Prop} {D : Eds} {e1 e2 e3 e4 e5 : Expr} {pos p p2 : Pos} {x y : Str} {k : Nat} {ps : List Str}
theorem es_call1 {pr : List PyData → List PyData → (PyData → List PyData → Prop) → Prop} (j : Nat) {A : Addr} {xs0 : List PyData} (F : KnowsC c.g x k ps pr) (hk : k ≤ c.lv) (hg : glB (c.sc.names.lookup x) = true)
    (hN : c.N[j]? = some y) (hv : visB (c.sc.names.lookup y) = true) (hj : en[j]? = some (Sl.cel A xs0)) (s1 : ∀ env, starEach [e1] env = [(false, eval e1 env)]) (he : ∀ env, starEach [.Name y p2, e1] env = (false, eval (.Name y p2) env) :: starEach [e1] env) (hpl : ∀ env, (backTo pos (starEach [e1] env)).any (·.1) = false)
    (h : EeS c e1 en fun d en1 => ∃ xs, en1[j]? = some (Sl.cel A xs) ∧ pr xs [d] fun d ys => Q d (en1.set j (.cel A ys)))
    (hdb : (x == ("__debug__" : Str)) = false := by decide) (h1 : (y == ("__debug__" : Str)) = false := by decide) (h2 : (y == ("__classdict__" : Str)) = false := by decide) : EeS c (.Call (.Name x p) [.Name y p2, e1] [] pos) en Q :=
  ⟨ee_callC j F hk hg hN hv hj (ea_cons (h.run.mono fun d en1 q => ea_nil q) s1) hdb h1 h2 he hpl⟩
theorem es_t5 {k : Nat} (s1 : ∀ env, starEach [e1, e2, e3, e4, e5] env = (false, eval e1 env) :: starEach [e2, e3, e4, e5] env) (s2 : ∀ env, starEach [e2, e3, e4, e5] env = (false, eval e2 env) :: starEach [e3, e4, e5] env) (s3 : ∀ env, starEach [e3, e4, e5] env = (false, eval e3 env) :: starEach [e4, e5] env) (s4 : ∀ env, starEach [e4, e5] env = (false, eval e4 env) :: starEach [e5] env) (s5 : ∀ env, starEach [e5] env = [(false, eval e5 env)])
    (h : EeS c e1 en fun d1 en1 => EeS c e2 en1 fun d2 en2 => EeS c e3 en2 fun d3 en3 => EeS c e4 en3 fun d4 en4 => EeS c e5 en4 fun d5 en5 => Q (.tuple [d1, d2, d3, d4, d5]) en5) : EeS c (.Tuple [e1, e2, e3, e4, e5] k pos) en Q :=
  ⟨ee_tup (ea_cons (h.run.mono fun d1 en1 h2 => ea_cons (h2.run.mono fun d2 en2 h3 => ea_cons (h3.run.mono fun d3 en3 h4 => ea_cons (h4.run.mono fun d4 en4 h5 => ea_cons (h5.run.mono fun d5 en5 q => ea_nil ⟨Nat.le_of_ble_eq_true rfl, q⟩) s5) s4) s3) s2) s1)⟩
end
theorem room_ok {r : Rat} {i : Nat} {rr : PyData} (hr : 0 ≤ r ∧ Sz 31 r) (h : [PyData.tuple [.int 0, .int 1], .tuple [.int 0, .int 1], .tuple [.int 1, .int 10], .tuple [.int 1, .int 2], fr r][i]? = some rr) : ∃ q : Rat, (0 ≤ q ∧ Sz 31 q) ∧ rr = fr q := by
  match i, h with
  | 0, h => cases h; exact ⟨((0 : Int) : Rat), ⟨by decide +kernel, ⟨by decide +kernel, by decide +kernel⟩⟩, rfl⟩
  | 1, h => cases h; exact ⟨((0 : Int) : Rat), ⟨by decide +kernel, ⟨by decide +kernel, by decide +kernel⟩⟩, rfl⟩
  | 2, h => cases h; exact ⟨⟨1, 10, by decide, by decide⟩, ⟨by decide +kernel, ⟨by decide +kernel, by decide +kernel⟩⟩, rfl⟩
  | 3, h => cases h; exact ⟨⟨1, 2, by decide, by decide⟩, ⟨by decide +kernel, ⟨by decide +kernel, by decide +kernel⟩⟩, rfl⟩
  | 4, h => cases h; exact ⟨r, hr, rfl⟩
theorem k__law_room (A : Al g) : KnowsC g "_law_room" 4 ["_law_well_here"] (fun xs ds post => Well xs ∧ ds = [] ∧ ∀ q ys, (0 ≤ q ∧ Sz 31 q) → Well ys → post (fr q) ys) := by
  refine Knows.mkC A.d__law_room sc__law_room (fun xs ds post h => by obtain ⟨_, rfl, _⟩ := h; rfl) ?_
  rintro a xs ds post ⟨hw, rfl, q⟩
  refine eb_one ?_
  refine es_retS ?_
  refine es_call1 0 (k__law_pick A) (Nat.le_of_ble_eq_true rfl) (by kernel_rfl) rfl (by kernel_rfl) rfl (fun _ => rfl) (fun _ => rfl) (fun _ => rfl) ?_
  refine es_t5 (fun _ => rfl) (fun _ => rfl) (fun _ => rfl) (fun _ => rfl) (fun _ => rfl) ?_
  refine es_c2 (es_c2 (es_c2 (es_c2 (EeS.mk ?_))))
  refine ee_callC 0 (k__law_little A) (Nat.le_of_ble_eq_true rfl) (by kernel_rfl) rfl (by kernel_rfl) rfl (ea_nil (⟨_, rfl, ⟨hw, rfl, fun r _ rh hw => ⟨_, rfl, ⟨hw, false, [.tuple [.int 0, .int 1], .tuple [.int 0, .int 1], .tuple [.int 1, .int 10], .tuple [.int 1, .int 2], fr r], rfl, ⟨Nat.le_of_ble_eq_true rfl, Nat.le_of_ble_eq_true rfl⟩, fun i rr _ hi hw => ⟨_, _, _, rfl, rfl, ?_⟩⟩⟩⟩⟩))
  obtain ⟨q1, h1, rfl⟩ := room_ok rh hi
  exact q q1 _ h1 hw
end Sp
namespace Sp
open PySem PySem.Spec PyProof.Rows L2 Ly SV
variable {g : Gc}

/-- a drawn pin's bounds -/
structure PB (p : Pin) : Prop where
  a : p.at_.all (Bq 12 8)
  l : p.al.all B4
  z : p.al ≠ V3.zero
abbrev barP (p l : V3) : Pin := ⟨p, l, 0, 0⟩
theorem b4_8 {p : V3} (h : p.all B4) : p.all (Bq 12 8) := b4_all h fun _ k => k.mono (Nat.dvd_refl _) (by decide)
theorem cutD_map {α : Type} {F : α → PyData} {xs : List α} {lo hi : Option Int} : Ly.cutD (xs.map F) lo hi = (Ly.cutD xs lo hi).map F := by
  unfold Ly.cutD
  rw [List.length_map, List.map_take, List.map_drop]
theorem cutD_mem {α : Type} {xs : List α} {lo hi : Option Int} {x : α} (h : x ∈ Ly.cutD xs lo hi) : x ∈ xs := List.mem_of_mem_drop (List.mem_of_mem_take h)
theorem cutD_len {α : Type} {xs : List α} {lo hi : Option Int} : (Ly.cutD xs lo hi).length ≤ xs.length := by
  unfold Ly.cutD
  rw [List.length_take, List.length_drop]
  omega
/-- cut in two and turned -/
theorem cut_lens {α : Type} {xs : List α} {v : Int} (h0 : 0 ≤ v) (h1 : v < ((xs.length : Nat) : Int)) : (Ly.cutD xs (some v) none).length = xs.length - v.toNat ∧ (Ly.cutD xs none (some v)).length = v.toNat := by
  have hv : some v = some ((v.toNat : Nat) : Int) := congrArg some (Int.toNat_of_nonneg h0).symm
  have hl : v.toNat < xs.length := by omega
  unfold Ly.cutD
  rw [hv]
  simp only [HT.sIx_nat, HT.sIx_none, List.length_take, List.length_drop]
  rw [Nat.min_eq_left (Nat.le_of_lt hl)]
  constructor <;> omega
theorem bqs {N M : Nat} {p : V3} (h : p.all (Bq N M)) (hN : 0 < N) (h1 : N < 2 ^ 200) (h2 : M * N < 2 ^ 200) : p.all (Sz 200) := ⟨h.1.sz hN h1 h2, h.2.1.sz hN h1 h2, h.2.2.sz hN h1 h2⟩
theorem szall {k m : Nat} {p : V3} (h : p.all (Sz k)) (l : k ≤ m) : p.all (Sz m) := ⟨h.1.mono l, h.2.1.mono l, h.2.2.mono l⟩
theorem smul_bq {N M N' M' : Nat} {p : V3} {q : Rat} (h : p.all (Bq N M)) (k : Bq N' M' q) : (p.smul q).all (Bq (N * N') (M * M')) := ⟨h.1.mul k, h.2.1.mul k, h.2.2.mul k⟩
theorem add_bq {N M M' : Nat} {p e : V3} (h : p.all (Bq N M)) (k : e.all (Bq N M')) : (p.add e).all (Bq N (M + M')) := ⟨h.1.add k.1, h.2.1.add k.2.1, h.2.2.add k.2.2⟩
theorem mono_bq {N M N' M' : Nat} {p : V3} (h : p.all (Bq N M)) (d : N ∣ N') (l : M ≤ M') : p.all (Bq N' M') := ⟨h.1.mono d l, h.2.1.mono d l, h.2.2.mono d l⟩
theorem axes_cut {v : Int} (h0 : 0 ≤ v) (h1 : v < 3) : ∃ x y z : V3, (x ≠ V3.zero ∧ y ≠ V3.zero ∧ z ≠ V3.zero) ∧ (x.all (Bq 1 1) ∧ y.all (Bq 1 1) ∧ z.all (Bq 1 1)) ∧ Ly.cutD ([tr ⟨1, 0, 0⟩, tr ⟨0, 1, 0⟩, tr ⟨0, 0, 1⟩] ++ [tr ⟨1, 0, 0⟩, tr ⟨0, 1, 0⟩, tr ⟨0, 0, 1⟩]) (some v) (some (v + 3)) = [tr x, tr y, tr z] := by
  have b0 : Bq 1 1 (0 : Rat) := bq_int (a := 0) (by decide) (by decide)
  have b1 : Bq 1 1 (1 : Rat) := bq_int (a := 1) (by decide) (by decide)
  have n1 : (⟨1, 0, 0⟩ : V3) ≠ V3.zero := fun z => absurd (congrArg V3.x z) (by decide +kernel)
  have n2 : (⟨0, 1, 0⟩ : V3) ≠ V3.zero := fun z => absurd (congrArg V3.y z) (by decide +kernel)
  have n3 : (⟨0, 0, 1⟩ : V3) ≠ V3.zero := fun z => absurd (congrArg V3.z z) (by decide +kernel)
  have : v = 0 ∨ v = 1 ∨ v = 2 := by omega
  rcases this with rfl | rfl | rfl
  · exact ⟨⟨1, 0, 0⟩, ⟨0, 1, 0⟩, ⟨0, 0, 1⟩, ⟨n1, n2, n3⟩, ⟨⟨b1, b0, b0⟩, ⟨b0, b1, b0⟩, ⟨b0, b0, b1⟩⟩, rfl⟩
  · exact ⟨⟨0, 1, 0⟩, ⟨0, 0, 1⟩, ⟨1, 0, 0⟩, ⟨n2, n3, n1⟩, ⟨⟨b0, b1, b0⟩, ⟨b0, b0, b1⟩, ⟨b1, b0, b0⟩⟩, rfl⟩
  · exact ⟨⟨0, 0, 1⟩, ⟨1, 0, 0⟩, ⟨0, 1, 0⟩, ⟨n3, n1, n2⟩, ⟨⟨b0, b0, b1⟩, ⟨b1, b0, b0⟩, ⟨b0, b1, b0⟩⟩, rfl⟩
theorem k__law_pins (A : Al g) : KnowsC g "_law_pins" 5 ["_law_well_here", "_law_sort"] (fun xs ds post => Well xs ∧ ∃ k : Nat, ds = [.int ((k : Nat) : Int)] ∧ k ≤ 2 ∧ ∀ (ps : List Pin) ys, (0 < ps.length ∧ ps.length ≤ 8 ∧ ∀ p, p ∈ ps → PB p) → Well ys → post (.list (ps.map bareD)) ys) := by
  refine Knows.mkC A.d__law_pins sc__law_pins (fun xs ds post h => by obtain ⟨_, _, rfl, _⟩ := h; rfl) ?_
  rintro a xs ds post ⟨hw, k, rfl, hk2, q⟩
  refine eb_cons (es_par2 2 3 rfl rfl (by decide) (by kernel_rfl) (by kernel_rfl) (ea_cons (ee_callC 0 (k__law_draw A) (Nat.le_of_ble_eq_true rfl) (by kernel_rfl) rfl (by kernel_rfl) rfl (ea_cons (ee_int (ea_nil (⟨_, rfl, ⟨hw, _, rfl, ⟨by decide, by decide⟩, fun v _ v0 v1 hw => ea_cons (ee_callC 0 (k__law_point A) (Nat.le_of_ble_eq_true rfl) (by kernel_rfl) rfl (by kernel_rfl) rfl (ea_cons (ee_name 1 rfl (by kernel_rfl) rfl (ea_nil (⟨_, rfl, ⟨hw, k, rfl, hk2, fun p _ ph hw => ea_nil (⟨_, _, rfl, ?_⟩)⟩⟩)))))⟩⟩)))))))
  refine eb_cons (es_if (et_cmp cp_lt (nomark _) (ee_name 2 rfl (by kernel_rfl) rfl (ee_int (⟨_, ⟨_, _, rfl, rfl, rfl⟩, ⟨fun hk => ?_, fun hk => ?_⟩⟩)))))
  · refine eb_cons (es_asg 4 rfl (by kernel_rfl) (.inl rfl) (ee_callC 0 (k__law_draw A) (Nat.le_of_ble_eq_true rfl) (by kernel_rfl) rfl (by kernel_rfl) rfl (ea_cons (ee_int (ea_nil (⟨_, rfl, ⟨hw, _, rfl, ⟨by decide, by decide⟩, fun vk _ vk0 vk1 hw => ?_⟩⟩))))))
    refine eb_cons (es_asgT (ee_sliceT (ee_catT (ee_call0 (k__law_axes A) (Nat.le_of_ble_eq_true rfl) (by kernel_rfl) (⟨rfl, ee_call0 (k__law_axes A) (Nat.le_of_ble_eq_true rfl) (by kernel_rfl) (⟨rfl, ⟨_, _, rfl, rfl, ?_, ee_name 4 rfl (by kernel_rfl) rfl (⟨_, rfl, ee_add (ee_name 4 rfl (by kernel_rfl) rfl (ee_int (⟨_, _, rfl, rfl, ⟨_, rfl, ⟨_, rfl, ?_⟩⟩⟩)))⟩)⟩⟩)⟩)))))
    · exact Nat.le_of_ble_eq_true rfl
    obtain ⟨x, y, z, ⟨x0, y0, z0⟩, ⟨xb, yb, zb⟩, e⟩ := axes_cut vk0 vk1
    rw [e]
    refine eg_tup (egs_cons (eg_name 5 rfl (by kernel_rfl) (.inl rfl) trivial (egs_cons (eg_name 6 rfl (by kernel_rfl) (.inl rfl) trivial (egs_cons (eg_name 7 rfl (by kernel_rfl) (.inl rfl) trivial (egs_nil (?_))))))))
    refine eb_cons (es_par2 8 9 rfl rfl (by decide) (by kernel_rfl) (by kernel_rfl) (ea_cons (ee_call (k__law_plus A) (Nat.le_of_ble_eq_true rfl) (by kernel_rfl) (ea_cons (ee_name 3 rfl (by kernel_rfl) rfl (ea_cons (ee_call (k__law_scaled A) (Nat.le_of_ble_eq_true rfl) (by kernel_rfl) (ea_cons (ee_name 5 rfl (by kernel_rfl) rfl (ea_cons (ee_callC 0 (k__law_scale A) (Nat.le_of_ble_eq_true rfl) (by kernel_rfl) rfl (by kernel_rfl) rfl (ea_nil (⟨_, rfl, ⟨hw, rfl, fun sx _ sxh hw => ea_nil (⟨x, sx, rfl, ⟨?_, ?_⟩, ea_nil (⟨p, x.smul sx, rfl, ⟨?_, ?_⟩, ea_cons (ee_call (k__law_plus A) (Nat.le_of_ble_eq_true rfl) (by kernel_rfl) (ea_cons (ee_name 3 rfl (by kernel_rfl) rfl (ea_cons (ee_call (k__law_scaled A) (Nat.le_of_ble_eq_true rfl) (by kernel_rfl) (ea_cons (ee_name 6 rfl (by kernel_rfl) rfl (ea_cons (ee_callC 0 (k__law_scale A) (Nat.le_of_ble_eq_true rfl) (by kernel_rfl) rfl (by kernel_rfl) rfl (ea_nil (⟨_, rfl, ⟨hw, rfl, fun sy _ syh hw => ea_nil (⟨y, sy, rfl, ⟨?_, ?_⟩, ea_nil (⟨p, y.smul sy, rfl, ⟨?_, ?_⟩, ea_nil (⟨_, _, rfl, ?_⟩)⟩)⟩)⟩⟩)))))))))))⟩)⟩)⟩⟩)))))))))))))
    · exact szall (bqs xb (by decide) (by decide) (by decide)) (by decide)
    · exact (sxh.sz (k := 200) (by decide) (by decide) (by decide)).mono (by decide)
    · exact szall (bqs ph (by decide) (by decide) (by decide)) (by decide)
    · exact szall (bqs (smul_bq xb sxh) (by decide) (by decide) (by decide)) (by decide)
    · exact szall (bqs yb (by decide) (by decide) (by decide)) (by decide)
    · exact (syh.sz (k := 200) (by decide) (by decide) (by decide)).mono (by decide)
    · exact szall (bqs ph (by decide) (by decide) (by decide)) (by decide)
    · exact szall (bqs (smul_bq yb syh) (by decide) (by decide) (by decide)) (by decide)
    have xs1 : (x.smul sx).all (Bq 12 3) := smul_bq xb sxh
    have ys1 : (y.smul sy).all (Bq 12 3) := smul_bq yb syh
    have pp : (p.add (x.smul sx)).all (Bq 12 8) := mono_bq (add_bq ph xs1) (Nat.dvd_refl _) (by decide)
    have qq : (p.add (y.smul sy)).all (Bq 12 8) := mono_bq (add_bq ph ys1) (Nat.dvd_refl _) (by decide)
    have xl : x.all B4 := mono_bq xb (by decide) (by decide)
    have yl : y.all B4 := mono_bq yb (by decide) (by decide)
    have zl : z.all B4 := mono_bq zb (by decide) (by decide)
    refine eb_cons (es_asg 10 rfl (by kernel_rfl) (.inl rfl) ((en_lst (ea_cons (ee_tup (ea_cons (ee_name 3 rfl (by kernel_rfl) rfl (ea_cons (ee_name 7 rfl (by kernel_rfl) rfl (ea_nil (⟨Nat.le_of_ble_eq_true rfl, ea_cons (ee_tup (ea_cons (ee_name 8 rfl (by kernel_rfl) rfl (ea_cons (ee_name 7 rfl (by kernel_rfl) rfl (ea_nil (⟨Nat.le_of_ble_eq_true rfl, ea_cons (ee_tup (ea_cons (ee_name 9 rfl (by kernel_rfl) rfl (ea_cons (ee_name 7 rfl (by kernel_rfl) rfl (ea_nil (⟨Nat.le_of_ble_eq_true rfl, ea_cons (ee_tup (ea_cons (ee_name 3 rfl (by kernel_rfl) rfl (ea_cons (ee_name 6 rfl (by kernel_rfl) rfl (ea_nil (⟨Nat.le_of_ble_eq_true rfl, ea_cons (ee_tup (ea_cons (ee_name 8 rfl (by kernel_rfl) rfl (ea_cons (ee_name 6 rfl (by kernel_rfl) rfl (ea_nil (⟨Nat.le_of_ble_eq_true rfl, ea_cons (ee_tup (ea_cons (ee_name 3 rfl (by kernel_rfl) rfl (ea_cons (ee_name 5 rfl (by kernel_rfl) rfl (ea_nil (⟨Nat.le_of_ble_eq_true rfl, ea_nil (⟨Nat.le_of_ble_eq_true rfl, fun _ _ => ?_⟩)⟩)))))))⟩)))))))⟩)))))))⟩)))))))⟩)))))))⟩))))))))).frz))
    refine eb_cons (es_asg 11 rfl (by kernel_rfl) (.inl rfl) (ee_callC 0 (k__law_draw A) (Nat.le_of_ble_eq_true rfl) (by kernel_rfl) rfl (by kernel_rfl) rfl (ea_cons (ee_int (ea_nil (⟨_, rfl, ⟨hw, _, rfl, ⟨by decide, by decide⟩, fun va _ va0 va1 hw => ?_⟩⟩))))))
    have hps : ∃ ps6 : List Pin, ps6 = [barP p z, barP (p.add (x.smul sx)) z, barP (p.add (y.smul sy)) z, barP p y, barP (p.add (x.smul sx)) y, barP p x] := ⟨_, rfl⟩
    obtain ⟨ps6, e6⟩ := hps
    have l6 : ps6.length = 6 := by rw [e6]; rfl
    have b6 : ∀ p, p ∈ ps6 → PB p := by
      rw [e6]
      intro r hr
      simp only [List.mem_cons, List.not_mem_nil, or_false] at hr
      rcases hr with rfl | rfl | rfl | rfl | rfl | rfl
      · exact ⟨b4_8 ph, zl, z0⟩
      · exact ⟨pp, zl, z0⟩
      · exact ⟨qq, zl, z0⟩
      · exact ⟨b4_8 ph, yl, y0⟩
      · exact ⟨pp, yl, y0⟩
      · exact ⟨b4_8 ph, xl, x0⟩
    refine eb_en [.cel a _, .dat (.int ((k : Nat) : Int)), .dat (.int v), .dat (tr p), .dat (.int vk), .dat (tr x), .dat (tr y), .dat (tr z), .dat (tr (p.add (x.smul sx))), .dat (tr (p.add (y.smul sy))), .dat (.list (ps6.map bareD)), .dat (.int va), .no, .no] (by rw [e6]; rfl) ?_
    obtain ⟨c1, c2⟩ := cut_lens (xs := ps6) va0 (by omega)
    refine eb_cons (es_asg 10 rfl (by kernel_rfl) (.inl rfl) (ee_if (et_cmp cp_eqI (nomark _) (ee_name 2 rfl (by kernel_rfl) rfl (ee_int (⟨_, ⟨_, _, rfl, rfl, rfl⟩, ⟨fun he1 => EvN.frz (en_catL (EvN.frz (en_slice (ee_name 10 rfl (by kernel_rfl) rfl (ee_name 11 rfl (by kernel_rfl) rfl (⟨_, rfl, ⟨_, rfl, fun _ _ => EvN.frz (en_slice (ee_name 10 rfl (by kernel_rfl) rfl (ee_name 11 rfl (by kernel_rfl) rfl (⟨_, rfl, ⟨_, rfl, fun _ _ => ⟨_, _, rfl, rfl, ?_, fun _ _ => ?_⟩⟩⟩))))⟩⟩)))))), fun he1 => EvN.frz (en_catL (EvN.frz (en_slice (ee_name 10 rfl (by kernel_rfl) rfl (ee_name 11 rfl (by kernel_rfl) rfl (⟨_, rfl, ⟨_, rfl, fun _ _ => EvN.frz (en_slice (EvN.frz (en_slice (ee_name 10 rfl (by kernel_rfl) rfl (ee_name 11 rfl (by kernel_rfl) rfl (⟨_, rfl, ⟨_, rfl, fun _ _ => ee_int (⟨_, rfl, ⟨_, rfl, fun _ _ => ⟨_, _, rfl, rfl, ?_, fun _ _ => ?_⟩⟩⟩)⟩⟩))))))⟩⟩))))))⟩⟩))))))
    · rw [cutD_map, cutD_map, List.length_map, List.length_map]; omega
    · have hL : 0 < (Ly.cutD ps6 (some va) none ++ Ly.cutD ps6 none (some va)).length ∧ (Ly.cutD ps6 (some va) none ++ Ly.cutD ps6 none (some va)).length ≤ 6 := by
        have := cutD_len (xs := Ly.cutD ps6 none (some va)) (lo := some 1) (hi := none)
        rw [List.length_append]
        rcases Int.lt_or_eq_of_le va0 with h | h
        · omega
        · omega
      have hM : ∀ p, p ∈ (Ly.cutD ps6 (some va) none ++ Ly.cutD ps6 none (some va)) → PB p := fun r hr => by
        rcases List.mem_append.mp hr with hr | hr
        · exact b6 r (cutD_mem hr)
        · first
            | exact b6 r (cutD_mem hr)
            | exact b6 r (cutD_mem (cutD_mem hr))
      have hE : PyData.list ((Ly.cutD ps6 (some va) none ++ Ly.cutD ps6 none (some va)).map bareD) = PyData.list ((Ly.cutD ps6 (some va) none ++ Ly.cutD ps6 none (some va)).map bareD) := rfl
      refine eb_en [.cel a _, .dat (.int ((k : Nat) : Int)), .dat (.int v), .dat (tr p), .dat (.int vk), .dat (tr x), .dat (tr y), .dat (tr z), .dat (tr (p.add (x.smul sx))), .dat (tr (p.add (y.smul sy))), .dat (.list ((Ly.cutD ps6 (some va) none ++ Ly.cutD ps6 none (some va)).map bareD)), .dat (.int va), .no, .no] (by rw [List.map_append, ← cutD_map, ← cutD_map]; rfl) ?_
      generalize (Ly.cutD ps6 (some va) none ++ Ly.cutD ps6 none (some va)) = LL at hL hM
      refine eb_one (es_ret (EvN.frz (en_catL (ee_name 10 rfl (by kernel_rfl) rfl (EvN.frz (en_lc [("_law_turn", 13)] (by kernel_rfl) (lcq_draw Well PB 0 a (fun i => PyData.int ((i : Nat) : Int)) bareD (by decide) (ei_range1 (by kernel_rfl) A.f_range (ee_callC 0 (k__law_draw A) (Nat.le_of_ble_eq_true rfl) (by kernel_rfl) rfl (by kernel_rfl) rfl (ea_cons (ee_int (ea_nil (⟨_, rfl, ⟨hw, _, rfl, ⟨by decide, by decide⟩, fun vn _ vn0 vn1 hw => ⟨_, rfl, ?_, ⟨(List.range vn.toNat), ?_, ?_, ⟨_, hw, rfl⟩, fun x hx w hw => eg_name 13 rfl (by kernel_rfl) (.inr rfl) (by decide) (ee_tup (ea_cons (ee_callC 0 (k__law_point A) (Nat.le_of_ble_eq_true rfl) (by kernel_rfl) rfl (by kernel_rfl) rfl (ea_cons (ee_name 1 rfl (by kernel_rfl) rfl (ea_nil (⟨_, rfl, ⟨hw, k, rfl, hk2, fun p _ ph hw => ea_cons (ee_callC 0 (k__law_along A) (Nat.le_of_ble_eq_true rfl) (by kernel_rfl) rfl (by kernel_rfl) rfl (ea_cons (ee_name 1 rfl (by kernel_rfl) rfl (ea_nil (⟨_, rfl, ⟨hw, k, rfl, hk2, fun l _ lz lh hw => ea_nil (⟨Nat.le_of_ble_eq_true rfl, ⟨barP p l, _, rfl, ⟨b4_8 ph, lh, lz⟩, hw, rfl⟩⟩)⟩⟩)))))⟩⟩))))))), fun bs w' hl hg hw _ _ => ⟨_, _, rfl, rfl, ?_, fun _ _ => ⟨_, _, _, rfl, rfl, ?_⟩⟩⟩⟩⟩⟩)))))))))))))
      · omega
      · exact rgD_map _
      · rw [List.length_range]; omega
      · rw [List.length_range] at hl
        rw [List.length_map, List.length_map]; omega
      · rw [List.length_range] at hl
        rw [← List.map_append]
        refine q _ _ ⟨?_, ?_, fun r hr => ?_⟩ hw
        · rw [List.length_append]; omega
        · rw [List.length_append]; omega
        · rcases List.mem_append.mp hr with hr | hr
          · exact hM r hr
          · exact hg r hr
    · rw [cutD_map, cutD_map, cutD_map, List.length_map, List.length_map]
      have := cutD_len (xs := Ly.cutD ps6 none (some va)) (lo := some 1) (hi := none)
      omega
    · have hL : 0 < (Ly.cutD ps6 (some va) none ++ Ly.cutD (Ly.cutD ps6 none (some va)) (some 1) none).length ∧ (Ly.cutD ps6 (some va) none ++ Ly.cutD (Ly.cutD ps6 none (some va)) (some 1) none).length ≤ 6 := by
        have := cutD_len (xs := Ly.cutD ps6 none (some va)) (lo := some 1) (hi := none)
        rw [List.length_append]
        rcases Int.lt_or_eq_of_le va0 with h | h
        · omega
        · omega
      have hM : ∀ p, p ∈ (Ly.cutD ps6 (some va) none ++ Ly.cutD (Ly.cutD ps6 none (some va)) (some 1) none) → PB p := fun r hr => by
        rcases List.mem_append.mp hr with hr | hr
        · exact b6 r (cutD_mem hr)
        · first
            | exact b6 r (cutD_mem hr)
            | exact b6 r (cutD_mem (cutD_mem hr))
      have hE : PyData.list ((Ly.cutD ps6 (some va) none ++ Ly.cutD (Ly.cutD ps6 none (some va)) (some 1) none).map bareD) = PyData.list ((Ly.cutD ps6 (some va) none ++ Ly.cutD (Ly.cutD ps6 none (some va)) (some 1) none).map bareD) := rfl
      refine eb_en [.cel a _, .dat (.int ((k : Nat) : Int)), .dat (.int v), .dat (tr p), .dat (.int vk), .dat (tr x), .dat (tr y), .dat (tr z), .dat (tr (p.add (x.smul sx))), .dat (tr (p.add (y.smul sy))), .dat (.list ((Ly.cutD ps6 (some va) none ++ Ly.cutD (Ly.cutD ps6 none (some va)) (some 1) none).map bareD)), .dat (.int va), .no, .no] (by rw [List.map_append, ← cutD_map, ← cutD_map, ← cutD_map]; rfl) ?_
      generalize (Ly.cutD ps6 (some va) none ++ Ly.cutD (Ly.cutD ps6 none (some va)) (some 1) none) = LL at hL hM
      refine eb_one (es_ret (EvN.frz (en_catL (ee_name 10 rfl (by kernel_rfl) rfl (EvN.frz (en_lc [("_law_turn", 13)] (by kernel_rfl) (lcq_draw Well PB 0 a (fun i => PyData.int ((i : Nat) : Int)) bareD (by decide) (ei_range1 (by kernel_rfl) A.f_range (ee_callC 0 (k__law_draw A) (Nat.le_of_ble_eq_true rfl) (by kernel_rfl) rfl (by kernel_rfl) rfl (ea_cons (ee_int (ea_nil (⟨_, rfl, ⟨hw, _, rfl, ⟨by decide, by decide⟩, fun vn _ vn0 vn1 hw => ⟨_, rfl, ?_, ⟨(List.range vn.toNat), ?_, ?_, ⟨_, hw, rfl⟩, fun x hx w hw => eg_name 13 rfl (by kernel_rfl) (.inr rfl) (by decide) (ee_tup (ea_cons (ee_callC 0 (k__law_point A) (Nat.le_of_ble_eq_true rfl) (by kernel_rfl) rfl (by kernel_rfl) rfl (ea_cons (ee_name 1 rfl (by kernel_rfl) rfl (ea_nil (⟨_, rfl, ⟨hw, k, rfl, hk2, fun p _ ph hw => ea_cons (ee_callC 0 (k__law_along A) (Nat.le_of_ble_eq_true rfl) (by kernel_rfl) rfl (by kernel_rfl) rfl (ea_cons (ee_name 1 rfl (by kernel_rfl) rfl (ea_nil (⟨_, rfl, ⟨hw, k, rfl, hk2, fun l _ lz lh hw => ea_nil (⟨Nat.le_of_ble_eq_true rfl, ⟨barP p l, _, rfl, ⟨b4_8 ph, lh, lz⟩, hw, rfl⟩⟩)⟩⟩)))))⟩⟩))))))), fun bs w' hl hg hw _ _ => ⟨_, _, rfl, rfl, ?_, fun _ _ => ⟨_, _, _, rfl, rfl, ?_⟩⟩⟩⟩⟩⟩)))))))))))))
      · omega
      · exact rgD_map _
      · rw [List.length_range]; omega
      · rw [List.length_range] at hl
        rw [List.length_map, List.length_map]; omega
      · rw [List.length_range] at hl
        rw [← List.map_append]
        refine q _ _ ⟨?_, ?_, fun r hr => ?_⟩ hw
        · rw [List.length_append]; omega
        · rw [List.length_append]; omega
        · rcases List.mem_append.mp hr with hr | hr
          · exact hM r hr
          · exact hg r hr
  · refine eb_nil ?_
    refine eb_cons (es_if (et_cmp cp_eqI (nomark _) (ee_name 2 rfl (by kernel_rfl) rfl (ee_int (⟨_, ⟨_, _, rfl, rfl, rfl⟩, ⟨fun hk => ?_, fun hk => ?_⟩⟩)))))
    · refine eb_cons (es_asg 12 rfl (by kernel_rfl) (.inl rfl) (ee_callC 0 (k__law_along A) (Nat.le_of_ble_eq_true rfl) (by kernel_rfl) rfl (by kernel_rfl) rfl (ea_cons (ee_name 1 rfl (by kernel_rfl) rfl (ea_nil (⟨_, rfl, ⟨hw, k, rfl, hk2, fun l _ lz lh hw => ?_⟩⟩))))))
      refine eb_cons (es_lc 10 [("_law_turn", 13)] (by kernel_rfl) rfl (by kernel_rfl) (lcq_draw Well PB 0 a (fun i => PyData.int ((i : Nat) : Int)) bareD (by decide) (ei_range1 (by kernel_rfl) A.f_range (ee_add (ee_int (ee_callC 0 (k__law_draw A) (Nat.le_of_ble_eq_true rfl) (by kernel_rfl) rfl (by kernel_rfl) rfl (ea_cons (ee_int (ea_nil (⟨_, rfl, ⟨hw, _, rfl, ⟨by decide, by decide⟩, fun vn _ vn0 vn1 hw => ⟨_, _, rfl, rfl, ⟨_, rfl, ?_, ⟨(List.range (3 + vn).toNat), ?_, ?_, ⟨_, hw, rfl⟩, fun x hx w hw => eg_name 13 rfl (by kernel_rfl) (.inr rfl) (by decide) (ee_tup (ea_cons (ee_callC 0 (k__law_point A) (Nat.le_of_ble_eq_true rfl) (by kernel_rfl) rfl (by kernel_rfl) rfl (ea_cons (ee_name 1 rfl (by kernel_rfl) rfl (ea_nil (⟨_, rfl, ⟨hw, k, rfl, hk2, fun p _ ph hw => ea_cons (ee_name 12 rfl (by kernel_rfl) rfl (ea_nil (⟨Nat.le_of_ble_eq_true rfl, ⟨barP p l, _, rfl, ⟨b4_8 ph, lh, lz⟩, hw, rfl⟩⟩)))⟩⟩))))))), fun bs1 w' hl1 hg1 hw _ _ => ?_⟩⟩⟩⟩⟩))))))))))
      · omega
      · exact rgD_map _
      · rw [List.length_range]; omega
      rw [List.length_range] at hl1
      refine eb_frz 10 rfl ?_
      refine eb_en [.cel a _, .dat (.int ((k : Nat) : Int)), .dat (.int v), .dat (tr p), .no, .no, .no, .no, .no, .no, .dat (.list (bs1.map bareD)), .no, .dat (tr l), .no] rfl ?_
      refine eb_one (es_ret (EvN.frz (en_catL (ee_name 10 rfl (by kernel_rfl) rfl (EvN.frz (en_lc [("_law_turn", 13)] (by kernel_rfl) (lcq_draw Well PB 0 a (fun i => PyData.int ((i : Nat) : Int)) bareD (by decide) (ei_range1 (by kernel_rfl) A.f_range (ee_callC 0 (k__law_draw A) (Nat.le_of_ble_eq_true rfl) (by kernel_rfl) rfl (by kernel_rfl) rfl (ea_cons (ee_int (ea_nil (⟨_, rfl, ⟨hw, _, rfl, ⟨by decide, by decide⟩, fun vn _ vn0 vn1 hw => ⟨_, rfl, ?_, ⟨(List.range vn.toNat), ?_, ?_, ⟨_, hw, rfl⟩, fun x hx w hw => eg_name 13 rfl (by kernel_rfl) (.inr rfl) (by decide) (ee_tup (ea_cons (ee_callC 0 (k__law_point A) (Nat.le_of_ble_eq_true rfl) (by kernel_rfl) rfl (by kernel_rfl) rfl (ea_cons (ee_name 1 rfl (by kernel_rfl) rfl (ea_nil (⟨_, rfl, ⟨hw, k, rfl, hk2, fun p _ ph hw => ea_cons (ee_callC 0 (k__law_along A) (Nat.le_of_ble_eq_true rfl) (by kernel_rfl) rfl (by kernel_rfl) rfl (ea_cons (ee_name 1 rfl (by kernel_rfl) rfl (ea_nil (⟨_, rfl, ⟨hw, k, rfl, hk2, fun l _ lz lh hw => ea_nil (⟨Nat.le_of_ble_eq_true rfl, ⟨barP p l, _, rfl, ⟨b4_8 ph, lh, lz⟩, hw, rfl⟩⟩)⟩⟩)))))⟩⟩))))))), fun bs w' hl hg hw _ _ => ⟨_, _, rfl, rfl, ?_, fun _ _ => ⟨_, _, _, rfl, rfl, ?_⟩⟩⟩⟩⟩⟩)))))))))))))
      · omega
      · exact rgD_map _
      · rw [List.length_range]; omega
      · rw [List.length_range] at hl
        rw [List.length_map, List.length_map]; omega
      · rw [List.length_range] at hl
        rw [← List.map_append]
        refine q _ _ ⟨?_, ?_, fun r hr => ?_⟩ hw
        · rw [List.length_append]; omega
        · rw [List.length_append]; omega
        · rcases List.mem_append.mp hr with hr | hr
          · exact hg1 r hr
          · exact hg r hr
    · refine eb_nil ?_
      refine eb_one (es_ret (EvN.frz (en_lc [("_law_turn", 13)] (by kernel_rfl) (lcq_draw Well PB 0 a (fun i => PyData.int ((i : Nat) : Int)) bareD (by decide) (ei_range1 (by kernel_rfl) A.f_range (ee_add (ee_int (ee_callC 0 (k__law_draw A) (Nat.le_of_ble_eq_true rfl) (by kernel_rfl) rfl (by kernel_rfl) rfl (ea_cons (ee_int (ea_nil (⟨_, rfl, ⟨hw, _, rfl, ⟨by decide, by decide⟩, fun vn _ vn0 vn1 hw => ⟨_, _, rfl, rfl, ⟨_, rfl, ?_, ⟨(List.range (1 + vn).toNat), ?_, ?_, ⟨_, hw, rfl⟩, fun x hx w hw => eg_name 13 rfl (by kernel_rfl) (.inr rfl) (by decide) (ee_tup (ea_cons (ee_callC 0 (k__law_point A) (Nat.le_of_ble_eq_true rfl) (by kernel_rfl) rfl (by kernel_rfl) rfl (ea_cons (ee_name 1 rfl (by kernel_rfl) rfl (ea_nil (⟨_, rfl, ⟨hw, k, rfl, hk2, fun p _ ph hw => ea_cons (ee_callC 0 (k__law_along A) (Nat.le_of_ble_eq_true rfl) (by kernel_rfl) rfl (by kernel_rfl) rfl (ea_cons (ee_name 1 rfl (by kernel_rfl) rfl (ea_nil (⟨_, rfl, ⟨hw, k, rfl, hk2, fun l _ lz lh hw => ea_nil (⟨Nat.le_of_ble_eq_true rfl, ⟨barP p l, _, rfl, ⟨b4_8 ph, lh, lz⟩, hw, rfl⟩⟩)⟩⟩)))))⟩⟩))))))), fun bs w' hl hg hw _ _ => ⟨_, _, _, rfl, rfl, ?_⟩⟩⟩⟩⟩⟩))))))))))))
      · omega
      · exact rgD_map _
      · rw [List.length_range]; omega
      · rw [List.length_range] at hl
        exact q _ _ ⟨by omega, by omega, hg⟩ hw
end Sp
namespace Sp
open PySem PySem.Spec PyProof.Rows L2 Ly SV
variable {g : Gc}

def pw (p : Pin) (u v : V3) : Rat := sumQ 6 fun i => six p.al (p.at_.cross p.al) i * six v u i
structure StR (u v : V3) (p p' : Pin) : Prop where
  a : p'.at_ = p.at_
  l : p'.al = p.al
  lo : Sz 60 p'.lo
  hi : Sz 60 p'.hi
  le : p'.lo ≤ pw p u v
  ge : pw p u v ≤ p'.hi
theorem sum_bq {N M : Nat} {f : Nat → Rat} : ∀ {n : Nat}, (∀ i, i < n → Bq N M (f i)) → Bq N (n * M) (sumQ n f)
  | 0, _ => by
    have := bq_int (a := 0) (M := 0 * M) (N := N) (by omega) (by omega)
    exact this
  | n + 1, h => by
    have := (sum_bq (n := n) fun i hi => h i (by omega)).add (h n (by omega))
    rw [Nat.succ_mul]
    exact this
theorem pw_bq {p : Pin} {u v : V3} (h : PB p) (hu : u.all BW) (hv : v.all BW) : Bq 20736 12288 (pw p u v) := by
  have c : (p.at_.cross p.al).all (Bq 144 64) := cross_bq h.a h.l
  have r : ∀ i, i < 6 → Bq 144 64 (six p.al (p.at_.cross p.al) i) := six_all (mono_bq h.l (by decide) (by decide)) c
  have m : ∀ i, i < 6 → BW (six v u i) := six_all hv hu
  exact sum_bq (N := 20736) (M := 2048) fun i hi => (r i hi).mul (m i hi)
theorem pw_sz {p : Pin} {u v : V3} (h : PB p) (hu : u.all BW) (hv : v.all BW) : Sz 28 (pw p u v) := (pw_bq h hu hv).sz (by decide) (by decide) (by decide)
theorem sz_1 {N M : Nat} {p : V3} (h : p.all (Bq N M)) (hN : 0 < N) (h1 : N < 2 ^ 100) (h2 : M * N < 2 ^ 100) : p.all (Sz 100) := ⟨h.1.sz hN h1 h2, h.2.1.sz hN h1 h2, h.2.2.sz hN h1 h2⟩
theorem k__law_stretched (A : Al g) : KnowsC g "_law_stretched" 5 ["_law_well_here", "_law_pins_here", "_law_way_here"] (fun xs ds post => Well xs ∧ ∃ (ps : List Pin) (u v : V3), ds = [.list (ps.map bareD), linD (u, v)] ∧ (ps.length ≤ 8 ∧ (∀ p, p ∈ ps → PB p) ∧ u.all BW ∧ v.all BW) ∧ ∀ (qs : List Pin) ys, qs.length = ps.length → (∀ (j : Nat) p p', ps[j]? = some p → qs[j]? = some p' → StR u v p p') → Well ys → post (.tuple (qs.map pinD)) ys) := by
  refine Knows.mkC A.d__law_stretched sc__law_stretched (fun xs ds post h => by obtain ⟨_, _, _, _, rfl, _⟩ := h; rfl) ?_
  rintro a xs ds post ⟨hw, ps, u, v, rfl, ⟨hn, hp, hu, hv⟩, q⟩
  refine eb_cons (es_asgN 3 rfl (by kernel_rfl) (.inl rfl) (en_lst (ea_nil (⟨Nat.le_of_ble_eq_true rfl, fun _ _ => ?_⟩))))
  refine eb_cons (es_for (ei_list (ee_name 1 rfl (by kernel_rfl) rfl (⟨_, rfl, ⟨fun i en => ∃ (w : List PyData) (a2 : Addr) (qs : List Pin) (s4 s5 : Sl), Well w ∧ qs.length = i ∧ (∀ (j : Nat) p p', ps[j]? = some p → qs[j]? = some p' → StR u v p p') ∧ en = [.cel a w, .dat (.list (ps.map bareD)), .dat (linD (u, v)), .cel a2 (qs.map pinD), s4, s5], ⟨xs, _, [], _, _, hw, rfl, fun j p p' _ h => (by cases h), rfl⟩, ?_, ?_⟩⟩))))
  · rintro i d en2 hd ⟨w, a2, qs, s4, s5, hw, hl, hr, rfl⟩
    obtain ⟨p, hp1, rfl⟩ := map_get hd
    have pb := hp p (List.mem_of_getElem? hp1)
    have hil := (List.getElem?_eq_some_iff.mp hp1).1
    refine eg_name 4 rfl (by kernel_rfl) (.inl rfl) trivial (?_)
    refine eb_cons (es_asg 5 rfl (by kernel_rfl) (.inl rfl) (ee_if (et_cmp cp_notN (nomark _) (ee_name 2 rfl (by kernel_rfl) rfl (ee_none (⟨_, ⟨rfl, rfl⟩, ⟨fun hk => ee_call (k__law_power A) (Nat.le_of_ble_eq_true rfl) (by kernel_rfl) (ea_cons (ee_call (k__law_line A) (Nat.le_of_ble_eq_true rfl) (by kernel_rfl) (ea_cons (ee_ix (ee_name 4 rfl (by kernel_rfl) rfl (ee_int (⟨_, _, _, rfl, rfl, rfl, ea_cons (ee_ix (ee_name 4 rfl (by kernel_rfl) rfl (ee_int (⟨_, _, _, rfl, rfl, rfl, ea_nil (⟨p.at_, p.al, rfl, ⟨szall (sz_1 pb.a (by decide) (by decide) (by decide)) (by decide), szall (sz_1 pb.l (by decide) (by decide) (by decide)) (by decide)⟩, ea_cons (ee_name 2 rfl (by kernel_rfl) rfl (ea_nil (⟨p.al, p.at_.cross p.al, u, v, rfl, ⟨sz_1 pb.l (by decide) (by decide) (by decide), sz_1 (cross_bq pb.a pb.l) (by decide) (by decide) (by decide), sz_1 hu (by decide) (by decide) (by decide), sz_1 hv (by decide) (by decide) (by decide)⟩, ?_⟩)))⟩)⟩))))⟩))))))), fun z => (by cases z)⟩⟩))))))
    refine eb_one (es_append 3 rfl (by kernel_rfl) rfl (ee_tup (ea_cons (ee_ix (ee_name 4 rfl (by kernel_rfl) rfl (ee_int (⟨_, _, _, rfl, rfl, rfl, ea_cons (ee_ix (ee_name 4 rfl (by kernel_rfl) rfl (ee_int (⟨_, _, _, rfl, rfl, rfl, ea_cons (ee_tup (ea_cons (ee_call (k__law_less A) (Nat.le_of_ble_eq_true rfl) (by kernel_rfl) (ea_cons (ee_name 5 rfl (by kernel_rfl) rfl (ea_cons (ee_callC 0 (k__law_room A) (Nat.le_of_ble_eq_true rfl) (by kernel_rfl) rfl (by kernel_rfl) rfl (ea_nil (⟨_, rfl, ⟨hw, rfl, fun ra _ rah hw => ea_nil (⟨pw p u v, ra, rfl, ⟨(pw_sz pb hu hv).mono (by decide), rah.2.mono (by decide)⟩, ea_cons (ee_call (k__law_added A) (Nat.le_of_ble_eq_true rfl) (by kernel_rfl) (ea_cons (ee_name 5 rfl (by kernel_rfl) rfl (ea_cons (ee_callC 0 (k__law_room A) (Nat.le_of_ble_eq_true rfl) (by kernel_rfl) rfl (by kernel_rfl) rfl (ea_nil (⟨_, rfl, ⟨hw, rfl, fun rb _ rbh hw => ea_nil (⟨pw p u v, rb, rfl, ⟨(pw_sz pb hu hv).mono (by decide), rbh.2.mono (by decide)⟩, ea_nil (⟨Nat.le_of_ble_eq_true rfl, ea_nil (⟨Nat.le_of_ble_eq_true rfl, ⟨_, rfl, ?_, ?_⟩⟩)⟩)⟩)⟩⟩)))))))⟩)⟩⟩)))))))))⟩))))⟩)))))))
    · rw [List.length_map]; omega
    · refine ⟨_, a2, qs ++ [⟨p.at_, p.al, pw p u v - ra, pw p u v + rb⟩], _, _, hw, by rw [List.length_append, hl]; rfl, fun j p1 p2 h1 h2 => ?_, by rw [List.map_append]; rfl⟩
      rcases Nat.lt_or_ge j qs.length with hj | hj
      · rw [List.getElem?_append_left hj] at h2
        exact hr j p1 p2 h1 h2
      · have hj2 : j = qs.length := by
          have := (List.getElem?_eq_some_iff.mp h2).1
          rw [List.length_append, List.length_singleton] at this
          omega
        subst hj2
        rw [List.getElem?_append_right (Nat.le_refl _), Nat.sub_self] at h2
        cases h2
        rw [hl, hp1] at h1
        cases h1
        have s28 := pw_sz pb hu hv
        exact ⟨rfl, rfl, s28.sub rah.2 (by decide), s28.add rbh.2 (by decide), by have := rah.1; grind, by have := rbh.1; grind⟩
  · rintro en2 ⟨w, a2, qs, s4, s5, hw, hl, hr, rfl⟩
    rw [List.length_map] at hl
    refine eb_frz 3 rfl ?_
    refine eb_one (es_ret (ee_tupleOf (by kernel_rfl) A.f_tuple (ee_name 3 rfl (by kernel_rfl) rfl (⟨_, rfl, ⟨_, _, _, rfl, rfl, ?_⟩⟩))))
    exact q qs w hl hr hw
end Sp
namespace Sp
open PySem PySem.Spec PyProof.Rows L2 Ly SV
variable {g : Gc}

/-- a mark's bounds -/
structure MB (u v : V3) : Prop where
  z : v ≠ V3.zero
  r : ∀ q, q ∈ row6 u v → Rb q
  u : u.all (Sz 100)
  v : v.all (Sz 100)
theorem li_mem {P : Rat → Prop} {u v : V3} (h : v.all P) (k : (u.cross v).all P) : ∀ q, q ∈ row6 u v → P q := fun q hq => by
  simp only [List.mem_cons, List.not_mem_nil, or_false] at hq
  rcases hq with rfl | rfl | rfl | rfl | rfl | rfl
  · exact h.1
  · exact h.2.1
  · exact h.2.2
  · exact k.1
  · exact k.2.1
  · exact k.2.2
theorem mb_of {N M N' M' : Nat} {u v : V3} (z : v ≠ V3.zero) (hu : u.all (Bq N M)) (hv : v.all (Bq N' M')) (n1 : 0 < N) (n2 : 0 < N') (d : N * N' ∣ 12 ^ 12) (d' : N' ∣ 12 ^ 12) (m' : M' ≤ 2 ^ 40) (m : M * M' + M * M' ≤ 2 ^ 40) (s1 : N < 2 ^ 100) (s2 : M * N < 2 ^ 100) (s3 : N' < 2 ^ 100) (s4 : M' * N' < 2 ^ 100) : MB u v :=
  ⟨z, li_mem (mono_bq hv d' m') (mono_bq (cross_bq hu hv) d m), sz_1 hu n1 s1 s2, sz_1 hv n2 s3 s4⟩
/-- the mark's point, step by step -/
def MP (i : Nat) (u : V3) : Prop := u.all (Bq (12 ^ (i + 1)) (16 * 5 ^ i - 8))
theorem mp_step {i : Nat} {u e : V3} {q : Rat} (h : MP i u) (he : e.all (Bq 12 8)) (hq : B4 q) : MP (i + 1) (u.add ((e.add (u.smul ((-1 : Int) : Rat))).smul q)) := by
  have m1 : Bq 1 1 ((-1 : Int) : Rat) := bq_int (by decide) (by decide)
  have h1 : (u.smul ((-1 : Int) : Rat)).all (Bq (12 ^ (i + 1)) (16 * 5 ^ i - 8)) := mono_bq (smul_bq h m1) (by rw [Nat.mul_one]; exact Nat.dvd_refl _) (by rw [Nat.mul_one]; exact Nat.le_refl _)
  have h2 := smul_bq (add_bq (mono_bq he (show 12 ∣ 12 ^ (i + 1) by rw [Nat.pow_succ]; exact Nat.dvd_mul_left _ _) (Nat.le_refl 8)) h1) hq
  have h3 := add_bq (mono_bq h (show 12 ^ (i + 1) ∣ 12 ^ (i + 1) * 12 from Nat.dvd_mul_right _ _) (Nat.le_refl _)) h2
  refine mono_bq h3 (by rw [Nat.pow_succ 12 (i + 1)]; exact Nat.dvd_refl _) ?_
  have : 0 < 5 ^ i := Nat.pow_pos (by decide)
  rw [Nat.pow_succ 5]
  omega
theorem mp_8 {i : Nat} {u : V3} (h : MP i u) (hi : i ≤ 8) : u.all (Bq (12 ^ 9) (16 * 5 ^ 8 - 8)) :=
  mono_bq h (Nat.pow_dvd_pow 12 (by omega)) (by have : 5 ^ i ≤ 5 ^ 8 := Nat.pow_le_pow_right (by decide) hi; omega)
theorem mp_0 {u : V3} (h : u.all (Bq 12 8)) : MP 0 u := h
theorem es_m2 {c : Cs} {en : En} {Q : PyData → En → Prop} {i j : Int} {a b k : Nat} {p1 p2 p3 pos : Pos} (q : Q (.tuple [.int (-i), .int j]) en) : EeS c (.Tuple [.UnaryOp .USub (.Constant (.int i) a p1) p3, .Constant (.int j) b p2] k pos) en Q :=
  ⟨ee_tup (ea_cons (ee_neg (ee_int ⟨_, rfl, ea_cons (ee_int (ea_nil ⟨Nat.le_of_ble_eq_true rfl, q⟩))⟩)))⟩
theorem mul_ok {i : Nat} {r : PyData} (h : [PyData.tuple [.int 1, .int 1], .tuple [.int (-2), .int 1], .tuple [.int 1, .int 3]][i]? = some r) : ∃ q : Rat, q ≠ 0 ∧ Bq 3 2 q ∧ r = fr q := by
  match i, h with
  | 0, h => cases h; exact ⟨((1 : Int) : Rat), by decide +kernel, bq_int (by decide) (by decide), rfl⟩
  | 1, h => cases h; exact ⟨((-2 : Int) : Rat), by decide +kernel, bq_int (by decide) (by decide), rfl⟩
  | 2, h => cases h; exact ⟨⟨1, 3, by decide, by decide⟩, by decide +kernel, ⟨by decide +kernel, by decide +kernel, by decide +kernel⟩, rfl⟩
theorem smul_nz {v : V3} {q : Rat} (h : v ≠ V3.zero) (hq : q ≠ 0) : v.smul q ≠ V3.zero := fun z => h (by
  have e : ∀ x : Rat, x * q = 0 → x = 0 := fun x hx => by
    rcases Rat.mul_eq_zero.mp hx with h | h
    · exact h
    · exact absurd h hq
  have z1 := e _ (congrArg V3.x z)
  have z2 := e _ (congrArg V3.y z)
  have z3 := e _ (congrArg V3.z z)
  cases v
  simp only at z1 z2 z3
  rw [z1, z2, z3]
  rfl)
theorem k__law_sign (A : Al g) : KnowsC g "_law_sign" 5 ["_law_well_here", "_law_pins_here", "_law_sort"] (fun xs ds post => Well xs ∧ ∃ (ps : List Pin) (k : Nat), ds = [.list (ps.map bareD), .int ((k : Nat) : Int)] ∧ (0 < ps.length ∧ ps.length ≤ 8 ∧ (∀ p, p ∈ ps → PB p) ∧ k ≤ 2) ∧ ∀ u v ys, MB u v → Well ys → post (linD (u, v)) ys) := by
  refine Knows.mkC A.d__law_sign sc__law_sign (fun xs ds post h => by obtain ⟨_, _, _, rfl, _⟩ := h; rfl) ?_
  rintro a xs ds post ⟨hw, ps, k, rfl, ⟨hn, hn8, hp, hk2⟩, q⟩
  refine eb_cons (es_asgT (ee_sliceT (ee_callC 0 (k__law_pick A) (Nat.le_of_ble_eq_true rfl) (by kernel_rfl) rfl (by kernel_rfl) rfl (ea_cons (ee_name 1 rfl (by kernel_rfl) rfl (ea_nil (⟨_, rfl, ⟨hw, true, ps.map bareD, rfl, ⟨?_, ?_⟩, fun i r _ hi hw => ?_⟩⟩)))))))
  · rw [List.length_map]; exact hn
  · rw [List.length_map]; omega
  obtain ⟨p, hp1, rfl⟩ := map_get hi
  have pb := hp p (List.mem_of_getElem? hp1)
  refine ee_int (⟨_, rfl, ⟨_, rfl, ?_⟩⟩)
  refine eg_tup (egs_cons (eg_name 3 rfl (by kernel_rfl) (.inl rfl) trivial (egs_cons (eg_name 4 rfl (by kernel_rfl) (.inl rfl) trivial (egs_nil (?_))))))
  refine eb_cons (es_asg 5 rfl (by kernel_rfl) (.inl rfl) (ee_callC 0 (k__law_draw A) (Nat.le_of_ble_eq_true rfl) (by kernel_rfl) rfl (by kernel_rfl) rfl (ea_cons (ee_int (ea_nil (⟨_, rfl, ⟨hw, _, rfl, ⟨by decide, by decide⟩, fun vt _ vt0 vt1 hw => ?_⟩⟩))))))
  refine eb_en [.cel a _, .dat (.list (ps.map bareD)), .dat (.int ((k : Nat) : Int)), .dat (tr p.at_), .dat (tr p.al), .dat (.int vt), .no, .no, .no, .no] rfl ?_
  have ps1 := szall (bqs pb.a (by decide) (by decide) (by decide)) (show 200 ≤ 4000 by decide)
  have ls1 := szall (bqs pb.l (by decide) (by decide) (by decide)) (show 200 ≤ 4000 by decide)
  refine eb_cons (es_if (et_cmp cp_eqI (nomark _) (ee_name 5 rfl (by kernel_rfl) rfl (ee_int (⟨_, ⟨_, _, rfl, rfl, rfl⟩, ⟨fun hk => ?_, fun hk => ?_⟩⟩)))))
  · refine eb_cons (es_asg 6 rfl (by kernel_rfl) (.inl rfl) (ee_call (k__law_plus A) (Nat.le_of_ble_eq_true rfl) (by kernel_rfl) (ea_cons (ee_name 3 rfl (by kernel_rfl) rfl (ea_cons (ee_call (k__law_scaled A) (Nat.le_of_ble_eq_true rfl) (by kernel_rfl) (ea_cons (ee_name 4 rfl (by kernel_rfl) rfl (ea_cons (ee_callC 0 (k__law_number A) (Nat.le_of_ble_eq_true rfl) (by kernel_rfl) rfl (by kernel_rfl) rfl (ea_cons (ee_int (ea_nil (⟨_, rfl, ⟨hw, 2, rfl, Nat.le_refl _, fun nn _ nnh hw => ea_nil (⟨p.al, nn, rfl, ⟨?_, ?_⟩, ea_nil (⟨p.at_, p.al.smul nn, rfl, ⟨?_, ?_⟩, ?_⟩)⟩)⟩⟩))))))))))))))
    · exact ls1
    · exact (nnh.sz (k := 200) (by decide) (by decide) (by decide)).mono (by decide)
    · exact ps1
    · exact szall (bqs (smul_bq pb.l nnh) (by decide) (by decide) (by decide)) (by decide)
    · have thb : (p.at_.add (p.al.smul nn)).all (Bq 144 24) := add_bq (mono_bq pb.a (by decide) (Nat.le_refl _)) (smul_bq pb.l nnh)
      refine eb_one (es_ret (ee_tup (ea_cons (ee_name 6 rfl (by kernel_rfl) rfl (ea_cons (ee_call (k__law_scaled A) (Nat.le_of_ble_eq_true rfl) (by kernel_rfl) (ea_cons (ee_name 4 rfl (by kernel_rfl) rfl (ea_cons (EeS.run (es_call1 0 (k__law_pick A) (Nat.le_of_ble_eq_true rfl) (by kernel_rfl) rfl (by kernel_rfl) rfl (fun _ => rfl) (fun _ => rfl) (fun _ => rfl) (es_t3 (fun _ => rfl) (fun _ => rfl) (fun _ => rfl) (es_c2 (es_m2 (es_c2 ⟨_, rfl, ⟨hw, false, [.tuple [.int 1, .int 1], .tuple [.int (-2), .int 1], .tuple [.int 1, .int 3]], rfl, ⟨by decide, by decide⟩, fun i r _ hi hw => ?_⟩⟩)))))))))))))))
      obtain ⟨q3, z3, h3, rfl⟩ := mul_ok hi
      refine ea_nil ⟨p.al, q3, rfl, ⟨ls1, (h3.sz (k := 200) (by decide) (by decide) (by decide)).mono (by decide)⟩, ea_nil ⟨Nat.le_of_ble_eq_true rfl, ⟨_, _, _, rfl, rfl, ?_⟩⟩⟩
      exact q _ _ _ (mb_of (smul_nz pb.z z3) thb (smul_bq pb.l h3) (by decide) (by decide) (by decide) (by decide) (by decide) (by decide) (by decide) (by decide) (by decide) (by decide)) hw
  · refine eb_nil ?_
    refine eb_cons (es_if (et_cmp cp_lt (nomark _) (ee_name 5 rfl (by kernel_rfl) rfl (ee_int (⟨_, ⟨_, _, rfl, rfl, rfl⟩, ⟨fun hk => ?_, fun hk => ?_⟩⟩)))))
    · refine eb_cons (es_for (ei_list (EvN.frz (en_lc [("_law_pin", 9)] (by kernel_rfl) (lcq_filter ps bareD bareD (fun x : Pin => PyData.eqv (tr x.al) (tr p.al) && !(PyData.eqv (tr x.at_) (tr p.at_))) (ei_list (ee_name 1 rfl (by kernel_rfl) rfl (⟨_, rfl, ⟨?_, ?_, fun x hx => eg_name 9 rfl (by kernel_rfl) (.inr rfl) (by decide) (et_W (ew_and (et_cmp cp_eqD (nomark _) (ee_ix (ee_name 9 rfl (by kernel_rfl) rfl (ee_int (⟨_, _, _, rfl, rfl, rfl, ee_name 4 rfl (by kernel_rfl) rfl (⟨_, ⟨?_, ?_, rfl⟩, ⟨fun h1 => ew_and1 (et_cmp cp_neD (nomark _) (ee_ix (ee_name 9 rfl (by kernel_rfl) rfl (ee_int (⟨_, _, _, rfl, rfl, rfl, ee_name 3 rfl (by kernel_rfl) rfl (⟨_, ⟨?_, ?_, rfl⟩, ⟨?_, fun hk => ee_name 9 rfl (by kernel_rfl) rfl (⟨rfl, rfl⟩), fun hk => rfl⟩⟩)⟩))))), fun h1 => ⟨?_, fun hk => ee_name 9 rfl (by kernel_rfl) rfl (⟨rfl, rfl⟩), fun hk => rfl⟩⟩⟩)⟩))))))), fun _ _ => ⟨_, rfl, ⟨fun i en => ∃ (w : List PyData) (ua : V3) (s6 s7 s8 s9 : Sl), Well w ∧ MP i ua ∧ en = [.cel a w, .dat (.list (ps.map bareD)), .dat (.int ((k : Nat) : Int)), .dat (tr ua), .dat (tr p.al), .dat (.int vt), s6, s7, s8, s9], ⟨_, p.at_, _, _, _, _, hw, mp_0 pb.a, rfl⟩, ?_, ?_⟩⟩⟩⟩))))))))
      · rfl
      · omega
      · rfl
      · rfl
      · rfl
      · rfl
      · rw [h1]; rfl
      · rw [h1]; rfl
      · rintro i d en2 hd ⟨w, ua, s6, s7, s8, s9, hw, hm, rfl⟩
        obtain ⟨e, he1, rfl⟩ := map_get hd
        have eb := hp e (List.mem_filter.mp (List.mem_of_getElem? he1)).1
        have hi8 : i < 8 := by
          have := (List.getElem?_eq_some_iff.mp he1).1
          have := List.length_filter_le (fun x : Pin => PyData.eqv (tr x.al) (tr p.al) && !(PyData.eqv (tr x.at_) (tr p.at_))) ps
          omega
        have es1 := szall (bqs eb.a (by decide) (by decide) (by decide)) (show 200 ≤ 4000 by decide)
        have m1 : Bq 1 1 ((-1 : Int) : Rat) := bq_int (by decide) (by decide)
        have u8 := mp_8 hm (by omega)
        have us1 := szall (bqs u8 (by decide) (by decide) (by decide)) (show 200 ≤ 4000 by decide)
        have un := smul_bq u8 m1
        have sb := add_bq (mono_bq eb.a (show 12 ∣ 12 ^ 9 * 1 by decide) (Nat.le_refl 8)) un
        have ss := szall (bqs sb (by decide) (by decide) (by decide)) (show 200 ≤ 4000 by decide)
        refine eg_name 7 rfl (by kernel_rfl) (.inl rfl) trivial (?_)
        refine eb_cons (es_asg 8 rfl (by kernel_rfl) (.inl rfl) (ee_call (k__law_plus A) (Nat.le_of_ble_eq_true rfl) (by kernel_rfl) (ea_cons (ee_ix (ee_name 7 rfl (by kernel_rfl) rfl (ee_int (⟨_, _, _, rfl, rfl, rfl, ea_cons (ee_call (k__law_scaled A) (Nat.le_of_ble_eq_true rfl) (by kernel_rfl) (ea_cons (ee_name 3 rfl (by kernel_rfl) rfl (ea_cons (ee_tup (ea_cons (ee_neg (ee_int (⟨_, rfl, ea_cons (ee_int (ea_nil (⟨Nat.le_of_ble_eq_true rfl, ea_nil (⟨ua, ((-1 : Int) : Rat), rfl, ⟨?_, ?_⟩, ea_nil (⟨e.at_, ua.smul ((-1 : Int) : Rat), rfl, ⟨?_, ?_⟩, ?_⟩)⟩)⟩)))⟩)))))))))⟩)))))))
        · exact us1
        · exact (m1.sz (k := 200) (by decide) (by decide) (by decide)).mono (by decide)
        · exact es1
        · exact szall (bqs un (by decide) (by decide) (by decide)) (by decide)
        refine eb_one (es_asg 3 rfl (by kernel_rfl) (.inl rfl) (ee_call (k__law_plus A) (Nat.le_of_ble_eq_true rfl) (by kernel_rfl) (ea_cons (ee_name 3 rfl (by kernel_rfl) rfl (ea_cons (ee_call (k__law_scaled A) (Nat.le_of_ble_eq_true rfl) (by kernel_rfl) (ea_cons (ee_name 8 rfl (by kernel_rfl) rfl (ea_cons (ee_callC 0 (k__law_number A) (Nat.le_of_ble_eq_true rfl) (by kernel_rfl) rfl (by kernel_rfl) rfl (ea_cons (ee_int (ea_nil (⟨_, rfl, ⟨hw, 2, rfl, Nat.le_refl _, fun nn _ nnh hw => ea_nil (⟨e.at_.add (ua.smul ((-1 : Int) : Rat)), nn, rfl, ⟨?_, ?_⟩, ea_nil (⟨ua, (e.at_.add (ua.smul ((-1 : Int) : Rat))).smul nn, rfl, ⟨?_, ?_⟩, ?_⟩)⟩)⟩⟩))))))))))))))
        · exact ss
        · exact (nnh.sz (k := 200) (by decide) (by decide) (by decide)).mono (by decide)
        · exact us1
        · exact szall (bqs (smul_bq sb nnh) (by decide) (by decide) (by decide)) (by decide)
        · exact ⟨_, _, _, _, _, _, hw, mp_step hm eb.a nnh, rfl⟩
      · rintro en2 ⟨w, ua, s6, s7, s8, s9, hw, hm, rfl⟩
        rw [List.length_map] at hm
        have hi8 := List.length_filter_le (fun x : Pin => PyData.eqv (tr x.al) (tr p.al) && !(PyData.eqv (tr x.at_) (tr p.at_))) ps
        have u8 := mp_8 hm (by omega)
        refine eb_one (es_ret (ee_tup (ea_cons (ee_name 3 rfl (by kernel_rfl) rfl (ea_cons (ee_name 4 rfl (by kernel_rfl) rfl (ea_nil (⟨Nat.le_of_ble_eq_true rfl, ⟨_, _, _, rfl, rfl, ?_⟩⟩))))))))
        exact q ua p.al _ (mb_of pb.z u8 pb.l (by decide) (by decide) (by decide) (by decide) (by decide) (by decide) (by decide) (by decide) (by decide) (by decide)) hw
    · refine eb_nil ?_
      refine eb_one (es_ret (ee_tup (ea_cons (ee_callC 0 (k__law_point A) (Nat.le_of_ble_eq_true rfl) (by kernel_rfl) rfl (by kernel_rfl) rfl (ea_cons (ee_name 2 rfl (by kernel_rfl) rfl (ea_nil (⟨_, rfl, ⟨hw, k, rfl, hk2, fun pt _ pth hw => ea_cons (ee_callC 0 (k__law_along A) (Nat.le_of_ble_eq_true rfl) (by kernel_rfl) rfl (by kernel_rfl) rfl (ea_cons (ee_name 2 rfl (by kernel_rfl) rfl (ea_nil (⟨_, rfl, ⟨hw, k, rfl, hk2, fun al _ alz alh hw => ea_nil (⟨Nat.le_of_ble_eq_true rfl, ⟨_, _, _, rfl, rfl, ?_⟩⟩)⟩⟩)))))⟩⟩))))))))
      exact q pt al _ (mb_of alz pth alh (by decide) (by decide) (by decide) (by decide) (by decide) (by decide) (by decide) (by decide) (by decide) (by decide)) hw
end Sp
namespace Sp
open PySem PySem.Spec PyProof.Rows L2 Ly SV
variable {g : Gc}

theorem k__law_well (A : Al g) : KnowsN g "_law_well" 1 ["_law_script", "_law_turn"] (fun ds post => ∃ (ns : List Int) (t : Int), ds = [.list (ns.map .int), .int t] ∧ (0 ≤ t ∧ t < 2) ∧ ∀ ys, Well ys → post ys) := by
  refine Knows.mkN A.d__law_well sc__law_well (fun ds post h => by obtain ⟨_, _, rfl, _⟩ := h; rfl) ?_
  rintro ds post ⟨ns, t, rfl, ⟨t0, t1⟩, q⟩
  refine eb_cons (es_asg 2 rfl (by kernel_rfl) (.inl rfl) (ee_add (ee_int (ee_mul (ee_int (ee_name 1 rfl (by kernel_rfl) rfl (⟨_, _, rfl, rfl, ⟨?_, ?_⟩, ⟨_, _, rfl, rfl, ?_⟩⟩)))))))
  · exact Bd.sm (by decide)
  · exact bd_small (by omega) (by omega) (by decide)
  refine eb_cons (es_for (ei_list (EvN.frz (en_slice (ee_name 0 rfl (by kernel_rfl) rfl (ee_int (⟨_, rfl, ⟨_, rfl, fun _ _ => ⟨_, rfl, ⟨fun i en => ∃ (z : Int) (s3 s4 : Sl), (0 ≤ z ∧ z < 1000000007) ∧ en = [.dat (.list (ns.map .int)), .dat (.int t), .dat (.int z), s3, s4], ⟨_, _, _, ?_, rfl⟩, ?_, ?_⟩⟩⟩⟩)))))))
  · omega
  · rintro i d en2 hd ⟨z, s3, s4, hz, rfl⟩
    rw [cutD_map] at hd
    obtain ⟨n, hn, rfl⟩ := map_get hd
    refine eg_name 3 rfl (by kernel_rfl) (.inl rfl) trivial (?_)
    refine eb_one (es_asg 2 rfl (by kernel_rfl) (.inl rfl) (ee_mod (ee_callTy bc_int (by kernel_rfl) A.f_int (by kernel_rfl) (ea_cons (ee_add (ee_add (ee_mul (ee_name 2 rfl (by kernel_rfl) rfl (ee_int (⟨_, _, rfl, rfl, ⟨?_, ?_⟩, ee_mod (ee_callTy bc_int (by kernel_rfl) A.f_int (by kernel_rfl) (ea_cons (ee_name 3 rfl (by kernel_rfl) rfl (ea_nil (⟨_, .inl ⟨_, rfl, rfl⟩, ee_int (⟨_, _, rfl, rfl, ?_, ⟨_, _, rfl, rfl, ee_int (⟨_, _, rfl, rfl, ea_nil (⟨_, .inl ⟨_, rfl, rfl⟩, ee_int (⟨_, _, rfl, rfl, ?_, ?_⟩)⟩)⟩)⟩⟩)⟩)))))⟩))))))))))
    · exact bd_small (by omega) (by omega) (by decide)
    · exact Bd.sm (by decide)
    · decide
    · decide
    · exact ⟨_, _, _, ⟨Int.emod_nonneg _ (by decide), Int.emod_lt_of_pos _ (by decide)⟩, rfl⟩
  · rintro en2 ⟨z, s3, s4, hz, rfl⟩
    refine eb_cons (es_asg 4 rfl (by kernel_rfl) (.inl rfl) (ee_if (et_cmp cp_lt (nomark _) (ee_name 1 rfl (by kernel_rfl) rfl (ee_callB bc_len (by kernel_rfl) A.f_len (by kernel_rfl) (ea_cons (ee_name 0 rfl (by kernel_rfl) rfl (ea_nil (⟨_, ⟨_, _, rfl, rfl, rfl⟩, ⟨_, ⟨_, _, rfl, rfl, rfl⟩, ⟨fun hk => ?_, fun hk => ?_⟩⟩⟩)))))))))
    · have hl : t < (((ns.map PyData.int).length : Nat) : Int) := of_decide_eq_true hk
      obtain ⟨n0, r, rfl, hn, hi⟩ := ix_all (es := ns.map PyData.int) t0 hl
      obtain ⟨n, hn2, rfl⟩ := map_get hn
      refine ee_callB bc_abs (by kernel_rfl) A.f_abs (by kernel_rfl) (ea_cons (ee_callTy bc_int (by kernel_rfl) A.f_int (by kernel_rfl) (ea_cons (ee_ix (ee_name 0 rfl (by kernel_rfl) rfl (ee_name 1 rfl (by kernel_rfl) rfl (⟨_, _, _, rfl, rfl, hi, ea_nil (⟨_, .inl ⟨_, rfl, rfl⟩, ea_nil (⟨_, ⟨_, rfl, rfl⟩, ?_⟩)⟩)⟩)))))))
      refine eb_one (es_retN (en_lst (ea_cons (ee_if (et_cmp cp_ge (nomark _) (ee_name 4 rfl (by kernel_rfl) rfl (ee_pow (ee_int (ee_int (⟨_, _, rfl, rfl, ?_, ⟨_, ⟨_, _, rfl, rfl, rfl⟩, ⟨fun hk => ee_name 4 rfl (by kernel_rfl) rfl (ea_cons (ee_name 2 rfl (by kernel_rfl) rfl (ea_cons (ee_int (ea_nil (⟨Nat.le_of_ble_eq_true rfl, fun _ _ => ⟨_, _, rfl, ?_⟩⟩)))))), fun hk => ee_int (ea_cons (ee_name 2 rfl (by kernel_rfl) rfl (ea_cons (ee_int (ea_nil (⟨Nat.le_of_ble_eq_true rfl, fun _ _ => ⟨_, _, rfl, ?_⟩⟩))))))⟩⟩⟩))))))))))
      · decide
      · exact q _ ⟨_, _, _, rfl, hz⟩
      · exact q _ ⟨_, _, _, rfl, hz⟩
    · refine ee_int (?_)
      refine eb_one (es_retN (en_lst (ea_cons (ee_if (et_cmp cp_ge (nomark _) (ee_name 4 rfl (by kernel_rfl) rfl (ee_pow (ee_int (ee_int (⟨_, _, rfl, rfl, ?_, ⟨_, ⟨_, _, rfl, rfl, rfl⟩, ⟨fun hk => ee_name 4 rfl (by kernel_rfl) rfl (ea_cons (ee_name 2 rfl (by kernel_rfl) rfl (ea_cons (ee_int (ea_nil (⟨Nat.le_of_ble_eq_true rfl, fun _ _ => ⟨_, _, rfl, ?_⟩⟩)))))), fun hk => ee_int (ea_cons (ee_name 2 rfl (by kernel_rfl) rfl (ea_cons (ee_int (ea_nil (⟨Nat.le_of_ble_eq_true rfl, fun _ _ => ⟨_, _, rfl, ?_⟩⟩))))))⟩⟩⟩))))))))))
      · decide
      · exact q _ ⟨_, _, _, rfl, hz⟩
      · exact q _ ⟨_, _, _, rfl, hz⟩
end Sp
namespace Ly
open PySem PySem.Spec PyProof.Rows L2
variable {c : Cs}
theorem v_str_dec {i j : Str} : decide (V.str i = V.str j) = decide (i = j) := by
  by_cases h : i = j
  · subst h; simp
  · rw [decide_eq_false h, decide_eq_false fun z => h (V.str.inj z)]
theorem cp_neS : Cp c .NotEq fun d e k => ∃ i j : Str, d = .str i ∧ e = .str j ∧ k = !decide (i = j) := fun X _ => ⟨_, op_ne, fun I H x y d e b Q _ r1 r2 ⟨i, j, e1, e2, e3⟩ hq => by
  subst e1 e2 e3
  cases r1
  cases r2
  exact ⟨rfl, by rw [v_str_dec]; exact hq⟩⟩
end Ly
namespace Sp
open PySem PySem.Spec PyProof.Rows L2 Ly SV
variable {g : Gc}
theorem pk4 {i : Nat} {r : PyData} (h : [PyData.int 0, .int 0, .int 1, .int 2][i]? = some r) : ∃ k : Nat, k ≤ 2 ∧ r = .int ((k : Nat) : Int) := by
  match i, h with
  | 0, h => cases h; exact ⟨0, by decide, rfl⟩
  | 1, h => cases h; exact ⟨0, by decide, rfl⟩
  | 2, h => cases h; exact ⟨1, by decide, rfl⟩
  | 3, h => cases h; exact ⟨2, by decide, rfl⟩
/-- what the law has drawn -/
structure Rgt (ps : List Pin) (u v wu wv : V3) : Prop where
  n0 : 0 < ps.length
  n8 : ps.length ≤ 8
  pb : ∀ p, p ∈ ps → PB p
  ok : ∀ p, p ∈ ps → p.ok
  sl : ∀ p, p ∈ ps → Sz 60 p.lo ∧ Sz 60 p.hi
  F : Fits ps (six wv wu)
  mb : MB u v
  bu : wu.all BW
  bv : wv.all BW
theorem rgt_of {ps qs : List Pin} {u v wu wv : V3} (n0 : 0 < ps.length) (n8 : ps.length ≤ 8) (pb : ∀ p, p ∈ ps → PB p) (ql : qs.length = ps.length) (qr : ∀ (j : Nat) p p', ps[j]? = some p → qs[j]? = some p' → StR wu wv p p') (mb : MB u v) (bu : wu.all BW) (bv : wv.all BW) :
    Rgt qs u v wu wv ∧ ps.map bareD = qs.map bareD := by
  have at' : ∀ (j : Nat) p', qs[j]? = some p' → ∃ p, ps[j]? = some p ∧ p ∈ ps ∧ StR wu wv p p' := fun j p' h => by
    have hj := (List.getElem?_eq_some_iff.mp h).1
    have hj' : j < ps.length := by omega
    exact ⟨_, List.getElem?_eq_getElem hj', List.getElem_mem hj', qr j _ p' (List.getElem?_eq_getElem hj') h⟩
  have pb' : ∀ p', p' ∈ qs → PB p' ∧ p'.lo ≤ pw p' wu wv ∧ pw p' wu wv ≤ p'.hi ∧ Sz 60 p'.lo ∧ Sz 60 p'.hi := fun p' h => by
    obtain ⟨j, hj⟩ := List.getElem?_of_mem h
    obtain ⟨p, _, hp, S⟩ := at' j p' hj
    have B := pb p hp
    have e : pw p' wu wv = pw p wu wv := by unfold pw; rw [S.a, S.l]
    exact ⟨⟨by rw [S.a]; exact B.a, by rw [S.l]; exact B.l, by rw [S.l]; exact B.z⟩, by rw [e]; exact S.le, by rw [e]; exact S.ge, S.lo, S.hi⟩
  refine ⟨⟨by omega, by omega, fun p h => (pb' p h).1, fun p h => ?_, fun p h => ⟨(pb' p h).2.2.2.1, (pb' p h).2.2.2.2⟩, fun a ha => ?_, mb, bu, bv⟩, ?_⟩
  · obtain ⟨B, l1, l2, s1, s2⟩ := pb' p h
    exact ⟨B.z, szall (bqs B.a (by decide) (by decide) (by decide)) (by decide), szall (bqs B.l (by decide) (by decide) (by decide)) (by decide), s1.mono (by decide), s2.mono (by decide), Rat.le_trans l1 l2⟩
  · obtain ⟨B, l1, l2, s1, s2⟩ := pb' _ (pA_mem ha)
    exact ⟨l1, l2⟩
  · refine List.ext_getElem? fun j => ?_
    rw [List.getElem?_map, List.getElem?_map]
    by_cases hj : j < qs.length
    · obtain ⟨p, e, _, S⟩ := at' j _ (List.getElem?_eq_getElem hj)
      rw [e, List.getElem?_eq_getElem hj]
      show some (bareD p) = some (bareD qs[j])
      unfold bareD
      rw [S.a, S.l]
    · rw [List.getElem?_eq_none (by omega), List.getElem?_eq_none (by omega)]
section
variable {ps : List Pin} {u v wu wv : V3}
theorem Rgt.rb (R : Rgt ps u v wu wv) {p : Pin} (hp : p ∈ ps) {q : Rat} (hq : q ∈ p.row) : Rb q := by
  have B := R.pb p hp
  have c : (p.at_.cross p.al).all Rb := mono_bq (cross_bq B.a B.l) (by decide +kernel) (by decide +kernel)
  have l : p.al.all Rb := mono_bq B.l (by decide +kernel) (by decide +kernel)
  simp only [List.mem_cons, List.not_mem_nil, or_false] at hq
  rcases hq with rfl | rfl | rfl | rfl | rfl | rfl
  · exact l.1
  · exact l.2.1
  · exact l.2.2
  · exact c.1
  · exact c.2.1
  · exact c.2.2
theorem Rgt.G (R : Rgt ps u v wu wv) : GOk ps (row6 u v) := ⟨R.n8, rfl, fun p hp q hq => R.rb hp hq, R.sl, R.mb.r⟩
theorem rb_90 {q : Rat} (h : Rb q) : Sz 90 q := h.sz (by decide +kernel) (by decide +kernel) (by decide +kernel)
theorem Rgt.r90 (R : Rgt ps u v wu wv) {p : Pin} (hp : p ∈ ps) {q : Rat} (hq : q ∈ p.row) : Sz 90 q := rb_90 (R.rb hp hq)
theorem MB.all (h : MB u v) : v.all (Sz 90) ∧ (u.cross v).all (Sz 90) := by
  have r := fun q hq => rb_90 (h.r q hq)
  simp only [List.mem_cons, List.not_mem_nil, or_false] at r
  exact ⟨⟨r _ (.inl rfl), r _ (.inr (.inl rfl)), r _ (.inr (.inr (.inl rfl)))⟩, r _ (.inr (.inr (.inr (.inl rfl)))), r _ (.inr (.inr (.inr (.inr (.inl rfl))))), r _ (.inr (.inr (.inr (.inr (.inr rfl)))))⟩
theorem mapPA {β : Type} (F : Pin → β) : ps.map F = (List.range ps.length).map fun a => F (pA ps a) := by
  refine List.ext_getElem? fun i => ?_
  by_cases h : i < ps.length
  · have e : pA ps i = ps[i] := by
      show ps.getD i p0 = _
      rw [List.getD_eq_getElem?_getD, List.getElem?_eq_getElem h]
      rfl
    rw [List.getElem?_map, List.getElem?_map, List.getElem?_range h, List.getElem?_eq_getElem h]
    show some (F ps[i]) = some (F (pA ps i))
    rw [e]
  · rw [List.getElem?_eq_none (by rw [List.length_map]; omega), List.getElem?_eq_none (by rw [List.length_map, List.length_range]; omega)]
theorem rank_sh : rkN ((ps.map pushR).map clr) 6 < rkN ((ps.map pushR ++ [six v (u.cross v)]).map clr) 6 ↔ ¬ ∃ x, Sh (rowsOf ps) (row6 u v) x := by
  rw [List.map_append, List.map_map, mapPA (clr ∘ pushR)]
  refine (rk_law (q := fun a => pushR (pA ps a)) (u := six v (u.cross v))).trans (not_congr (exists_congr fun x => ?_))
  exact (sh_iff (ps := ps) (wd := row6 u v)).symm
theorem mix_sh {x : Nat → Rat} (h : Sh (rowsOf ps) (row6 u v) x) : mixV ps x = (v, u.cross v) := by
  have e := sh_iff.mp h
  unfold mixV mixA
  rw [← e 0 (by decide), ← e 1 (by decide), ← e 2 (by decide), ← e 3 (by decide), ← e 4 (by decide), ← e 5 (by decide)]
  rfl
theorem ngs_ngs (l : List Rat) : ngs (ngs l) = l := by
  unfold ngs
  rw [List.map_map]
  exact (List.map_congr_left fun a _ => by show - - a = a; grind).trans (List.map_id l)
theorem ngs_rg {n : Nat} {w : Nat → Rat} : ngs (rg n w) = rg n fun a => - w a := by
  unfold ngs rg
  rw [List.map_map]
  rfl
theorem sh_back {x : Nat → Rat} (h : Sh (rowsOf ps) (ngs (row6 u v)) x) : Sh (rowsOf ps) (row6 u v) (fun a => - x a) := by
  have := sh_neg h
  rw [ngs_ngs] at this
  exact this
theorem ngs_get {wd : List Rat} {i : Nat} : (ngs wd).getD i 0 = - wd.getD i 0 := by
  rw [List.getD_eq_getElem?_getD, List.getElem?_map, List.getD_eq_getElem?_getD]
  cases wd[i]? <;> rfl
theorem most_eq {w : Nat → Rat} : (sumQ ps.length fun a => w a * endA ps w true a) = worth ps w := end_most
theorem least_eq {w : Nat → Rat} : (sumQ ps.length fun a => (-w a) * endA ps (fun a => -w a) false a) = -worth ps w := end_least
theorem least_eq' {x : Nat → Rat} : (sumQ ps.length fun a => x a * endA ps x false a) = -worth ps (fun a => - x a) := by
  have := least_eq (ps := ps) (w := fun a => - x a)
  rw [neg_neg_fun x] at this
  rw [← this]
  refine sumQ_congr fun a _ => ?_
  rw [Rat.neg_neg]
theorem Rgt.hi (R : Rgt ps u v wu wv) {w : Nat → Rat} (h : Sh (rowsOf ps) (row6 u v) w) : (sumQ 6 fun i => six v (u.cross v) i * six wv wu i) ≤ worth ps w := fit_le R.F h
theorem Rgt.lo (R : Rgt ps u v wu wv) {w : Nat → Rat} (h : Sh (rowsOf ps) (ngs (row6 u v)) w) : -worth ps w ≤ sumQ 6 fun i => six v (u.cross v) i * six wv wu i := by
  have := fit_le R.F h
  have e : (sumQ 6 fun i => (ngs (row6 u v)).getD i 0 * six wv wu i) = - sumQ 6 fun i => six v (u.cross v) i * six wv wu i := by
    rw [← sumQ_neg]
    refine sumQ_congr fun i _ => ?_
    rw [ngs_get]
    show - (six v (u.cross v) i) * _ = _
    grind
  rw [e] at this
  grind
theorem Rgt.pwz (R : Rgt ps u v wu wv) : Sz 200 (sumQ 6 fun i => six v (u.cross v) i * six wv wu i) := by
  have r : ∀ i, i < 6 → Rb (six v (u.cross v) i) := fun i hi => R.mb.r _ (by
    show [v.x, v.y, v.z, (u.cross v).x, (u.cross v).y, (u.cross v).z].getD i 0 ∈ row6 u v
    exact getD_mem hi)
  have m : ∀ i, i < 6 → BW (six wv wu i) := six_all R.bv R.bu
  exact (sum_bq (N := 12 ^ 12 * 144) (M := 2 ^ 40 * 32) fun i hi => (r i hi).mul (m i hi)).sz (by decide +kernel) (by decide +kernel) (by decide +kernel)
theorem sum_sz {k : Nat} {f : Nat → Rat} : ∀ {n : Nat}, (∀ i, i < n → Sz k (f i)) → Sz (n * (k + 1) + 1) (sumQ n f)
  | 0, _ => by
    rw [Nat.zero_mul]
    exact ⟨by show (0 : Rat).num.natAbs < _; decide, by show (0 : Rat).den < _; decide⟩
  | n + 1, h => (sum_sz (n := n) fun i hi => h i (by omega)).add (h n (by omega)) (by rw [Nat.succ_mul]; omega)
theorem Rgt.wsz (R : Rgt ps u v wu wv) {x : Nat → Rat} (hx : ∀ i, i < ps.length → Sz 700 (x i)) (b : Bool) : Sz 9000 (sumQ ps.length fun a => x a * endA ps x b a) := by
  refine (sum_sz (k := 760) fun i hi => (hx i hi).mul (show Sz 60 (endA ps x b i) from ?_) (by decide)).mono ?_
  · unfold endA
    split
    · exact (R.sl _ (pA_mem hi)).2
    · exact (R.sl _ (pA_mem hi)).1
  · have := R.n8
    omega
end
theorem tf_t {b : Bool} {P Q : Prop} (h : b = true) (p : P) : (b = true → P) ∧ (b = false → Q) := ⟨fun _ => p, fun z => absurd (h.symm.trans z) (by decide)⟩
theorem tf_f {b : Bool} {P Q : Prop} (h : b = false) (q : Q) : (b = true → P) ∧ (b = false → Q) := ⟨fun z => absurd (h.symm.trans z) (by decide), fun _ => q⟩
theorem nd_t {p : Prop} [Decidable p] (h : p) : (!decide p) = false := by rw [decide_eq_true h]; rfl
theorem rk_t {a b : Nat} (h : a < b) : decide (((a : Nat) : Int) < ((b : Nat) : Int)) = true := decide_eq_true (by omega)
theorem rk_f {a b : Nat} (h : ¬ a < b) : decide (((a : Nat) : Int) < ((b : Nat) : Int)) = false := decide_eq_false (by omega)
theorem less1 {ps : List Pin} {wd : List Rat} {w x : Nat → Rat} (B : Best ps (ngs wd) w) (h : Sh (rowsOf ps) wd x) : decide (-worth ps w < sumQ ps.length fun a => x a * endA ps x false a) = false := by
  refine decide_eq_false ?_
  rw [least_eq']
  have := B.opt _ (sh_neg h)
  exact Rat.not_lt.mpr (by grind)
theorem less2 {ps : List Pin} {wd : List Rat} {w x : Nat → Rat} (B : Best ps wd w) (h : Sh (rowsOf ps) wd x) : decide ((sumQ ps.length fun a => x a * endA ps x true a) < worth ps w) = false := by
  refine decide_eq_false ?_
  rw [most_eq]
  exact Rat.not_lt.mpr (B.opt _ h)
theorem k9__law_is_less (A : Al g) : KnowsP g "_law_is_less" 1 ["_law_one", "_law_two"] (fun ds post => ∃ a b : Rat, ds = [fr a, fr b] ∧ (Sz 9000 a ∧ Sz 9000 b) ∧ post (.bool (decide (a < b)))) := by
  refine Knows.mkP A.d__law_is_less sc__law_is_less (fun ds post h => by obtain ⟨_, _, rfl, _⟩ := h; rfl) ?_
  rintro ds post ⟨a, b, rfl, ⟨h1, h2⟩, q⟩
  refine eb_one (es_ret (ee_cmp cp_lt (nomark _) (ee_mul (ee_ix (ee_name 0 rfl (by kernel_rfl) rfl (ee_int (⟨_, _, _, rfl, rfl, rfl, ee_ix (ee_name 1 rfl (by kernel_rfl) rfl (ee_int (⟨_, _, _, rfl, rfl, rfl, ⟨_, _, rfl, rfl, ⟨?_, ?_⟩, ee_mul (ee_ix (ee_name 1 rfl (by kernel_rfl) rfl (ee_int (⟨_, _, _, rfl, rfl, rfl, ee_ix (ee_name 0 rfl (by kernel_rfl) rfl (ee_int (⟨_, _, _, rfl, rfl, rfl, ⟨_, _, rfl, rfl, ⟨?_, ?_⟩, ⟨_, ⟨_, _, rfl, rfl, rfl⟩, ⟨_, rfl, ?_⟩⟩⟩⟩)))⟩))))⟩⟩)))⟩)))))))
  all_goals first
    | exact Szn h1 (by decide)
    | exact Szn h2 (by decide)
    | exact Szd h1 (by decide)
    | exact Szd h2 (by decide)
    | exact ⟨Szn h1 (by decide), Szn h2 (by decide)⟩
    | exact ⟨Szn h1 (by decide), Szd h2 (by decide)⟩
    | exact ⟨Szn h2 (by decide), Szd h1 (by decide)⟩
    | exact ⟨Szd h1 (by decide), Szd h2 (by decide)⟩
    | exact ⟨den_mul_ne a b, (Szd h1 (Nat.le_refl _)).mul (Szd h2 (Nat.le_refl _)) (by decide)⟩
    | skip
  show post (.bool (decide (_ < _))); rw [lt_dec]; exact q
theorem big_le : (2 : Nat) ^ 1900 ≤ 10 ^ 600 := by decide +kernel
theorem shown_sz {i : Int} (h : i.natAbs < 2 ^ 1900) : (PyData.shown (.int i)).length ≤ 601 ∧ PyData.weight (.int i) ≤ 1901 ∧ PyData.showable (.int i) = true := by
  refine ⟨?_, ?_, ?_⟩
  · have e := int_text_length_le10 (k := 600) (by decide) (Nat.lt_of_lt_of_le h big_le)
    show (Str.ofString (toString i)).length ≤ 601
    rw [PySem.ofString_length]; exact e
  · simp only [PyData.weight]
    split
    · omega
    · rename_i z
      have z1 : i.natAbs ≠ 0 := fun w => z (by simpa using w)
      have := (Nat.log2_lt z1).mpr h
      omega
  · simp only [PyData.showable, decide_eq_true_eq]
    by_cases z : i.natAbs = 0
    · rw [z]; decide
    · have := (Nat.log2_lt z).mpr h
      omega
theorem shown2 {a b : Rat} (ha : Sz 1900 a) (hb : Sz 1900 b) : isDisplay (.tuple [fr a, fr b]) = true ∧ PyData.showable (.tuple [fr a, fr b]) = true ∧ PyData.hasDict (.tuple [fr a, fr b]) = false ∧ PyData.depth (.tuple [fr a, fr b]) < 60 ∧ (PyData.shown (.tuple [fr a, fr b])).length ≤ sizeLine := by
  obtain ⟨a1, a2, a3⟩ := shown_sz (i := a.num) ha.1
  obtain ⟨a4, a5, a6⟩ := shown_sz (i := ((a.den : Nat) : Int)) (by rw [Int.natAbs_natCast]; exact ha.2)
  obtain ⟨b1, b2, b3⟩ := shown_sz (i := b.num) hb.1
  obtain ⟨b4, b5, b6⟩ := shown_sz (i := ((b.den : Nat) : Int)) (by rw [Int.natAbs_natCast]; exact hb.2)
  refine ⟨rfl, ?_, rfl, ?_, ?_⟩
  · show PyData.showable (.tuple [.tuple [.int a.num, .int ((a.den : Nat) : Int)], .tuple [.int b.num, .int ((b.den : Nat) : Int)]]) = true
    simp only [PyData.showable, PyData.showableAll, Bool.and_true] at a3 a6 b3 b6 ⊢
    rw [a3, a6, b3, b6]
    rfl
  · show PyData.depth (.tuple [.tuple [.int a.num, .int ((a.den : Nat) : Int)], .tuple [.int b.num, .int ((b.den : Nat) : Int)]]) < 60
    simp only [PyData.depth, PyData.depthAll]
    omega
  · have hl : PyData.leavesShort 601 (.tuple [fr a, fr b]) = true := by
      show PyData.leavesShort 601 (.tuple [.tuple [.int a.num, .int ((a.den : Nat) : Int)], .tuple [.int b.num, .int ((b.den : Nat) : Int)]]) = true
      simp only [PyData.leavesShort, PyData.leavesShortAll, decide_eq_true a1, decide_eq_true a4, decide_eq_true b1, decide_eq_true b4, Bool.and_true]
    refine Nat.le_trans (PyData.shown_le 601 (by decide) _ hl) ?_
    have hw : PyData.weight (.tuple [fr a, fr b]) ≤ 8000 := by
      show PyData.weight (.tuple [.tuple [.int a.num, .int ((a.den : Nat) : Int)], .tuple [.int b.num, .int ((b.den : Nat) : Int)]]) ≤ 8000
      simp only [PyData.weight, PyData.weightAll] at a2 a5 b2 b5 ⊢
      omega
    rw [show sizeLine = 16777216 from by decide +kernel]
    omega
end Sp
namespace Sp
open PySem PySem.Spec PyProof.Rows L2 Ly SV
variable {g : Gc}

theorem k__law_right (A : Al g) : KnowsC g "_law_right" 12 ["_law_well_here"] (fun xs ds post => Well xs ∧ ds = [] ∧ ∀ ys, post (.bool true) ys) := by
  refine Knows.mkC A.d__law_right sc__law_right (fun xs ds post h => by obtain ⟨_, rfl, _⟩ := h; rfl) ?_
  rintro a xs ds post ⟨hw, rfl, q⟩
  refine eb_cons (es_par2 1 2 rfl rfl (by decide) (by kernel_rfl) (by kernel_rfl) (ea_cons (ee_callC 0 (k__law_pick A) (Nat.le_of_ble_eq_true rfl) (by kernel_rfl) rfl (by kernel_rfl) rfl (ea_cons (ee_tup (ea_cons (ee_int (ea_cons (ee_int (ea_cons (ee_int (ea_cons (ee_int (ea_nil (⟨Nat.le_of_ble_eq_true rfl, ea_nil (⟨_, rfl, ⟨hw, false, [.int 0, .int 0, .int 1, .int 2], rfl, ⟨by decide, by decide⟩, fun i r _ hi hw => ?_⟩⟩)⟩)))))))))))))))
  obtain ⟨k, hk2, rfl⟩ := pk4 hi
  refine ea_cons (ee_cmp cp_eqI (nomark _) (ee_callC 0 (k__law_draw A) (Nat.le_of_ble_eq_true rfl) (by kernel_rfl) rfl (by kernel_rfl) rfl (ea_cons (ee_int (ea_nil (⟨_, rfl, ⟨hw, _, rfl, ⟨by decide, by decide⟩, fun nd _ nd0 nd1 hw => ee_int (⟨_, ⟨_, _, rfl, rfl, rfl⟩, ea_nil (⟨_, _, rfl, ?_⟩)⟩)⟩⟩))))))
  refine eb_cons (es_par2 3 4 rfl rfl (by decide) (by kernel_rfl) (by kernel_rfl) (ea_cons (ee_callC 0 (k__law_pins A) (Nat.le_of_ble_eq_true rfl) (by kernel_rfl) rfl (by kernel_rfl) rfl (ea_cons (ee_name 1 rfl (by kernel_rfl) rfl (ea_nil (⟨_, rfl, ⟨hw, k, rfl, hk2, fun ps _ hps hw => ea_cons (ee_callC 0 (k__law_way A) (Nat.le_of_ble_eq_true rfl) (by kernel_rfl) rfl (by kernel_rfl) rfl (ea_cons (ee_name 1 rfl (by kernel_rfl) rfl (ea_nil (⟨_, rfl, ⟨hw, k, rfl, hk2, fun wu wuv _ wuh wuvh hw => ea_nil (⟨_, _, rfl, ?_⟩)⟩⟩)))))⟩⟩)))))))
  refine eb_cons (es_par2 5 6 rfl rfl (by decide) (by kernel_rfl) (by kernel_rfl) (ea_cons (ee_callC 0 (k__law_stretched A) (Nat.le_of_ble_eq_true rfl) (by kernel_rfl) rfl (by kernel_rfl) rfl (ea_cons (ee_name 3 rfl (by kernel_rfl) rfl (ea_cons (ee_name 4 rfl (by kernel_rfl) rfl (ea_nil (⟨_, rfl, ⟨hw, ps, wu, wuv, rfl, ⟨hps.2.1, hps.2.2, wuh, wuvh⟩, fun qs _ ql qr hw => ea_cons (ee_callC 0 (k__law_sign A) (Nat.le_of_ble_eq_true rfl) (by kernel_rfl) rfl (by kernel_rfl) rfl (ea_cons (ee_name 3 rfl (by kernel_rfl) rfl (ea_cons (ee_name 1 rfl (by kernel_rfl) rfl (ea_nil (⟨_, rfl, ⟨hw, ps, k, rfl, ⟨hps.1, hps.2.1, hps.2.2, hk2⟩, fun mu mv _ mb hw => ea_nil (⟨_, _, rfl, ?_⟩)⟩⟩)))))))⟩⟩)))))))))
  obtain ⟨R, eqb⟩ := rgt_of hps.1 hps.2.1 hps.2.2 ql qr mb wuh wuvh
  refine eb_en [.cel a _, .dat (.int ((k : Nat) : Int)), .dat (.bool (decide (nd = 0))), .dat (.list (qs.map bareD)), .dat (linD (wu, wuv)), .dat (.tuple (qs.map pinD)), .dat (linD (mu, mv)), .no, .no, .no, .no, .no, .no, .no, .no] (by rw [← eqb]; rfl) ?_
  clear eqb ql qr
  refine eb_cons (es_par2 7 8 rfl rfl (by decide) (by kernel_rfl) (by kernel_rfl) (ea_cons (ee_call (k__law_line A) (Nat.le_of_ble_eq_true rfl) (by kernel_rfl) (ea_cons (ee_ix (ee_name 6 rfl (by kernel_rfl) rfl (ee_int (⟨_, _, _, rfl, rfl, rfl, ea_cons (ee_ix (ee_name 6 rfl (by kernel_rfl) rfl (ee_int (⟨_, _, _, rfl, rfl, rfl, ea_nil (⟨mu, mv, rfl, ⟨szall mb.u (by decide), szall mb.v (by decide)⟩, ea_cons ((en_lc [("_law_each", 14)] (by kernel_rfl) (lcq_map qs pushD rowD (ei_list (ee_call (k2__law_pushes A) (Nat.le_of_ble_eq_true rfl) (by kernel_rfl) (ea_cons (ee_name 3 rfl (by kernel_rfl) rfl (ea_nil (⟨qs, rfl, ⟨by have := R.n8; omega, fun p hp => ⟨(R.ok p hp).sa, (R.ok p hp).se⟩⟩, ⟨_, rfl, ⟨?_, ?_, fun p hp => eg_name 14 rfl (by kernel_rfl) (.inr rfl) (by decide) (ee_catT (ee_ix (ee_name 14 rfl (by kernel_rfl) rfl (ee_int (⟨_, _, _, rfl, rfl, rfl, ee_ix (ee_name 14 rfl (by kernel_rfl) rfl (ee_int (⟨_, _, _, rfl, rfl, rfl, ⟨_, _, rfl, rfl, ?_, ⟨rfl, rfl⟩⟩⟩)))⟩))))), fun _ _ => ea_nil (⟨_, _, rfl, ?_⟩)⟩⟩⟩)))))))).frz)⟩)⟩))))⟩))))))))
  · rfl
  · have := R.n8
    omega
  · exact Nat.le_of_ble_eq_true rfl
  refine eb_en [.cel a _, .dat (.int ((k : Nat) : Int)), .dat (.bool (decide (nd = 0))), .dat (.list (qs.map bareD)), .dat (linD (wu, wuv)), .dat (.tuple (qs.map pinD)), .dat (linD (mu, mv)), .dat (linD (mv, mu.cross mv)), .dat (.list (qs.map rowD)), .no, .no, .no, .no, .no, .no] rfl ?_
  have cc : GOk qs (row6 mu mv) ∧ (0 < qs.length ∧ ∀ p, p ∈ qs → p.ok) ∧ (∃ m, Fits qs m) ∧ mu.all (Sz 1000) ∧ mv.all (Sz 1000) ∧ mv ≠ V3.zero := ⟨R.G, ⟨R.n0, R.ok⟩, ⟨_, R.F⟩, szall mb.u (by decide), szall mb.v (by decide), mb.z⟩
  obtain ⟨q0, qr, e1⟩ : ∃ q0 qr, qs.map pushR = q0 :: qr := List.exists_cons_of_length_pos (by rw [List.length_map]; exact R.n0)
  have hr : rkN ((q0 :: qr).map clr) 6 < rkN ((q0 :: (qr ++ [six mv (mu.cross mv)])).map clr) 6 ↔ ¬ ∃ x, Sh (rowsOf qs) (row6 mu mv) x := by
    have := rank_sh (ps := qs) (u := mu) (v := mv)
    rw [e1] at this
    exact this
  have rd : qs.map rowD = (q0 :: qr).map (fun q => PyData.tuple (rg 6 fun i => fr (q i))) := by
    rw [← e1, List.map_map]; rfl
  have rd2 : [PyData.list (qs.map rowD)] = [PyData.list ((q0 :: qr).map fun q => PyData.tuple (rg 6 fun i => fr (q i)))] := by rw [rd]
  have rd1 : [PyData.list (qs.map rowD ++ [PyData.tuple ([fr mv.x, fr mv.y, fr mv.z] ++ [fr (mu.cross mv).x, fr (mu.cross mv).y, fr (mu.cross mv).z])])] = [PyData.list ((q0 :: (qr ++ [six mv (mu.cross mv)])).map fun q => PyData.tuple (rg 6 fun i => fr (q i)))] := by
    rw [rd, ← List.cons_append, List.map_append]; rfl
  have rs : ∀ q, q ∈ q0 :: qr → ∀ i, i < 6 → Sz 90 (q i) := fun q hq i hi => by
    rw [← e1] at hq
    obtain ⟨p, hp, rfl⟩ := List.mem_map.mp hq
    exact R.r90 hp (getD_mem (l := p.row) hi)
  have rl : qr.length + 1 ≤ 8 := by
    have := congrArg List.length e1
    have := R.n8
    rw [List.length_map, List.length_cons] at *
    omega
  have rs2 : qr.length ≤ 20 ∧ ∀ q, q ∈ q0 :: qr → ∀ i, i < 6 → Sz 90 (q i) := ⟨by omega, rs⟩
  have rs1 : (qr ++ [six mv (mu.cross mv)]).length ≤ 20 ∧ ∀ q, q ∈ q0 :: (qr ++ [six mv (mu.cross mv)]) → ∀ i, i < 6 → Sz 90 (q i) := ⟨by rw [List.length_append]; show _ + 1 ≤ 20; omega, fun q hq i hi => by
    rcases List.mem_append.mp (show q ∈ (q0 :: qr) ++ [six mv (mu.cross mv)] from hq) with h | h
    · exact rs q h i hi
    · cases List.mem_singleton.mp h
      exact rb_90 (mb.r _ (getD_mem (l := row6 mu mv) hi))⟩
  have ln1 : (qs.map rowD).length + [PyData.tuple ([fr mv.x, fr mv.y, fr mv.z] ++ [fr (mu.cross mv).x, fr (mu.cross mv).y, fr (mu.cross mv).z])].length ≤ 1000 := by
    have := R.n8
    rw [List.length_map]
    show _ + 1 ≤ 1000
    omega
  have bw1 : ∀ {p : V3}, p.all BW → p.all (Sz 100) := fun h => sz_1 h (by decide) (by decide) (by decide)
  have pz : mv.all (Sz 100) ∧ (mu.cross mv).all (Sz 100) ∧ wu.all (Sz 100) ∧ wuv.all (Sz 100) := ⟨szall mb.all.1 (by decide), szall mb.all.2 (by decide), bw1 wuh, bw1 wuvh⟩
  by_cases hx : ∃ x, Sh (rowsOf qs) (row6 mu mv) x
  · refine eb_cons (es_asg 9 rfl (by kernel_rfl) (.inl rfl) (ee_if (et_val (ee_name 2 rfl (by kernel_rfl) rfl (⟨_, rfl, ⟨fun hk => ee_callKW (kk_range_weights A) (Nat.le_of_ble_eq_true rfl) (by kernel_rfl) (ee_name 5 rfl (by kernel_rfl) rfl (ee_name 6 rfl (by kernel_rfl) rfl (⟨qs, mu, mv, rfl, cc, fun hno => absurd hx hno, fun w w' B B' => ?_⟩))), fun hk => ee_call (k_range_weights A) (Nat.le_of_ble_eq_true rfl) (by kernel_rfl) (ea_cons (ee_name 5 rfl (by kernel_rfl) rfl (ea_cons (ee_name 6 rfl (by kernel_rfl) rfl (ea_nil (⟨qs, mu, mv, rfl, cc, fun hno => absurd hx hno, fun w w' B B' => ?_⟩))))))⟩⟩)))))
    · rw [ngs_rg]
      refine eb_cons (es_par2 10 11 rfl rfl (by decide) (by kernel_rfl) (by kernel_rfl) (ea_cons (ee_call (k_mark_shares A) (Nat.le_of_ble_eq_true rfl) (by kernel_rfl) (ea_cons (ee_name 5 rfl (by kernel_rfl) rfl (ea_cons (ee_name 6 rfl (by kernel_rfl) rfl (ea_nil (⟨qs, mu, mv, rfl, cc, fun hno => absurd hx hno, fun x hx1 hxz => ea_cons (ee_callKW (kk_mark_range A) (Nat.le_of_ble_eq_true rfl) (by kernel_rfl) (ee_name 6 rfl (by kernel_rfl) rfl (ee_name 5 rfl (by kernel_rfl) rfl (⟨qs, mu, mv, rfl, cc, fun hno => absurd hx hno, fun w2 w2' B2 B2' => ea_nil (⟨_, _, rfl, ?_⟩)⟩))))⟩)))))))))
      rw [worth_same B B2, worth_same B' B2']
      refine eb_en [.cel a _, .dat (.int ((k : Nat) : Int)), .dat (.bool (decide (nd = 0))), .dat (.list (qs.map bareD)), .dat (linD (wu, wuv)), .dat (.tuple (qs.map pinD)), .dat (linD (mu, mv)), .dat (linD (mv, mu.cross mv)), .dat (.list (qs.map rowD)), .dat (.tuple [frs (rg qs.length fun a => - w' a), frs (rg qs.length w)]), .dat (frs (rg qs.length x)), .dat (.tuple [fr (-worth qs w'), fr (worth qs w)]), .no, .no, .no] rfl ?_
      refine eb_cons (es_if (et_cmp cp_gt (nomark _) (ee_call (k__law_rank A) (Nat.le_of_ble_eq_true rfl) (by kernel_rfl) (ea_cons (EvN.frz (en_catL (ee_name 8 rfl (by kernel_rfl) rfl ((en_lst (ea_cons (ee_catT (ee_ix (ee_name 7 rfl (by kernel_rfl) rfl (ee_int (⟨_, _, _, rfl, rfl, rfl, ee_ix (ee_name 7 rfl (by kernel_rfl) rfl (ee_int (⟨_, _, _, rfl, rfl, rfl, ⟨_, _, rfl, rfl, ?_, ea_nil (⟨Nat.le_of_ble_eq_true rfl, fun _ _ => ⟨_, _, rfl, rfl, ?_, fun _ _ => ea_nil (⟨q0, qr ++ [six mv (mu.cross mv)], rd1, rs1, ee_call (k__law_rank A) (Nat.le_of_ble_eq_true rfl) (by kernel_rfl) (ea_cons (ee_name 8 rfl (by kernel_rfl) rfl (ea_nil (⟨q0, qr, rd2, rs2, ⟨_, ⟨_, _, rfl, rfl, rfl⟩, tf_f (rk_f (fun z => hr.mp z hx)) (eb_nil (?_))⟩⟩))))⟩)⟩⟩)⟩⟩)))⟩))))))).frz))))))))
      · exact Nat.le_of_ble_eq_true rfl
      · exact ln1
      refine eb_cons (es_if (et_W (ew_or (et_not (et_val (ee_isi (T := "tuple") (by decide) (by kernel_rfl) A.f_isinstance (by kernel_rfl) A.f_tuple (by kernel_rfl) (ee_name 9 rfl (by kernel_rfl) rfl (⟨_, rfl, ⟨fun z => (by cases z), fun _ => ew_or (et_cmp cp_neI (nomark _) (ee_callB bc_len (by kernel_rfl) A.f_len (by kernel_rfl) (ea_cons (ee_name 9 rfl (by kernel_rfl) rfl (ea_nil (⟨_, ⟨_, _, rfl, rfl, rfl⟩, ee_int (⟨_, ⟨_, _, rfl, rfl, rfl⟩, ⟨fun z => (by cases z), fun _ => ew_or1 (et_not (et_val (ee_call (k__law_shared A) (Nat.le_of_ble_eq_true rfl) (by kernel_rfl) (ea_cons (ee_name 5 rfl (by kernel_rfl) rfl (ea_cons (ee_name 7 rfl (by kernel_rfl) rfl (ea_cons (ee_name 10 rfl (by kernel_rfl) rfl (ea_nil (⟨qs, (mv, mu.cross mv), x, rfl, ⟨R.n8, fun p hp => ⟨(R.ok p hp).sa, (R.ok p hp).se⟩, fun p hp q hq => R.r90 hp hq, fun i hi => (hxz i).mono (by decide)⟩, ⟨_, rfl, tf_f (nd_t (mix_sh hx1)) (eb_nil (?_))⟩⟩)))))))))))⟩⟩)⟩))))))⟩⟩))))))))
      refine eb_cons (es_if (et_W (ew_or (et_not (et_val (ee_call (k__law_shared A) (Nat.le_of_ble_eq_true rfl) (by kernel_rfl) (ea_cons (ee_name 5 rfl (by kernel_rfl) rfl (ea_cons (ee_name 7 rfl (by kernel_rfl) rfl (ea_cons (ee_ix (ee_name 9 rfl (by kernel_rfl) rfl (ee_int (⟨_, _, _, rfl, rfl, rfl, ea_nil (⟨qs, (mv, mu.cross mv), (fun a => - w' a), rfl, ⟨R.n8, fun p hp => ⟨(R.ok p hp).sa, (R.ok p hp).se⟩, fun p hp q hq => R.r90 hp hq, fun i hi => (B'.sz i hi).neg⟩, ⟨_, rfl, tf_f (nd_t (mix_sh (sh_back B'.sh))) (ew_or1 (et_not (et_val (ee_call (k__law_shared A) (Nat.le_of_ble_eq_true rfl) (by kernel_rfl) (ea_cons (ee_name 5 rfl (by kernel_rfl) rfl (ea_cons (ee_name 7 rfl (by kernel_rfl) rfl (ea_cons (ee_ix (ee_name 9 rfl (by kernel_rfl) rfl (ee_int (⟨_, _, _, rfl, rfl, rfl, ea_nil (⟨qs, (mv, mu.cross mv), w, rfl, ⟨R.n8, fun p hp => ⟨(R.ok p hp).sa, (R.ok p hp).se⟩, fun p hp q hq => R.r90 hp hq, fun i hi => B.sz i hi⟩, ⟨_, rfl, tf_f (nd_t (mix_sh B.sh)) (eb_nil (?_))⟩⟩)⟩)))))))))))))⟩⟩)⟩)))))))))))))))
      refine eb_cons (es_par2 12 13 rfl rfl (by decide) (by kernel_rfl) (by kernel_rfl) (ea_cons (ee_call (k__law_worth A) (Nat.le_of_ble_eq_true rfl) (by kernel_rfl) (ea_cons (ee_name 5 rfl (by kernel_rfl) rfl (ea_cons (ee_ix (ee_name 9 rfl (by kernel_rfl) rfl (ee_int (⟨_, _, _, rfl, rfl, rfl, ea_cons (ee_bool (ea_nil (⟨qs, (fun a => - w' a), false, rfl, ⟨R.n8, R.sl, fun i hi => (B'.sz i hi).neg⟩, ea_cons (ee_call (k__law_worth A) (Nat.le_of_ble_eq_true rfl) (by kernel_rfl) (ea_cons (ee_name 5 rfl (by kernel_rfl) rfl (ea_cons (ee_ix (ee_name 9 rfl (by kernel_rfl) rfl (ee_int (⟨_, _, _, rfl, rfl, rfl, ea_cons (ee_bool (ea_nil (⟨qs, w, true, rfl, ⟨R.n8, R.sl, fun i hi => B.sz i hi⟩, ea_nil (⟨_, _, rfl, ?_⟩)⟩)))⟩))))))))⟩)))⟩))))))))))
      rw [least_eq, most_eq]
      refine eb_en [.cel a _, .dat (.int ((k : Nat) : Int)), .dat (.bool (decide (nd = 0))), .dat (.list (qs.map bareD)), .dat (linD (wu, wuv)), .dat (.tuple (qs.map pinD)), .dat (linD (mu, mv)), .dat (linD (mv, mu.cross mv)), .dat (.list (qs.map rowD)), .dat (.tuple [frs (rg qs.length fun a => - w' a), frs (rg qs.length w)]), .dat (frs (rg qs.length x)), .dat (.tuple [fr (-worth qs w'), fr (worth qs w)]), .dat (fr (-worth qs w')), .dat (fr (worth qs w)), .no] rfl ?_
      refine eb_cons (es_if (et_W (ew_or (et_cmp cp_neS (nomark _) (ee_callB bc_repr (by kernel_rfl) A.f_repr (by kernel_rfl) (ea_cons (ee_name 11 rfl (by kernel_rfl) rfl (ea_nil (⟨_, ⟨_, rfl, shown2 B'.wz.neg B.wz, rfl⟩, ee_callB bc_repr (by kernel_rfl) A.f_repr (by kernel_rfl) (ea_cons (ee_tup (ea_cons (ee_name 12 rfl (by kernel_rfl) rfl (ea_cons (ee_name 13 rfl (by kernel_rfl) rfl (ea_nil (⟨Nat.le_of_ble_eq_true rfl, ea_nil (⟨_, ⟨_, rfl, shown2 B'.wz.neg B.wz, rfl⟩, ⟨_, ⟨_, _, rfl, rfl, rfl⟩, tf_f (nd_t rfl) (ew_or1 (et_not (et_val (ee_call (k__law_within A) (Nat.le_of_ble_eq_true rfl) (by kernel_rfl) (ea_cons (ee_name 11 rfl (by kernel_rfl) rfl (ea_cons (ee_call (k__law_power A) (Nat.le_of_ble_eq_true rfl) (by kernel_rfl) (ea_cons (ee_name 7 rfl (by kernel_rfl) rfl (ea_cons (ee_name 4 rfl (by kernel_rfl) rfl (ea_nil (⟨mv, mu.cross mv, wu, wuv, rfl, pz, ea_nil (⟨-worth qs w', worth qs w, _, rfl, ⟨B'.wz.neg.mono (by decide), B.wz.mono (by decide), R.pwz.mono (by decide), R.lo B'.sh, R.hi B.sh⟩, ⟨_, rfl, tf_f rfl (eb_nil (?_))⟩⟩)⟩))))))))))))))⟩⟩)⟩))))))))⟩)))))))))
      refine eb_cons (es_if (et_W (ew_or (et_val (ee_call (k9__law_is_less A) (Nat.le_of_ble_eq_true rfl) (by kernel_rfl) (ea_cons (ee_name 12 rfl (by kernel_rfl) rfl (ea_cons (ee_call (k__law_worth A) (Nat.le_of_ble_eq_true rfl) (by kernel_rfl) (ea_cons (ee_name 5 rfl (by kernel_rfl) rfl (ea_cons (ee_name 10 rfl (by kernel_rfl) rfl (ea_cons (ee_bool (ea_nil (⟨qs, x, false, rfl, ⟨R.n8, R.sl, fun i hi => (hxz i).mono (by decide)⟩, ea_nil (⟨_, _, rfl, ⟨B'.wz.neg.mono (by decide), R.wsz (fun i hi => (hxz i).mono (by decide)) false⟩, ⟨_, rfl, tf_f (less1 B' hx1) (ew_or1 (et_val (ee_call (k9__law_is_less A) (Nat.le_of_ble_eq_true rfl) (by kernel_rfl) (ea_cons (ee_call (k__law_worth A) (Nat.le_of_ble_eq_true rfl) (by kernel_rfl) (ea_cons (ee_name 5 rfl (by kernel_rfl) rfl (ea_cons (ee_name 10 rfl (by kernel_rfl) rfl (ea_cons (ee_bool (ea_nil (⟨qs, x, true, rfl, ⟨R.n8, R.sl, fun i hi => (hxz i).mono (by decide)⟩, ea_cons (ee_name 13 rfl (by kernel_rfl) rfl (ea_nil (⟨_, _, rfl, ⟨R.wsz (fun i hi => (hxz i).mono (by decide)) true, B.wz.mono (by decide)⟩, ⟨_, rfl, tf_f (less2 B hx1) (eb_nil (?_))⟩⟩)))⟩)))))))))))))⟩⟩)⟩)))))))))))))))))
      exact eb_one (es_ret (ee_bool (⟨_, _, _, rfl, rfl, q _⟩)))
    · rw [ngs_rg]
      refine eb_cons (es_par2 10 11 rfl rfl (by decide) (by kernel_rfl) (by kernel_rfl) (ea_cons (ee_call (k_mark_shares A) (Nat.le_of_ble_eq_true rfl) (by kernel_rfl) (ea_cons (ee_name 5 rfl (by kernel_rfl) rfl (ea_cons (ee_name 6 rfl (by kernel_rfl) rfl (ea_nil (⟨qs, mu, mv, rfl, cc, fun hno => absurd hx hno, fun x hx1 hxz => ea_cons (ee_callKW (kk_mark_range A) (Nat.le_of_ble_eq_true rfl) (by kernel_rfl) (ee_name 6 rfl (by kernel_rfl) rfl (ee_name 5 rfl (by kernel_rfl) rfl (⟨qs, mu, mv, rfl, cc, fun hno => absurd hx hno, fun w2 w2' B2 B2' => ea_nil (⟨_, _, rfl, ?_⟩)⟩))))⟩)))))))))
      rw [worth_same B B2, worth_same B' B2']
      refine eb_en [.cel a _, .dat (.int ((k : Nat) : Int)), .dat (.bool (decide (nd = 0))), .dat (.list (qs.map bareD)), .dat (linD (wu, wuv)), .dat (.tuple (qs.map pinD)), .dat (linD (mu, mv)), .dat (linD (mv, mu.cross mv)), .dat (.list (qs.map rowD)), .dat (.tuple [frs (rg qs.length fun a => - w' a), frs (rg qs.length w)]), .dat (frs (rg qs.length x)), .dat (.tuple [fr (-worth qs w'), fr (worth qs w)]), .no, .no, .no] rfl ?_
      refine eb_cons (es_if (et_cmp cp_gt (nomark _) (ee_call (k__law_rank A) (Nat.le_of_ble_eq_true rfl) (by kernel_rfl) (ea_cons (EvN.frz (en_catL (ee_name 8 rfl (by kernel_rfl) rfl ((en_lst (ea_cons (ee_catT (ee_ix (ee_name 7 rfl (by kernel_rfl) rfl (ee_int (⟨_, _, _, rfl, rfl, rfl, ee_ix (ee_name 7 rfl (by kernel_rfl) rfl (ee_int (⟨_, _, _, rfl, rfl, rfl, ⟨_, _, rfl, rfl, ?_, ea_nil (⟨Nat.le_of_ble_eq_true rfl, fun _ _ => ⟨_, _, rfl, rfl, ?_, fun _ _ => ea_nil (⟨q0, qr ++ [six mv (mu.cross mv)], rd1, rs1, ee_call (k__law_rank A) (Nat.le_of_ble_eq_true rfl) (by kernel_rfl) (ea_cons (ee_name 8 rfl (by kernel_rfl) rfl (ea_nil (⟨q0, qr, rd2, rs2, ⟨_, ⟨_, _, rfl, rfl, rfl⟩, tf_f (rk_f (fun z => hr.mp z hx)) (eb_nil (?_))⟩⟩))))⟩)⟩⟩)⟩⟩)))⟩))))))).frz))))))))
      · exact Nat.le_of_ble_eq_true rfl
      · exact ln1
      refine eb_cons (es_if (et_W (ew_or (et_not (et_val (ee_isi (T := "tuple") (by decide) (by kernel_rfl) A.f_isinstance (by kernel_rfl) A.f_tuple (by kernel_rfl) (ee_name 9 rfl (by kernel_rfl) rfl (⟨_, rfl, ⟨fun z => (by cases z), fun _ => ew_or (et_cmp cp_neI (nomark _) (ee_callB bc_len (by kernel_rfl) A.f_len (by kernel_rfl) (ea_cons (ee_name 9 rfl (by kernel_rfl) rfl (ea_nil (⟨_, ⟨_, _, rfl, rfl, rfl⟩, ee_int (⟨_, ⟨_, _, rfl, rfl, rfl⟩, ⟨fun z => (by cases z), fun _ => ew_or1 (et_not (et_val (ee_call (k__law_shared A) (Nat.le_of_ble_eq_true rfl) (by kernel_rfl) (ea_cons (ee_name 5 rfl (by kernel_rfl) rfl (ea_cons (ee_name 7 rfl (by kernel_rfl) rfl (ea_cons (ee_name 10 rfl (by kernel_rfl) rfl (ea_nil (⟨qs, (mv, mu.cross mv), x, rfl, ⟨R.n8, fun p hp => ⟨(R.ok p hp).sa, (R.ok p hp).se⟩, fun p hp q hq => R.r90 hp hq, fun i hi => (hxz i).mono (by decide)⟩, ⟨_, rfl, tf_f (nd_t (mix_sh hx1)) (eb_nil (?_))⟩⟩)))))))))))⟩⟩)⟩))))))⟩⟩))))))))
      refine eb_cons (es_if (et_W (ew_or (et_not (et_val (ee_call (k__law_shared A) (Nat.le_of_ble_eq_true rfl) (by kernel_rfl) (ea_cons (ee_name 5 rfl (by kernel_rfl) rfl (ea_cons (ee_name 7 rfl (by kernel_rfl) rfl (ea_cons (ee_ix (ee_name 9 rfl (by kernel_rfl) rfl (ee_int (⟨_, _, _, rfl, rfl, rfl, ea_nil (⟨qs, (mv, mu.cross mv), (fun a => - w' a), rfl, ⟨R.n8, fun p hp => ⟨(R.ok p hp).sa, (R.ok p hp).se⟩, fun p hp q hq => R.r90 hp hq, fun i hi => (B'.sz i hi).neg⟩, ⟨_, rfl, tf_f (nd_t (mix_sh (sh_back B'.sh))) (ew_or1 (et_not (et_val (ee_call (k__law_shared A) (Nat.le_of_ble_eq_true rfl) (by kernel_rfl) (ea_cons (ee_name 5 rfl (by kernel_rfl) rfl (ea_cons (ee_name 7 rfl (by kernel_rfl) rfl (ea_cons (ee_ix (ee_name 9 rfl (by kernel_rfl) rfl (ee_int (⟨_, _, _, rfl, rfl, rfl, ea_nil (⟨qs, (mv, mu.cross mv), w, rfl, ⟨R.n8, fun p hp => ⟨(R.ok p hp).sa, (R.ok p hp).se⟩, fun p hp q hq => R.r90 hp hq, fun i hi => B.sz i hi⟩, ⟨_, rfl, tf_f (nd_t (mix_sh B.sh)) (eb_nil (?_))⟩⟩)⟩)))))))))))))⟩⟩)⟩)))))))))))))))
      refine eb_cons (es_par2 12 13 rfl rfl (by decide) (by kernel_rfl) (by kernel_rfl) (ea_cons (ee_call (k__law_worth A) (Nat.le_of_ble_eq_true rfl) (by kernel_rfl) (ea_cons (ee_name 5 rfl (by kernel_rfl) rfl (ea_cons (ee_ix (ee_name 9 rfl (by kernel_rfl) rfl (ee_int (⟨_, _, _, rfl, rfl, rfl, ea_cons (ee_bool (ea_nil (⟨qs, (fun a => - w' a), false, rfl, ⟨R.n8, R.sl, fun i hi => (B'.sz i hi).neg⟩, ea_cons (ee_call (k__law_worth A) (Nat.le_of_ble_eq_true rfl) (by kernel_rfl) (ea_cons (ee_name 5 rfl (by kernel_rfl) rfl (ea_cons (ee_ix (ee_name 9 rfl (by kernel_rfl) rfl (ee_int (⟨_, _, _, rfl, rfl, rfl, ea_cons (ee_bool (ea_nil (⟨qs, w, true, rfl, ⟨R.n8, R.sl, fun i hi => B.sz i hi⟩, ea_nil (⟨_, _, rfl, ?_⟩)⟩)))⟩))))))))⟩)))⟩))))))))))
      rw [least_eq, most_eq]
      refine eb_en [.cel a _, .dat (.int ((k : Nat) : Int)), .dat (.bool (decide (nd = 0))), .dat (.list (qs.map bareD)), .dat (linD (wu, wuv)), .dat (.tuple (qs.map pinD)), .dat (linD (mu, mv)), .dat (linD (mv, mu.cross mv)), .dat (.list (qs.map rowD)), .dat (.tuple [frs (rg qs.length fun a => - w' a), frs (rg qs.length w)]), .dat (frs (rg qs.length x)), .dat (.tuple [fr (-worth qs w'), fr (worth qs w)]), .dat (fr (-worth qs w')), .dat (fr (worth qs w)), .no] rfl ?_
      refine eb_cons (es_if (et_W (ew_or (et_cmp cp_neS (nomark _) (ee_callB bc_repr (by kernel_rfl) A.f_repr (by kernel_rfl) (ea_cons (ee_name 11 rfl (by kernel_rfl) rfl (ea_nil (⟨_, ⟨_, rfl, shown2 B'.wz.neg B.wz, rfl⟩, ee_callB bc_repr (by kernel_rfl) A.f_repr (by kernel_rfl) (ea_cons (ee_tup (ea_cons (ee_name 12 rfl (by kernel_rfl) rfl (ea_cons (ee_name 13 rfl (by kernel_rfl) rfl (ea_nil (⟨Nat.le_of_ble_eq_true rfl, ea_nil (⟨_, ⟨_, rfl, shown2 B'.wz.neg B.wz, rfl⟩, ⟨_, ⟨_, _, rfl, rfl, rfl⟩, tf_f (nd_t rfl) (ew_or1 (et_not (et_val (ee_call (k__law_within A) (Nat.le_of_ble_eq_true rfl) (by kernel_rfl) (ea_cons (ee_name 11 rfl (by kernel_rfl) rfl (ea_cons (ee_call (k__law_power A) (Nat.le_of_ble_eq_true rfl) (by kernel_rfl) (ea_cons (ee_name 7 rfl (by kernel_rfl) rfl (ea_cons (ee_name 4 rfl (by kernel_rfl) rfl (ea_nil (⟨mv, mu.cross mv, wu, wuv, rfl, pz, ea_nil (⟨-worth qs w', worth qs w, _, rfl, ⟨B'.wz.neg.mono (by decide), B.wz.mono (by decide), R.pwz.mono (by decide), R.lo B'.sh, R.hi B.sh⟩, ⟨_, rfl, tf_f rfl (eb_nil (?_))⟩⟩)⟩))))))))))))))⟩⟩)⟩))))))))⟩)))))))))
      refine eb_cons (es_if (et_W (ew_or (et_val (ee_call (k9__law_is_less A) (Nat.le_of_ble_eq_true rfl) (by kernel_rfl) (ea_cons (ee_name 12 rfl (by kernel_rfl) rfl (ea_cons (ee_call (k__law_worth A) (Nat.le_of_ble_eq_true rfl) (by kernel_rfl) (ea_cons (ee_name 5 rfl (by kernel_rfl) rfl (ea_cons (ee_name 10 rfl (by kernel_rfl) rfl (ea_cons (ee_bool (ea_nil (⟨qs, x, false, rfl, ⟨R.n8, R.sl, fun i hi => (hxz i).mono (by decide)⟩, ea_nil (⟨_, _, rfl, ⟨B'.wz.neg.mono (by decide), R.wsz (fun i hi => (hxz i).mono (by decide)) false⟩, ⟨_, rfl, tf_f (less1 B' hx1) (ew_or1 (et_val (ee_call (k9__law_is_less A) (Nat.le_of_ble_eq_true rfl) (by kernel_rfl) (ea_cons (ee_call (k__law_worth A) (Nat.le_of_ble_eq_true rfl) (by kernel_rfl) (ea_cons (ee_name 5 rfl (by kernel_rfl) rfl (ea_cons (ee_name 10 rfl (by kernel_rfl) rfl (ea_cons (ee_bool (ea_nil (⟨qs, x, true, rfl, ⟨R.n8, R.sl, fun i hi => (hxz i).mono (by decide)⟩, ea_cons (ee_name 13 rfl (by kernel_rfl) rfl (ea_nil (⟨_, _, rfl, ⟨R.wsz (fun i hi => (hxz i).mono (by decide)) true, B.wz.mono (by decide)⟩, ⟨_, rfl, tf_f (less2 B hx1) (eb_nil (?_))⟩⟩)))⟩)))))))))))))⟩⟩)⟩)))))))))))))))))
      exact eb_one (es_ret (ee_bool (⟨_, _, _, rfl, rfl, q _⟩)))
  · refine eb_cons (es_asg 9 rfl (by kernel_rfl) (.inl rfl) (ee_if (et_val (ee_name 2 rfl (by kernel_rfl) rfl (⟨_, rfl, ⟨fun hk => ee_callKW (kk_range_weights A) (Nat.le_of_ble_eq_true rfl) (by kernel_rfl) (ee_name 5 rfl (by kernel_rfl) rfl (ee_name 6 rfl (by kernel_rfl) rfl (⟨qs, mu, mv, rfl, cc, fun _ => ?_, fun w w' B _ => absurd ⟨w, B.sh⟩ hx⟩))), fun hk => ee_call (k_range_weights A) (Nat.le_of_ble_eq_true rfl) (by kernel_rfl) (ea_cons (ee_name 5 rfl (by kernel_rfl) rfl (ea_cons (ee_name 6 rfl (by kernel_rfl) rfl (ea_nil (⟨qs, mu, mv, rfl, cc, fun _ => ?_, fun w w' B _ => absurd ⟨w, B.sh⟩ hx⟩))))))⟩⟩)))))
    · refine eb_cons (es_par2 10 11 rfl rfl (by decide) (by kernel_rfl) (by kernel_rfl) (ea_cons (ee_call (k_mark_shares A) (Nat.le_of_ble_eq_true rfl) (by kernel_rfl) (ea_cons (ee_name 5 rfl (by kernel_rfl) rfl (ea_cons (ee_name 6 rfl (by kernel_rfl) rfl (ea_nil (⟨qs, mu, mv, rfl, cc, fun _ => ea_cons (ee_callKW (kk_mark_range A) (Nat.le_of_ble_eq_true rfl) (by kernel_rfl) (ee_name 6 rfl (by kernel_rfl) rfl (ee_name 5 rfl (by kernel_rfl) rfl (⟨qs, mu, mv, rfl, cc, fun _ => ea_nil (⟨_, _, rfl, ?_⟩), fun w w' B _ => absurd ⟨w, B.sh⟩ hx⟩)))), fun x hx1 _ => absurd ⟨x, hx1⟩ hx⟩)))))))))
      refine eb_en [.cel a _, .dat (.int ((k : Nat) : Int)), .dat (.bool (decide (nd = 0))), .dat (.list (qs.map bareD)), .dat (linD (wu, wuv)), .dat (.tuple (qs.map pinD)), .dat (linD (mu, mv)), .dat (linD (mv, mu.cross mv)), .dat (.list (qs.map rowD)), .dat .none, .dat .none, .dat .none, .no, .no, .no] rfl ?_
      refine eb_cons (es_if (et_cmp cp_gt (nomark _) (ee_call (k__law_rank A) (Nat.le_of_ble_eq_true rfl) (by kernel_rfl) (ea_cons (EvN.frz (en_catL (ee_name 8 rfl (by kernel_rfl) rfl ((en_lst (ea_cons (ee_catT (ee_ix (ee_name 7 rfl (by kernel_rfl) rfl (ee_int (⟨_, _, _, rfl, rfl, rfl, ee_ix (ee_name 7 rfl (by kernel_rfl) rfl (ee_int (⟨_, _, _, rfl, rfl, rfl, ⟨_, _, rfl, rfl, ?_, ea_nil (⟨Nat.le_of_ble_eq_true rfl, fun _ _ => ⟨_, _, rfl, rfl, ?_, fun _ _ => ea_nil (⟨q0, qr ++ [six mv (mu.cross mv)], rd1, rs1, ee_call (k__law_rank A) (Nat.le_of_ble_eq_true rfl) (by kernel_rfl) (ea_cons (ee_name 8 rfl (by kernel_rfl) rfl (ea_nil (⟨q0, qr, rd2, rs2, ⟨_, ⟨_, _, rfl, rfl, rfl⟩, tf_t (rk_t (hr.mpr hx)) (eb_one (es_ret (ee_and (ee_cmp cp_isN (nomark _) (ee_name 9 rfl (by kernel_rfl) rfl (ee_none (⟨_, ⟨rfl, rfl⟩, ⟨_, rfl, fun _ => ee_and (ee_cmp cp_isN (nomark _) (ee_name 10 rfl (by kernel_rfl) rfl (ee_none (⟨_, ⟨rfl, rfl⟩, ⟨_, rfl, fun _ => ee_one (ee_cmp cp_isN (nomark _) (ee_name 11 rfl (by kernel_rfl) rfl (ee_none (⟨_, ⟨rfl, rfl⟩, ⟨_, _, _, rfl, rfl, q _⟩⟩)))), fun z => (by cases z)⟩⟩)))), fun z => (by cases z)⟩⟩)))))))⟩⟩))))⟩)⟩⟩)⟩⟩)))⟩))))))).frz))))))))
      · exact Nat.le_of_ble_eq_true rfl
      · exact ln1
    · refine eb_cons (es_par2 10 11 rfl rfl (by decide) (by kernel_rfl) (by kernel_rfl) (ea_cons (ee_call (k_mark_shares A) (Nat.le_of_ble_eq_true rfl) (by kernel_rfl) (ea_cons (ee_name 5 rfl (by kernel_rfl) rfl (ea_cons (ee_name 6 rfl (by kernel_rfl) rfl (ea_nil (⟨qs, mu, mv, rfl, cc, fun _ => ea_cons (ee_callKW (kk_mark_range A) (Nat.le_of_ble_eq_true rfl) (by kernel_rfl) (ee_name 6 rfl (by kernel_rfl) rfl (ee_name 5 rfl (by kernel_rfl) rfl (⟨qs, mu, mv, rfl, cc, fun _ => ea_nil (⟨_, _, rfl, ?_⟩), fun w w' B _ => absurd ⟨w, B.sh⟩ hx⟩)))), fun x hx1 _ => absurd ⟨x, hx1⟩ hx⟩)))))))))
      refine eb_en [.cel a _, .dat (.int ((k : Nat) : Int)), .dat (.bool (decide (nd = 0))), .dat (.list (qs.map bareD)), .dat (linD (wu, wuv)), .dat (.tuple (qs.map pinD)), .dat (linD (mu, mv)), .dat (linD (mv, mu.cross mv)), .dat (.list (qs.map rowD)), .dat .none, .dat .none, .dat .none, .no, .no, .no] rfl ?_
      refine eb_cons (es_if (et_cmp cp_gt (nomark _) (ee_call (k__law_rank A) (Nat.le_of_ble_eq_true rfl) (by kernel_rfl) (ea_cons (EvN.frz (en_catL (ee_name 8 rfl (by kernel_rfl) rfl ((en_lst (ea_cons (ee_catT (ee_ix (ee_name 7 rfl (by kernel_rfl) rfl (ee_int (⟨_, _, _, rfl, rfl, rfl, ee_ix (ee_name 7 rfl (by kernel_rfl) rfl (ee_int (⟨_, _, _, rfl, rfl, rfl, ⟨_, _, rfl, rfl, ?_, ea_nil (⟨Nat.le_of_ble_eq_true rfl, fun _ _ => ⟨_, _, rfl, rfl, ?_, fun _ _ => ea_nil (⟨q0, qr ++ [six mv (mu.cross mv)], rd1, rs1, ee_call (k__law_rank A) (Nat.le_of_ble_eq_true rfl) (by kernel_rfl) (ea_cons (ee_name 8 rfl (by kernel_rfl) rfl (ea_nil (⟨q0, qr, rd2, rs2, ⟨_, ⟨_, _, rfl, rfl, rfl⟩, tf_t (rk_t (hr.mpr hx)) (eb_one (es_ret (ee_and (ee_cmp cp_isN (nomark _) (ee_name 9 rfl (by kernel_rfl) rfl (ee_none (⟨_, ⟨rfl, rfl⟩, ⟨_, rfl, fun _ => ee_and (ee_cmp cp_isN (nomark _) (ee_name 10 rfl (by kernel_rfl) rfl (ee_none (⟨_, ⟨rfl, rfl⟩, ⟨_, rfl, fun _ => ee_one (ee_cmp cp_isN (nomark _) (ee_name 11 rfl (by kernel_rfl) rfl (ee_none (⟨_, ⟨rfl, rfl⟩, ⟨_, _, _, rfl, rfl, q _⟩⟩)))), fun z => (by cases z)⟩⟩)))), fun z => (by cases z)⟩⟩)))))))⟩⟩))))⟩)⟩⟩)⟩⟩)))⟩))))))).frz))))))))
      · exact Nat.le_of_ble_eq_true rfl
      · exact ln1
end Sp
namespace Sp
open PySem PySem.Spec PyProof.Rows L2 Ly SV
variable {g : Gc}

theorem k_law (A : Al g) : KnowsP g "law" 13 ["_law_script"] (fun ds post => ∃ ns : List Int, ds = [.list (ns.map .int)] ∧ post (.bool true)) := by
  refine Knows.mkP A.d_law sc_law (fun ds post h => by obtain ⟨_, rfl, _⟩ := h; rfl) ?_
  rintro ds post ⟨ns, rfl, q⟩
  refine eb_one (es_ret (ee_callB bc_all (by kernel_rfl) A.f_all (by kernel_rfl) (ea_cons ((en_lc [("_law_turn", 1)] (by kernel_rfl) (lcq_map (List.range 2) (fun i => PyData.int ((i : Nat) : Int)) (fun _ => PyData.bool true) (ei_range1 (by kernel_rfl) A.f_range (ee_int (⟨_, rfl, ?_, ⟨?_, ?_, fun i hi => eg_name 1 rfl (by kernel_rfl) (.inr rfl) (by decide) (ee_callF (k__law_right A) (Nat.le_of_ble_eq_true rfl) (by kernel_rfl) (en_call (k__law_well A) (Nat.le_of_ble_eq_true rfl) (by kernel_rfl) (ea_cons (ee_name 0 rfl (by kernel_rfl) rfl (ea_cons (ee_name 1 rfl (by kernel_rfl) rfl (ea_nil (⟨ns, ((i : Nat) : Int), rfl, ⟨by omega, by have := List.mem_range.mp hi; omega⟩, fun ys hys _ _ => ⟨hys, rfl, fun _ => ⟨rfl, rfl⟩⟩⟩)))))))), fun _ _ => ea_nil (⟨_, ⟨[true, true], rfl, rfl⟩, ⟨_, rfl, q⟩⟩)⟩⟩))))).frz))))
  all_goals first
    | rfl
    | decide
    | (rw [List.length_range]; decide)
    | exact rgD_map _
end Sp
namespace HeadK
open PySem PySem.Spec PyProof.Rows L2 Ly
section
variable {P : Program} {w : World} {K : PySem.W.Frag} {mg : Str → Option Value} {base h : Heap}
theorem tup_at {a : Addr} {p : List Value → Bool} (e : tupAt K a p = true) : ∃ us : List Value, p us = true ∧ ∀ (vs : List V), Vals vs us → ∀ H : Hp, SqT K H a vs := by
  unfold tupAt at e
  cases q : K.lookup a with
  | none => rw [q] at e; cases e
  | some o =>
    obtain ⟨oc, od, dt, osl⟩ := o
    rw [q] at e
    cases oc with
    | type n =>
      cases dt with
      | seq its m =>
        obtain ⟨h1, h2⟩ := Bool.and_eq_true_iff.mp (show (decide (n = "tuple") && (decide (its.size ≤ sizeLine) && p its.toList)) = true from e)
        obtain ⟨h3, h4⟩ := Bool.and_eq_true_iff.mp h2
        exact ⟨its.toList, h4, fun vs r H => .inr ⟨_, its, m, q, congrArg Value.type (of_decide_eq_true h1), rfl, of_decide_eq_true h3, r⟩⟩
      | _ => cases e
    | _ => cases dt <;> cases e
theorem nought_at {u : Value} (e : noughtB K u = true) (H : Hp) : ∃ v, RelV v u ∧ Dp K H v Sp.d01 := by
  cases u with
  | ref a =>
    obtain ⟨us, r, t⟩ := tup_at (show tupAt K a (He.relAll [.int 0, .int 1]) = true from e)
    exact ⟨.ref a, rfl, .tup (t _ (He.relAll_ok r) H) (.cons (.int 0) (.cons (.int 1) .nil))⟩
  | _ => cases e
theorem noughts_all {us : List Value} (H : Hp) : us.all (noughtB K) = true → ∃ vs, Vals vs us ∧ DpAll K H vs (List.replicate us.length Sp.d01) := by
  induction us with
  | nil => exact fun _ => ⟨[], .nil, .nil⟩
  | cons u us ih =>
    intro e
    obtain ⟨e1, e2⟩ := Bool.and_eq_true_iff.mp (show (noughtB K u && us.all (noughtB K)) = true from e)
    obtain ⟨v, r, d⟩ := nought_at e1 H
    obtain ⟨vs, rs, ds⟩ := ih e2
    exact ⟨v :: vs, .cons r rs, .cons d ds⟩
theorem noughts_at {x : Str} {n : Nat} (e : noughtsB K x n = true) (H : Hp) : Dp K H (.ref (He.ga K x)) (.tuple (List.replicate n Sp.d01)) := by
  obtain ⟨us, r, t⟩ := tup_at (show tupAt K (He.ga K x) (fun us => decide (us.length = n) && us.all (noughtB K)) = true from e)
  obtain ⟨r1, r2⟩ := Bool.and_eq_true_iff.mp r
  obtain ⟨vs, rs, ds⟩ := noughts_all H r2
  rw [of_decide_eq_true r1] at ds
  exact .tup (t vs rs H) ds
theorem fun_of {x : Str} {st : Stmt} {fd : FuncData} {f : Addr} (F : FunD K x x (defArgs st) (defBody st) (defScope st) [] [] f fd) : Fun K x x st f fd := by
  obtain ⟨oc, od, dV, kV, doc, pm, an, cdv, ct, osl, e, lk, hcd, hD, _⟩ := F.ex
  rcases hD with ⟨_, rfl⟩ | ⟨z, _⟩
  · exact ⟨⟨oc, od, kV, doc, pm, an, cdv, ct, osl, e, lk, hcd⟩, F.kp⟩
  · exact absurd rfl z
theorem def_of {x : Str} {st : Stmt} {ps : List Str} {fd : FuncData} (F : FunD K x x (defArgs st) (defBody st) (defScope st) [] [] (He.ga K x) fd) (hm : mg x = some (.ref (He.ga K x)))
    (hb : ∀ (kV doc pm : Value) (an : Option Addr) (cdv ct : Value) (us : List Value), us.length = ps.length → bindArgs (PySem.W.fnOf x x (defArgs st) (defBody st) (defScope st) .none kV doc pm an cdv ct) ⟨us, []⟩ = pure (ps.zip us)) : Def ⟨P, w, K, mg, base⟩ x st ps :=
  ⟨_, fd, fun_of F, hm, FunD.bindsN F hb⟩
theorem defK_of {x : Str} {st : Stmt} {ps : List Str} {k1 k2 : Str} {sw : Bool} {fd : FuncData} (F : FunD K x x (defArgs st) (defBody st) (defScope st) [] [] (He.ga K x) fd) (hm : mg x = some (.ref (He.ga K x)))
    (hb : ∀ (kV doc pm : Value) (an : Option Addr) (cdv ct : Value) (us : List Value), us.length = ps.length → bindArgs (PySem.W.fnOf x x (defArgs st) (defBody st) (defScope st) .none kV doc pm an cdv ct) ⟨us, []⟩ = pure (ps.zip us))
    (hk : ∀ (kV doc pm : Value) (an : Option Addr) (cdv ct u1 u2 : Value), bindArgs (PySem.W.fnOf x x (defArgs st) (defBody st) (defScope st) .none kV doc pm an cdv ct) ⟨[], [(k1, u1), (k2, u2)]⟩ = pure (ps.zip (sw2 sw u1 u2))) : DefK ⟨P, w, K, mg, base⟩ x st ps k1 k2 sw := by
  refine ⟨_, fd, fun_of F, hm, FunD.bindsN F hb, fun s u1 u2 _ => ?_⟩
  obtain ⟨oc, od, dV, kV, doc, pm, an, cdv, ct, osl, rfl, lk, hcd, hD, _⟩ := F.ex
  rcases hD with ⟨_, rfl⟩ | ⟨z, _⟩
  · exact .of_eq (hk kV doc pm an cdv ct u1 u2)
  · exact absurd rfl z
theorem ba_is_whole (kV doc pm : Value) (an : Option Addr) (cdv ct : Value) (us : List Value) (hl : us.length = (["value"] : List Str).length) : bindArgs (PySem.W.fnOf "is_whole" "is_whole" (defArgs (top 7)) (defBody (top 7)) (defScope (top 7)) .none kV doc pm an cdv ct) ⟨us, []⟩ = pure ((["value"] : List Str).zip us) := match us, hl with | [_], _ => rfl
theorem ba_common_part (kV doc pm : Value) (an : Option Addr) (cdv ct : Value) (us : List Value) (hl : us.length = (["numbers"] : List Str).length) : bindArgs (PySem.W.fnOf "common_part" "common_part" (defArgs (top 8)) (defBody (top 8)) (defScope (top 8)) .none kV doc pm an cdv ct) ⟨us, []⟩ = pure ((["numbers"] : List Str).zip us) := match us, hl with | [_], _ => rfl
theorem ba_lowest (kV doc pm : Value) (an : Option Addr) (cdv ct : Value) (us : List Value) (hl : us.length = (["numbers"] : List Str).length) : bindArgs (PySem.W.fnOf "lowest" "lowest" (defArgs (top 9)) (defBody (top 9)) (defScope (top 9)) .none kV doc pm an cdv ct) ⟨us, []⟩ = pure ((["numbers"] : List Str).zip us) := match us, hl with | [_], _ => rfl
theorem ba_lowest_over (kV doc pm : Value) (an : Option Addr) (cdv ct : Value) (us : List Value) (hl : us.length = (["numbers", "below"] : List Str).length) : bindArgs (PySem.W.fnOf "lowest_over" "lowest_over" (defArgs (top 10)) (defBody (top 10)) (defScope (top 10)) .none kV doc pm an cdv ct) ⟨us, []⟩ = pure ((["numbers", "below"] : List Str).zip us) := match us, hl with | [_, _], _ => rfl
theorem ba_ratio (kV doc pm : Value) (an : Option Addr) (cdv ct : Value) (us : List Value) (hl : us.length = (["top", "below"] : List Str).length) : bindArgs (PySem.W.fnOf "ratio" "ratio" (defArgs (top 11)) (defBody (top 11)) (defScope (top 11)) .none kV doc pm an cdv ct) ⟨us, []⟩ = pure ((["top", "below"] : List Str).zip us) := match us, hl with | [_, _], _ => rfl
theorem ba_product_sum (kV doc pm : Value) (an : Option Addr) (cdv ct : Value) (us : List Value) (hl : us.length = (["row", "other"] : List Str).length) : bindArgs (PySem.W.fnOf "product_sum" "product_sum" (defArgs (top 12)) (defBody (top 12)) (defScope (top 12)) .none kV doc pm an cdv ct) ⟨us, []⟩ = pure ((["row", "other"] : List Str).zip us) := match us, hl with | [_, _], _ => rfl
theorem ba_minus (kV doc pm : Value) (an : Option Addr) (cdv ct : Value) (us : List Value) (hl : us.length = (["one", "other"] : List Str).length) : bindArgs (PySem.W.fnOf "minus" "minus" (defArgs (top 14)) (defBody (top 14)) (defScope (top 14)) .none kV doc pm an cdv ct) ⟨us, []⟩ = pure ((["one", "other"] : List Str).zip us) := match us, hl with | [_, _], _ => rfl
theorem ba_times (kV doc pm : Value) (an : Option Addr) (cdv ct : Value) (us : List Value) (hl : us.length = (["one", "other"] : List Str).length) : bindArgs (PySem.W.fnOf "times" "times" (defArgs (top 15)) (defBody (top 15)) (defScope (top 15)) .none kV doc pm an cdv ct) ⟨us, []⟩ = pure ((["one", "other"] : List Str).zip us) := match us, hl with | [_, _], _ => rfl
theorem ba_is_below (kV doc pm : Value) (an : Option Addr) (cdv ct : Value) (us : List Value) (hl : us.length = (["one", "other"] : List Str).length) : bindArgs (PySem.W.fnOf "is_below" "is_below" (defArgs (top 16)) (defBody (top 16)) (defScope (top 16)) .none kV doc pm an cdv ct) ⟨us, []⟩ = pure ((["one", "other"] : List Str).zip us) := match us, hl with | [_, _], _ => rfl
theorem ba_over_one (kV doc pm : Value) (an : Option Addr) (cdv ct : Value) (us : List Value) (hl : us.length = (["parts"] : List Str).length) : bindArgs (PySem.W.fnOf "over_one" "over_one" (defArgs (top 17)) (defBody (top 17)) (defScope (top 17)) .none kV doc pm an cdv ct) ⟨us, []⟩ = pure ((["parts"] : List Str).zip us) := match us, hl with | [_], _ => rfl
theorem ba_parts_over (kV doc pm : Value) (an : Option Addr) (cdv ct : Value) (us : List Value) (hl : us.length = (["numbers", "below"] : List Str).length) : bindArgs (PySem.W.fnOf "parts_over" "parts_over" (defArgs (top 18)) (defBody (top 18)) (defScope (top 18)) .none kV doc pm an cdv ct) ⟨us, []⟩ = pure ((["numbers", "below"] : List Str).zip us) := match us, hl with | [_, _], _ => rfl
theorem ba_is_fraction (kV doc pm : Value) (an : Option Addr) (cdv ct : Value) (us : List Value) (hl : us.length = (["value"] : List Str).length) : bindArgs (PySem.W.fnOf "is_fraction" "is_fraction" (defArgs (top 21)) (defBody (top 21)) (defScope (top 21)) .none kV doc pm an cdv ct) ⟨us, []⟩ = pure ((["value"] : List Str).zip us) := match us, hl with | [_], _ => rfl
theorem ba_are_fractions (kV doc pm : Value) (an : Option Addr) (cdv ct : Value) (us : List Value) (hl : us.length = (["value", "many"] : List Str).length) : bindArgs (PySem.W.fnOf "are_fractions" "are_fractions" (defArgs (top 22)) (defBody (top 22)) (defScope (top 22)) .none kV doc pm an cdv ct) ⟨us, []⟩ = pure ((["value", "many"] : List Str).zip us) := match us, hl with | [_, _], _ => rfl
theorem ba_is_triple (kV doc pm : Value) (an : Option Addr) (cdv ct : Value) (us : List Value) (hl : us.length = (["value"] : List Str).length) : bindArgs (PySem.W.fnOf "is_triple" "is_triple" (defArgs (top 23)) (defBody (top 23)) (defScope (top 23)) .none kV doc pm an cdv ct) ⟨us, []⟩ = pure ((["value"] : List Str).zip us) := match us, hl with | [_], _ => rfl
theorem ba_is_direction (kV doc pm : Value) (an : Option Addr) (cdv ct : Value) (us : List Value) (hl : us.length = (["value"] : List Str).length) : bindArgs (PySem.W.fnOf "is_direction" "is_direction" (defArgs (top 24)) (defBody (top 24)) (defScope (top 24)) .none kV doc pm an cdv ct) ⟨us, []⟩ = pure ((["value"] : List Str).zip us) := match us, hl with | [_], _ => rfl
theorem ba_crossed (kV doc pm : Value) (an : Option Addr) (cdv ct : Value) (us : List Value) (hl : us.length = (["one", "other"] : List Str).length) : bindArgs (PySem.W.fnOf "crossed" "crossed" (defArgs (top 25)) (defBody (top 25)) (defScope (top 25)) .none kV doc pm an cdv ct) ⟨us, []⟩ = pure ((["one", "other"] : List Str).zip us) := match us, hl with | [_, _], _ => rfl
theorem ba_row_of (kV doc pm : Value) (an : Option Addr) (cdv ct : Value) (us : List Value) (hl : us.length = (["screw"] : List Str).length) : bindArgs (PySem.W.fnOf "row_of" "row_of" (defArgs (top 27)) (defBody (top 27)) (defScope (top 27)) .none kV doc pm an cdv ct) ⟨us, []⟩ = pure ((["screw"] : List Str).zip us) := match us, hl with | [_], _ => rfl
theorem ba_screw_of (kV doc pm : Value) (an : Option Addr) (cdv ct : Value) (us : List Value) (hl : us.length = (["row"] : List Str).length) : bindArgs (PySem.W.fnOf "screw_of" "screw_of" (defArgs (top 28)) (defBody (top 28)) (defScope (top 28)) .none kV doc pm an cdv ct) ⟨us, []⟩ = pure ((["row"] : List Str).zip us) := match us, hl with | [_], _ => rfl
theorem ba_pushed (kV doc pm : Value) (an : Option Addr) (cdv ct : Value) (us : List Value) (hl : us.length = (["point", "direction"] : List Str).length) : bindArgs (PySem.W.fnOf "pushed" "pushed" (defArgs (top 29)) (defBody (top 29)) (defScope (top 29)) .none kV doc pm an cdv ct) ⟨us, []⟩ = pure ((["point", "direction"] : List Str).zip us) := match us, hl with | [_, _], _ => rfl
theorem ba_lowest_row (kV doc pm : Value) (an : Option Addr) (cdv ct : Value) (us : List Value) (hl : us.length = (["row"] : List Str).length) : bindArgs (PySem.W.fnOf "lowest_row" "lowest_row" (defArgs (top 31)) (defBody (top 31)) (defScope (top 31)) .none kV doc pm an cdv ct) ⟨us, []⟩ = pure ((["row"] : List Str).zip us) := match us, hl with | [_], _ => rfl
theorem ba_whole_row (kV doc pm : Value) (an : Option Addr) (cdv ct : Value) (us : List Value) (hl : us.length = (["parts"] : List Str).length) : bindArgs (PySem.W.fnOf "whole_row" "whole_row" (defArgs (top 32)) (defBody (top 32)) (defScope (top 32)) .none kV doc pm an cdv ct) ⟨us, []⟩ = pure ((["parts"] : List Str).zip us) := match us, hl with | [_], _ => rfl
theorem ba_first_place (kV doc pm : Value) (an : Option Addr) (cdv ct : Value) (us : List Value) (hl : us.length = (["row"] : List Str).length) : bindArgs (PySem.W.fnOf "first_place" "first_place" (defArgs (top 33)) (defBody (top 33)) (defScope (top 33)) .none kV doc pm an cdv ct) ⟨us, []⟩ = pure ((["row"] : List Str).zip us) := match us, hl with | [_], _ => rfl
theorem ba_cleared (kV doc pm : Value) (an : Option Addr) (cdv ct : Value) (us : List Value) (hl : us.length = (["row", "step", "place"] : List Str).length) : bindArgs (PySem.W.fnOf "cleared" "cleared" (defArgs (top 34)) (defBody (top 34)) (defScope (top 34)) .none kV doc pm an cdv ct) ⟨us, []⟩ = pure ((["row", "step", "place"] : List Str).zip us) := match us, hl with | [_, _, _], _ => rfl
theorem ba_stairs_of (kV doc pm : Value) (an : Option Addr) (cdv ct : Value) (us : List Value) (hl : us.length = (["rows"] : List Str).length) : bindArgs (PySem.W.fnOf "stairs_of" "stairs_of" (defArgs (top 35)) (defBody (top 35)) (defScope (top 35)) .none kV doc pm an cdv ct) ⟨us, []⟩ = pure ((["rows"] : List Str).zip us) := match us, hl with | [_], _ => rfl
theorem ba_shares_for (kV doc pm : Value) (an : Option Addr) (cdv ct : Value) (us : List Value) (hl : us.length = (["rows", "wanted"] : List Str).length) : bindArgs (PySem.W.fnOf "shares_for" "shares_for" (defArgs (top 36)) (defBody (top 36)) (defScope (top 36)) .none kV doc pm an cdv ct) ⟨us, []⟩ = pure ((["rows", "wanted"] : List Str).zip us) := match us, hl with | [_, _], _ => rfl
theorem ba_step_at (kV doc pm : Value) (an : Option Addr) (cdv ct : Value) (us : List Value) (hl : us.length = (["table", "row", "column", "below"] : List Str).length) : bindArgs (PySem.W.fnOf "step_at" "step_at" (defArgs (top 38)) (defBody (top 38)) (defScope (top 38)) .none kV doc pm an cdv ct) ⟨us, []⟩ = pure ((["table", "row", "column", "below"] : List Str).zip us) := match us, hl with | [_, _, _, _], _ => rfl
theorem ba_entering (kV doc pm : Value) (an : Option Addr) (cdv ct : Value) (us : List Value) (hl : us.length = (["costs", "many"] : List Str).length) : bindArgs (PySem.W.fnOf "entering" "entering" (defArgs (top 39)) (defBody (top 39)) (defScope (top 39)) .none kV doc pm an cdv ct) ⟨us, []⟩ = pure ((["costs", "many"] : List Str).zip us) := match us, hl with | [_, _], _ => rfl
theorem ba_leaving (kV doc pm : Value) (an : Option Addr) (cdv ct : Value) (us : List Value) (hl : us.length = (["table", "leaders", "column"] : List Str).length) : bindArgs (PySem.W.fnOf "leaving" "leaving" (defArgs (top 40)) (defBody (top 40)) (defScope (top 40)) .none kV doc pm an cdv ct) ⟨us, []⟩ = pure ((["table", "leaders", "column"] : List Str).zip us) := match us, hl with | [_, _, _], _ => rfl
theorem ba_descend (kV doc pm : Value) (an : Option Addr) (cdv ct : Value) (us : List Value) (hl : us.length = (["table", "leaders", "below", "many"] : List Str).length) : bindArgs (PySem.W.fnOf "descend" "descend" (defArgs (top 41)) (defBody (top 41)) (defScope (top 41)) .none kV doc pm an cdv ct) ⟨us, []⟩ = pure ((["table", "leaders", "below", "many"] : List Str).zip us) := match us, hl with | [_, _, _, _], _ => rfl
theorem ba_first_table (kV doc pm : Value) (an : Option Addr) (cdv ct : Value) (us : List Value) (hl : us.length = (["rows", "numbers", "signs", "many"] : List Str).length) : bindArgs (PySem.W.fnOf "first_table" "first_table" (defArgs (top 42)) (defBody (top 42)) (defScope (top 42)) .none kV doc pm an cdv ct) ⟨us, []⟩ = pure ((["rows", "numbers", "signs", "many"] : List Str).zip us) := match us, hl with | [_, _, _, _], _ => rfl
theorem ba_helpers_out (kV doc pm : Value) (an : Option Addr) (cdv ct : Value) (us : List Value) (hl : us.length = (["table", "leaders", "below", "many"] : List Str).length) : bindArgs (PySem.W.fnOf "helpers_out" "helpers_out" (defArgs (top 43)) (defBody (top 43)) (defScope (top 43)) .none kV doc pm an cdv ct) ⟨us, []⟩ = pure ((["table", "leaders", "below", "many"] : List Str).zip us) := match us, hl with | [_, _, _, _], _ => rfl
theorem ba_row_of_costs (kV doc pm : Value) (an : Option Addr) (cdv ct : Value) (us : List Value) (hl : us.length = (["table", "leaders", "below", "costs"] : List Str).length) : bindArgs (PySem.W.fnOf "row_of_costs" "row_of_costs" (defArgs (top 44)) (defBody (top 44)) (defScope (top 44)) .none kV doc pm an cdv ct) ⟨us, []⟩ = pure ((["table", "leaders", "below", "costs"] : List Str).zip us) := match us, hl with | [_, _, _, _], _ => rfl
theorem ba_least_of (kV doc pm : Value) (an : Option Addr) (cdv ct : Value) (us : List Value) (hl : us.length = (["rows", "numbers", "costs"] : List Str).length) : bindArgs (PySem.W.fnOf "least_of" "least_of" (defArgs (top 45)) (defBody (top 45)) (defScope (top 45)) .none kV doc pm an cdv ct) ⟨us, []⟩ = pure ((["rows", "numbers", "costs"] : List Str).zip us) := match us, hl with | [_, _, _], _ => rfl
theorem ba_rows_across (kV doc pm : Value) (an : Option Addr) (cdv ct : Value) (us : List Value) (hl : us.length = (["columns", "height"] : List Str).length) : bindArgs (PySem.W.fnOf "rows_across" "rows_across" (defArgs (top 47)) (defBody (top 47)) (defScope (top 47)) .none kV doc pm an cdv ct) ⟨us, []⟩ = pure ((["columns", "height"] : List Str).zip us) := match us, hl with | [_, _], _ => rfl
theorem ba_opposite_parts (kV doc pm : Value) (an : Option Addr) (cdv ct : Value) (us : List Value) (hl : us.length = (["parts"] : List Str).length) : bindArgs (PySem.W.fnOf "opposite_parts" "opposite_parts" (defArgs (top 48)) (defBody (top 48)) (defScope (top 48)) .none kV doc pm an cdv ct) ⟨us, []⟩ = pure ((["parts"] : List Str).zip us) := match us, hl with | [_], _ => rfl
theorem ba_is_pin (kV doc pm : Value) (an : Option Addr) (cdv ct : Value) (us : List Value) (hl : us.length = (["value"] : List Str).length) : bindArgs (PySem.W.fnOf "is_pin" "is_pin" (defArgs (top 52)) (defBody (top 52)) (defScope (top 52)) .none kV doc pm an cdv ct) ⟨us, []⟩ = pure ((["value"] : List Str).zip us) := match us, hl with | [_], _ => rfl
theorem ba_wrong_pin (kV doc pm : Value) (an : Option Addr) (cdv ct : Value) (us : List Value) (hl : us.length = (["value"] : List Str).length) : bindArgs (PySem.W.fnOf "wrong_pin" "wrong_pin" (defArgs (top 53)) (defBody (top 53)) (defScope (top 53)) .none kV doc pm an cdv ct) ⟨us, []⟩ = pure ((["value"] : List Str).zip us) := match us, hl with | [_], _ => rfl
theorem ba_check_gauge (kV doc pm : Value) (an : Option Addr) (cdv ct : Value) (us : List Value) (hl : us.length = (["value"] : List Str).length) : bindArgs (PySem.W.fnOf "check_gauge" "check_gauge" (defArgs (top 54)) (defBody (top 54)) (defScope (top 54)) .none kV doc pm an cdv ct) ⟨us, []⟩ = pure ((["value"] : List Str).zip us) := match us, hl with | [_], _ => rfl
theorem ba_is_mark (kV doc pm : Value) (an : Option Addr) (cdv ct : Value) (us : List Value) (hl : us.length = (["value"] : List Str).length) : bindArgs (PySem.W.fnOf "is_mark" "is_mark" (defArgs (top 55)) (defBody (top 55)) (defScope (top 55)) .none kV doc pm an cdv ct) ⟨us, []⟩ = pure ((["value"] : List Str).zip us) := match us, hl with | [_], _ => rfl
theorem ba_check_marked (kV doc pm : Value) (an : Option Addr) (cdv ct : Value) (us : List Value) (hl : us.length = (["gauge", "mark"] : List Str).length) : bindArgs (PySem.W.fnOf "check_marked" "check_marked" (defArgs (top 56)) (defBody (top 56)) (defScope (top 56)) .none kV doc pm an cdv ct) ⟨us, []⟩ = pure ((["gauge", "mark"] : List Str).zip us) := match us, hl with | [_, _], _ => rfl
theorem ba_pin_rows (kV doc pm : Value) (an : Option Addr) (cdv ct : Value) (us : List Value) (hl : us.length = (["gauge"] : List Str).length) : bindArgs (PySem.W.fnOf "pin_rows" "pin_rows" (defArgs (top 57)) (defBody (top 57)) (defScope (top 57)) .none kV doc pm an cdv ct) ⟨us, []⟩ = pure ((["gauge"] : List Str).zip us) := match us, hl with | [_], _ => rfl
theorem ba_mark_row (kV doc pm : Value) (an : Option Addr) (cdv ct : Value) (us : List Value) (hl : us.length = (["mark"] : List Str).length) : bindArgs (PySem.W.fnOf "mark_row" "mark_row" (defArgs (top 58)) (defBody (top 58)) (defScope (top 58)) .none kV doc pm an cdv ct) ⟨us, []⟩ = pure ((["mark"] : List Str).zip us) := match us, hl with | [_], _ => rfl
theorem ba_move_of_row (kV doc pm : Value) (an : Option Addr) (cdv ct : Value) (us : List Value) (hl : us.length = (["parts"] : List Str).length) : bindArgs (PySem.W.fnOf "move_of_row" "move_of_row" (defArgs (top 59)) (defBody (top 59)) (defScope (top 59)) .none kV doc pm an cdv ct) ⟨us, []⟩ = pure ((["parts"] : List Str).zip us) := match us, hl with | [_], _ => rfl
theorem ba_bound_on (kV doc pm : Value) (an : Option Addr) (cdv ct : Value) (us : List Value) (hl : us.length = (["gauge", "wanted"] : List Str).length) : bindArgs (PySem.W.fnOf "bound_on" "bound_on" (defArgs (top 60)) (defBody (top 60)) (defScope (top 60)) .none kV doc pm an cdv ct) ⟨us, []⟩ = pure ((["gauge", "wanted"] : List Str).zip us) := match us, hl with | [_, _], _ => rfl
theorem ba_mark_shares (kV doc pm : Value) (an : Option Addr) (cdv ct : Value) (us : List Value) (hl : us.length = (["gauge", "mark"] : List Str).length) : bindArgs (PySem.W.fnOf "mark_shares" "mark_shares" (defArgs (top 61)) (defBody (top 61)) (defScope (top 61)) .none kV doc pm an cdv ct) ⟨us, []⟩ = pure ((["gauge", "mark"] : List Str).zip us) := match us, hl with | [_, _], _ => rfl
theorem ba_bounds_of (kV doc pm : Value) (an : Option Addr) (cdv ct : Value) (us : List Value) (hl : us.length = (["gauge", "mark"] : List Str).length) : bindArgs (PySem.W.fnOf "bounds_of" "bounds_of" (defArgs (top 62)) (defBody (top 62)) (defScope (top 62)) .none kV doc pm an cdv ct) ⟨us, []⟩ = pure ((["gauge", "mark"] : List Str).zip us) := match us, hl with | [_, _], _ => rfl
theorem ba_mark_range (kV doc pm : Value) (an : Option Addr) (cdv ct : Value) (us : List Value) (hl : us.length = (["gauge", "mark"] : List Str).length) : bindArgs (PySem.W.fnOf "mark_range" "mark_range" (defArgs (top 63)) (defBody (top 63)) (defScope (top 63)) .none kV doc pm an cdv ct) ⟨us, []⟩ = pure ((["gauge", "mark"] : List Str).zip us) := match us, hl with | [_, _], _ => rfl
theorem ba_range_weights (kV doc pm : Value) (an : Option Addr) (cdv ct : Value) (us : List Value) (hl : us.length = (["gauge", "mark"] : List Str).length) : bindArgs (PySem.W.fnOf "range_weights" "range_weights" (defArgs (top 64)) (defBody (top 64)) (defScope (top 64)) .none kV doc pm an cdv ct) ⟨us, []⟩ = pure ((["gauge", "mark"] : List Str).zip us) := match us, hl with | [_, _], _ => rfl
theorem ba__law_well (kV doc pm : Value) (an : Option Addr) (cdv ct : Value) (us : List Value) (hl : us.length = (["_law_script", "_law_turn"] : List Str).length) : bindArgs (PySem.W.fnOf "_law_well" "_law_well" (defArgs (top 66)) (defBody (top 66)) (defScope (top 66)) .none kV doc pm an cdv ct) ⟨us, []⟩ = pure ((["_law_script", "_law_turn"] : List Str).zip us) := match us, hl with | [_, _], _ => rfl
theorem ba__law_draw (kV doc pm : Value) (an : Option Addr) (cdv ct : Value) (us : List Value) (hl : us.length = (["_law_well_here", "_law_size"] : List Str).length) : bindArgs (PySem.W.fnOf "_law_draw" "_law_draw" (defArgs (top 67)) (defBody (top 67)) (defScope (top 67)) .none kV doc pm an cdv ct) ⟨us, []⟩ = pure ((["_law_well_here", "_law_size"] : List Str).zip us) := match us, hl with | [_, _], _ => rfl
theorem ba__law_pick (kV doc pm : Value) (an : Option Addr) (cdv ct : Value) (us : List Value) (hl : us.length = (["_law_well_here", "_law_some"] : List Str).length) : bindArgs (PySem.W.fnOf "_law_pick" "_law_pick" (defArgs (top 68)) (defBody (top 68)) (defScope (top 68)) .none kV doc pm an cdv ct) ⟨us, []⟩ = pure ((["_law_well_here", "_law_some"] : List Str).zip us) := match us, hl with | [_, _], _ => rfl
theorem ba__law_lean (kV doc pm : Value) (an : Option Addr) (cdv ct : Value) (us : List Value) (hl : us.length = (["_law_up", "_law_low"] : List Str).length) : bindArgs (PySem.W.fnOf "_law_lean" "_law_lean" (defArgs (top 69)) (defBody (top 69)) (defScope (top 69)) .none kV doc pm an cdv ct) ⟨us, []⟩ = pure ((["_law_up", "_law_low"] : List Str).zip us) := match us, hl with | [_, _], _ => rfl
theorem ba__law_summed (kV doc pm : Value) (an : Option Addr) (cdv ct : Value) (us : List Value) (hl : us.length = (["_law_ones", "_law_twos"] : List Str).length) : bindArgs (PySem.W.fnOf "_law_summed" "_law_summed" (defArgs (top 70)) (defBody (top 70)) (defScope (top 70)) .none kV doc pm an cdv ct) ⟨us, []⟩ = pure ((["_law_ones", "_law_twos"] : List Str).zip us) := match us, hl with | [_, _], _ => rfl
theorem ba__law_added (kV doc pm : Value) (an : Option Addr) (cdv ct : Value) (us : List Value) (hl : us.length = (["_law_one", "_law_two"] : List Str).length) : bindArgs (PySem.W.fnOf "_law_added" "_law_added" (defArgs (top 71)) (defBody (top 71)) (defScope (top 71)) .none kV doc pm an cdv ct) ⟨us, []⟩ = pure ((["_law_one", "_law_two"] : List Str).zip us) := match us, hl with | [_, _], _ => rfl
theorem ba__law_times (kV doc pm : Value) (an : Option Addr) (cdv ct : Value) (us : List Value) (hl : us.length = (["_law_one", "_law_two"] : List Str).length) : bindArgs (PySem.W.fnOf "_law_times" "_law_times" (defArgs (top 72)) (defBody (top 72)) (defScope (top 72)) .none kV doc pm an cdv ct) ⟨us, []⟩ = pure ((["_law_one", "_law_two"] : List Str).zip us) := match us, hl with | [_, _], _ => rfl
theorem ba__law_is_less (kV doc pm : Value) (an : Option Addr) (cdv ct : Value) (us : List Value) (hl : us.length = (["_law_one", "_law_two"] : List Str).length) : bindArgs (PySem.W.fnOf "_law_is_less" "_law_is_less" (defArgs (top 73)) (defBody (top 73)) (defScope (top 73)) .none kV doc pm an cdv ct) ⟨us, []⟩ = pure ((["_law_one", "_law_two"] : List Str).zip us) := match us, hl with | [_, _], _ => rfl
theorem ba__law_minor (kV doc pm : Value) (an : Option Addr) (cdv ct : Value) (us : List Value) (hl : us.length = (["_law_a", "_law_b", "_law_i", "_law_j"] : List Str).length) : bindArgs (PySem.W.fnOf "_law_minor" "_law_minor" (defArgs (top 74)) (defBody (top 74)) (defScope (top 74)) .none kV doc pm an cdv ct) ⟨us, []⟩ = pure ((["_law_a", "_law_b", "_law_i", "_law_j"] : List Str).zip us) := match us, hl with | [_, _, _, _], _ => rfl
theorem ba__law_cross (kV doc pm : Value) (an : Option Addr) (cdv ct : Value) (us : List Value) (hl : us.length = (["_law_a", "_law_b"] : List Str).length) : bindArgs (PySem.W.fnOf "_law_cross" "_law_cross" (defArgs (top 75)) (defBody (top 75)) (defScope (top 75)) .none kV doc pm an cdv ct) ⟨us, []⟩ = pure ((["_law_a", "_law_b"] : List Str).zip us) := match us, hl with | [_, _], _ => rfl
theorem ba__law_plus (kV doc pm : Value) (an : Option Addr) (cdv ct : Value) (us : List Value) (hl : us.length = (["_law_a", "_law_b"] : List Str).length) : bindArgs (PySem.W.fnOf "_law_plus" "_law_plus" (defArgs (top 76)) (defBody (top 76)) (defScope (top 76)) .none kV doc pm an cdv ct) ⟨us, []⟩ = pure ((["_law_a", "_law_b"] : List Str).zip us) := match us, hl with | [_, _], _ => rfl
theorem ba__law_scaled (kV doc pm : Value) (an : Option Addr) (cdv ct : Value) (us : List Value) (hl : us.length = (["_law_a", "_law_by"] : List Str).length) : bindArgs (PySem.W.fnOf "_law_scaled" "_law_scaled" (defArgs (top 77)) (defBody (top 77)) (defScope (top 77)) .none kV doc pm an cdv ct) ⟨us, []⟩ = pure ((["_law_a", "_law_by"] : List Str).zip us) := match us, hl with | [_, _], _ => rfl
theorem ba__law_is_nought (kV doc pm : Value) (an : Option Addr) (cdv ct : Value) (us : List Value) (hl : us.length = (["_law_a"] : List Str).length) : bindArgs (PySem.W.fnOf "_law_is_nought" "_law_is_nought" (defArgs (top 78)) (defBody (top 78)) (defScope (top 78)) .none kV doc pm an cdv ct) ⟨us, []⟩ = pure ((["_law_a"] : List Str).zip us) := match us, hl with | [_], _ => rfl
theorem ba__law_axes (kV doc pm : Value) (an : Option Addr) (cdv ct : Value) (us : List Value) (hl : us.length = ([] : List Str).length) : bindArgs (PySem.W.fnOf "_law_axes" "_law_axes" (defArgs (top 79)) (defBody (top 79)) (defScope (top 79)) .none kV doc pm an cdv ct) ⟨us, []⟩ = pure (([] : List Str).zip us) := match us, hl with | [], _ => rfl
theorem ba__law_nought (kV doc pm : Value) (an : Option Addr) (cdv ct : Value) (us : List Value) (hl : us.length = ([] : List Str).length) : bindArgs (PySem.W.fnOf "_law_nought" "_law_nought" (defArgs (top 80)) (defBody (top 80)) (defScope (top 80)) .none kV doc pm an cdv ct) ⟨us, []⟩ = pure (([] : List Str).zip us) := match us, hl with | [], _ => rfl
theorem ba__law_line (kV doc pm : Value) (an : Option Addr) (cdv ct : Value) (us : List Value) (hl : us.length = (["_law_at", "_law_along_here"] : List Str).length) : bindArgs (PySem.W.fnOf "_law_line" "_law_line" (defArgs (top 81)) (defBody (top 81)) (defScope (top 81)) .none kV doc pm an cdv ct) ⟨us, []⟩ = pure ((["_law_at", "_law_along_here"] : List Str).zip us) := match us, hl with | [_, _], _ => rfl
theorem ba__law_power (kV doc pm : Value) (an : Option Addr) (cdv ct : Value) (us : List Value) (hl : us.length = (["_law_one", "_law_two"] : List Str).length) : bindArgs (PySem.W.fnOf "_law_power" "_law_power" (defArgs (top 82)) (defBody (top 82)) (defScope (top 82)) .none kV doc pm an cdv ct) ⟨us, []⟩ = pure ((["_law_one", "_law_two"] : List Str).zip us) := match us, hl with | [_, _], _ => rfl
theorem ba__law_mixed (kV doc pm : Value) (an : Option Addr) (cdv ct : Value) (us : List Value) (hl : us.length = (["_law_some", "_law_weights"] : List Str).length) : bindArgs (PySem.W.fnOf "_law_mixed" "_law_mixed" (defArgs (top 83)) (defBody (top 83)) (defScope (top 83)) .none kV doc pm an cdv ct) ⟨us, []⟩ = pure ((["_law_some", "_law_weights"] : List Str).zip us) := match us, hl with | [_, _], _ => rfl
theorem ba__law_is_whole (kV doc pm : Value) (an : Option Addr) (cdv ct : Value) (us : List Value) (hl : us.length = (["_law_thing"] : List Str).length) : bindArgs (PySem.W.fnOf "_law_is_whole" "_law_is_whole" (defArgs (top 84)) (defBody (top 84)) (defScope (top 84)) .none kV doc pm an cdv ct) ⟨us, []⟩ = pure ((["_law_thing"] : List Str).zip us) := match us, hl with | [_], _ => rfl
theorem ba__law_is_fraction (kV doc pm : Value) (an : Option Addr) (cdv ct : Value) (us : List Value) (hl : us.length = (["_law_thing"] : List Str).length) : bindArgs (PySem.W.fnOf "_law_is_fraction" "_law_is_fraction" (defArgs (top 85)) (defBody (top 85)) (defScope (top 85)) .none kV doc pm an cdv ct) ⟨us, []⟩ = pure ((["_law_thing"] : List Str).zip us) := match us, hl with | [_], _ => rfl
theorem ba__law_are (kV doc pm : Value) (an : Option Addr) (cdv ct : Value) (us : List Value) (hl : us.length = (["_law_thing", "_law_size"] : List Str).length) : bindArgs (PySem.W.fnOf "_law_are" "_law_are" (defArgs (top 86)) (defBody (top 86)) (defScope (top 86)) .none kV doc pm an cdv ct) ⟨us, []⟩ = pure ((["_law_thing", "_law_size"] : List Str).zip us) := match us, hl with | [_, _], _ => rfl
theorem ba__law_cleared (kV doc pm : Value) (an : Option Addr) (cdv ct : Value) (us : List Value) (hl : us.length = (["_law_row"] : List Str).length) : bindArgs (PySem.W.fnOf "_law_cleared" "_law_cleared" (defArgs (top 87)) (defBody (top 87)) (defScope (top 87)) .none kV doc pm an cdv ct) ⟨us, []⟩ = pure ((["_law_row"] : List Str).zip us) := match us, hl with | [_], _ => rfl
theorem ba__law_rank (kV doc pm : Value) (an : Option Addr) (cdv ct : Value) (us : List Value) (hl : us.length = (["_law_some"] : List Str).length) : bindArgs (PySem.W.fnOf "_law_rank" "_law_rank" (defArgs (top 88)) (defBody (top 88)) (defScope (top 88)) .none kV doc pm an cdv ct) ⟨us, []⟩ = pure ((["_law_some"] : List Str).zip us) := match us, hl with | [_], _ => rfl
theorem ba__law_number (kV doc pm : Value) (an : Option Addr) (cdv ct : Value) (us : List Value) (hl : us.length = (["_law_well_here", "_law_sort"] : List Str).length) : bindArgs (PySem.W.fnOf "_law_number" "_law_number" (defArgs (top 89)) (defBody (top 89)) (defScope (top 89)) .none kV doc pm an cdv ct) ⟨us, []⟩ = pure ((["_law_well_here", "_law_sort"] : List Str).zip us) := match us, hl with | [_, _], _ => rfl
theorem ba__law_point (kV doc pm : Value) (an : Option Addr) (cdv ct : Value) (us : List Value) (hl : us.length = (["_law_well_here", "_law_sort"] : List Str).length) : bindArgs (PySem.W.fnOf "_law_point" "_law_point" (defArgs (top 90)) (defBody (top 90)) (defScope (top 90)) .none kV doc pm an cdv ct) ⟨us, []⟩ = pure ((["_law_well_here", "_law_sort"] : List Str).zip us) := match us, hl with | [_, _], _ => rfl
theorem ba__law_along (kV doc pm : Value) (an : Option Addr) (cdv ct : Value) (us : List Value) (hl : us.length = (["_law_well_here", "_law_sort"] : List Str).length) : bindArgs (PySem.W.fnOf "_law_along" "_law_along" (defArgs (top 91)) (defBody (top 91)) (defScope (top 91)) .none kV doc pm an cdv ct) ⟨us, []⟩ = pure ((["_law_well_here", "_law_sort"] : List Str).zip us) := match us, hl with | [_, _], _ => rfl
theorem ba__law_way (kV doc pm : Value) (an : Option Addr) (cdv ct : Value) (us : List Value) (hl : us.length = (["_law_well_here", "_law_sort"] : List Str).length) : bindArgs (PySem.W.fnOf "_law_way" "_law_way" (defArgs (top 92)) (defBody (top 92)) (defScope (top 92)) .none kV doc pm an cdv ct) ⟨us, []⟩ = pure ((["_law_well_here", "_law_sort"] : List Str).zip us) := match us, hl with | [_, _], _ => rfl
theorem ba__law_scale (kV doc pm : Value) (an : Option Addr) (cdv ct : Value) (us : List Value) (hl : us.length = (["_law_well_here"] : List Str).length) : bindArgs (PySem.W.fnOf "_law_scale" "_law_scale" (defArgs (top 93)) (defBody (top 93)) (defScope (top 93)) .none kV doc pm an cdv ct) ⟨us, []⟩ = pure ((["_law_well_here"] : List Str).zip us) := match us, hl with | [_], _ => rfl
theorem ba__law_little (kV doc pm : Value) (an : Option Addr) (cdv ct : Value) (us : List Value) (hl : us.length = (["_law_well_here"] : List Str).length) : bindArgs (PySem.W.fnOf "_law_little" "_law_little" (defArgs (top 94)) (defBody (top 94)) (defScope (top 94)) .none kV doc pm an cdv ct) ⟨us, []⟩ = pure ((["_law_well_here"] : List Str).zip us) := match us, hl with | [_], _ => rfl
theorem ba__law_less (kV doc pm : Value) (an : Option Addr) (cdv ct : Value) (us : List Value) (hl : us.length = (["_law_one", "_law_two"] : List Str).length) : bindArgs (PySem.W.fnOf "_law_less" "_law_less" (defArgs (top 95)) (defBody (top 95)) (defScope (top 95)) .none kV doc pm an cdv ct) ⟨us, []⟩ = pure ((["_law_one", "_law_two"] : List Str).zip us) := match us, hl with | [_, _], _ => rfl
theorem ba__law_within (kV doc pm : Value) (an : Option Addr) (cdv ct : Value) (us : List Value) (hl : us.length = (["_law_told", "_law_one"] : List Str).length) : bindArgs (PySem.W.fnOf "_law_within" "_law_within" (defArgs (top 96)) (defBody (top 96)) (defScope (top 96)) .none kV doc pm an cdv ct) ⟨us, []⟩ = pure ((["_law_told", "_law_one"] : List Str).zip us) := match us, hl with | [_, _], _ => rfl
theorem ba__law_pins (kV doc pm : Value) (an : Option Addr) (cdv ct : Value) (us : List Value) (hl : us.length = (["_law_well_here", "_law_sort"] : List Str).length) : bindArgs (PySem.W.fnOf "_law_pins" "_law_pins" (defArgs (top 97)) (defBody (top 97)) (defScope (top 97)) .none kV doc pm an cdv ct) ⟨us, []⟩ = pure ((["_law_well_here", "_law_sort"] : List Str).zip us) := match us, hl with | [_, _], _ => rfl
theorem ba__law_pushes (kV doc pm : Value) (an : Option Addr) (cdv ct : Value) (us : List Value) (hl : us.length = (["_law_pins_here"] : List Str).length) : bindArgs (PySem.W.fnOf "_law_pushes" "_law_pushes" (defArgs (top 98)) (defBody (top 98)) (defScope (top 98)) .none kV doc pm an cdv ct) ⟨us, []⟩ = pure ((["_law_pins_here"] : List Str).zip us) := match us, hl with | [_], _ => rfl
theorem ba__law_room (kV doc pm : Value) (an : Option Addr) (cdv ct : Value) (us : List Value) (hl : us.length = (["_law_well_here"] : List Str).length) : bindArgs (PySem.W.fnOf "_law_room" "_law_room" (defArgs (top 99)) (defBody (top 99)) (defScope (top 99)) .none kV doc pm an cdv ct) ⟨us, []⟩ = pure ((["_law_well_here"] : List Str).zip us) := match us, hl with | [_], _ => rfl
theorem ba__law_stretched (kV doc pm : Value) (an : Option Addr) (cdv ct : Value) (us : List Value) (hl : us.length = (["_law_well_here", "_law_pins_here", "_law_way_here"] : List Str).length) : bindArgs (PySem.W.fnOf "_law_stretched" "_law_stretched" (defArgs (top 100)) (defBody (top 100)) (defScope (top 100)) .none kV doc pm an cdv ct) ⟨us, []⟩ = pure ((["_law_well_here", "_law_pins_here", "_law_way_here"] : List Str).zip us) := match us, hl with | [_, _, _], _ => rfl
theorem ba__law_worth (kV doc pm : Value) (an : Option Addr) (cdv ct : Value) (us : List Value) (hl : us.length = (["_law_pins_here", "_law_weights", "_law_most"] : List Str).length) : bindArgs (PySem.W.fnOf "_law_worth" "_law_worth" (defArgs (top 101)) (defBody (top 101)) (defScope (top 101)) .none kV doc pm an cdv ct) ⟨us, []⟩ = pure ((["_law_pins_here", "_law_weights", "_law_most"] : List Str).zip us) := match us, hl with | [_, _, _], _ => rfl
theorem ba__law_sign (kV doc pm : Value) (an : Option Addr) (cdv ct : Value) (us : List Value) (hl : us.length = (["_law_well_here", "_law_pins_here", "_law_sort"] : List Str).length) : bindArgs (PySem.W.fnOf "_law_sign" "_law_sign" (defArgs (top 102)) (defBody (top 102)) (defScope (top 102)) .none kV doc pm an cdv ct) ⟨us, []⟩ = pure ((["_law_well_here", "_law_pins_here", "_law_sort"] : List Str).zip us) := match us, hl with | [_, _, _], _ => rfl
theorem ba__law_shared (kV doc pm : Value) (an : Option Addr) (cdv ct : Value) (us : List Value) (hl : us.length = (["_law_pins_here", "_law_goal", "_law_shares"] : List Str).length) : bindArgs (PySem.W.fnOf "_law_shared" "_law_shared" (defArgs (top 103)) (defBody (top 103)) (defScope (top 103)) .none kV doc pm an cdv ct) ⟨us, []⟩ = pure ((["_law_pins_here", "_law_goal", "_law_shares"] : List Str).zip us) := match us, hl with | [_, _, _], _ => rfl
theorem ba__law_right (kV doc pm : Value) (an : Option Addr) (cdv ct : Value) (us : List Value) (hl : us.length = (["_law_well_here"] : List Str).length) : bindArgs (PySem.W.fnOf "_law_right" "_law_right" (defArgs (top 104)) (defBody (top 104)) (defScope (top 104)) .none kV doc pm an cdv ct) ⟨us, []⟩ = pure ((["_law_well_here"] : List Str).zip us) := match us, hl with | [_], _ => rfl
theorem ba_law (kV doc pm : Value) (an : Option Addr) (cdv ct : Value) (us : List Value) (hl : us.length = (["_law_script"] : List Str).length) : bindArgs (PySem.W.fnOf "law" "law" (defArgs (top 105)) (defBody (top 105)) (defScope (top 105)) .none kV doc pm an cdv ct) ⟨us, []⟩ = pure ((["_law_script"] : List Str).zip us) := match us, hl with | [_], _ => rfl
theorem facts (X : K.In h) (G : h.Ns mainGlobals mg) (c : He.SaysD fa fn K) (x : xB K = true) : Sp.Al ⟨P, w, K, mg, base⟩ := by
  obtain ⟨x1, x⟩ := Bool.and_eq_true_iff.mp x
  obtain ⟨x2, x⟩ := Bool.and_eq_true_iff.mp x
  obtain ⟨x3, x⟩ := Bool.and_eq_true_iff.mp x
  obtain ⟨x4, x⟩ := Bool.and_eq_true_iff.mp x
  obtain ⟨x5, x⟩ := Bool.and_eq_true_iff.mp x
  obtain ⟨x6, x7⟩ := Bool.and_eq_true_iff.mp x
  obtain ⟨_, F0⟩ := c.def_ 0 (d := dD "is_whole" 7) rfl
  obtain ⟨_, F1⟩ := c.def_ 1 (d := dD "common_part" 8) rfl
  obtain ⟨_, F2⟩ := c.def_ 2 (d := dD "lowest" 9) rfl
  obtain ⟨_, F3⟩ := c.def_ 3 (d := dD "lowest_over" 10) rfl
  obtain ⟨_, F4⟩ := c.def_ 4 (d := dD "ratio" 11) rfl
  obtain ⟨_, F5⟩ := c.def_ 5 (d := dD "product_sum" 12) rfl
  obtain ⟨_, F6⟩ := c.def_ 6 (d := dD "minus" 14) rfl
  obtain ⟨_, F7⟩ := c.def_ 7 (d := dD "times" 15) rfl
  obtain ⟨_, F8⟩ := c.def_ 8 (d := dD "is_below" 16) rfl
  obtain ⟨_, F9⟩ := c.def_ 9 (d := dD "over_one" 17) rfl
  obtain ⟨_, F10⟩ := c.def_ 10 (d := dD "parts_over" 18) rfl
  obtain ⟨_, F11⟩ := c.def_ 11 (d := dD "is_fraction" 21) rfl
  obtain ⟨_, F12⟩ := c.def_ 12 (d := dD "are_fractions" 22) rfl
  obtain ⟨_, F13⟩ := c.def_ 13 (d := dD "is_triple" 23) rfl
  obtain ⟨_, F14⟩ := c.def_ 14 (d := dD "is_direction" 24) rfl
  obtain ⟨_, F15⟩ := c.def_ 15 (d := dD "crossed" 25) rfl
  obtain ⟨_, F16⟩ := c.def_ 16 (d := dD "row_of" 27) rfl
  obtain ⟨_, F17⟩ := c.def_ 17 (d := dD "screw_of" 28) rfl
  obtain ⟨_, F18⟩ := c.def_ 18 (d := dD "pushed" 29) rfl
  obtain ⟨_, F19⟩ := c.def_ 19 (d := dD "lowest_row" 31) rfl
  obtain ⟨_, F20⟩ := c.def_ 20 (d := dD "whole_row" 32) rfl
  obtain ⟨_, F21⟩ := c.def_ 21 (d := dD "first_place" 33) rfl
  obtain ⟨_, F22⟩ := c.def_ 22 (d := dD "cleared" 34) rfl
  obtain ⟨_, F23⟩ := c.def_ 23 (d := dD "stairs_of" 35) rfl
  obtain ⟨_, F24⟩ := c.def_ 24 (d := dD "shares_for" 36) rfl
  obtain ⟨_, F25⟩ := c.def_ 25 (d := dD "step_at" 38) rfl
  obtain ⟨_, F26⟩ := c.def_ 26 (d := dD "entering" 39) rfl
  obtain ⟨_, F27⟩ := c.def_ 27 (d := dD "leaving" 40) rfl
  obtain ⟨_, F28⟩ := c.def_ 28 (d := dD "descend" 41) rfl
  obtain ⟨_, F29⟩ := c.def_ 29 (d := dD "first_table" 42) rfl
  obtain ⟨_, F30⟩ := c.def_ 30 (d := dD "helpers_out" 43) rfl
  obtain ⟨_, F31⟩ := c.def_ 31 (d := dD "row_of_costs" 44) rfl
  obtain ⟨_, F32⟩ := c.def_ 32 (d := dD "least_of" 45) rfl
  obtain ⟨_, F33⟩ := c.def_ 33 (d := dD "rows_across" 47) rfl
  obtain ⟨_, F34⟩ := c.def_ 34 (d := dD "opposite_parts" 48) rfl
  obtain ⟨_, F35⟩ := c.def_ 35 (d := dD "is_pin" 52) rfl
  obtain ⟨_, F36⟩ := c.def_ 36 (d := dD "wrong_pin" 53) rfl
  obtain ⟨_, F37⟩ := c.def_ 37 (d := dD "check_gauge" 54) rfl
  obtain ⟨_, F38⟩ := c.def_ 38 (d := dD "is_mark" 55) rfl
  obtain ⟨_, F39⟩ := c.def_ 39 (d := dD "check_marked" 56) rfl
  obtain ⟨_, F40⟩ := c.def_ 40 (d := dD "pin_rows" 57) rfl
  obtain ⟨_, F41⟩ := c.def_ 41 (d := dD "mark_row" 58) rfl
  obtain ⟨_, F42⟩ := c.def_ 42 (d := dD "move_of_row" 59) rfl
  obtain ⟨_, F43⟩ := c.def_ 43 (d := dD "bound_on" 60) rfl
  obtain ⟨_, F44⟩ := c.def_ 44 (d := dD "mark_shares" 61) rfl
  obtain ⟨_, F45⟩ := c.def_ 45 (d := dD "bounds_of" 62) rfl
  obtain ⟨_, F46⟩ := c.def_ 46 (d := dD "mark_range" 63) rfl
  obtain ⟨_, F47⟩ := c.def_ 47 (d := dD "range_weights" 64) rfl
  obtain ⟨_, F48⟩ := c.def_ 48 (d := dD "_law_well" 66) rfl
  obtain ⟨_, F49⟩ := c.def_ 49 (d := dD "_law_draw" 67) rfl
  obtain ⟨_, F50⟩ := c.def_ 50 (d := dD "_law_pick" 68) rfl
  obtain ⟨_, F51⟩ := c.def_ 51 (d := dD "_law_lean" 69) rfl
  obtain ⟨_, F52⟩ := c.def_ 52 (d := dD "_law_summed" 70) rfl
  obtain ⟨_, F53⟩ := c.def_ 53 (d := dD "_law_added" 71) rfl
  obtain ⟨_, F54⟩ := c.def_ 54 (d := dD "_law_times" 72) rfl
  obtain ⟨_, F55⟩ := c.def_ 55 (d := dD "_law_is_less" 73) rfl
  obtain ⟨_, F56⟩ := c.def_ 56 (d := dD "_law_minor" 74) rfl
  obtain ⟨_, F57⟩ := c.def_ 57 (d := dD "_law_cross" 75) rfl
  obtain ⟨_, F58⟩ := c.def_ 58 (d := dD "_law_plus" 76) rfl
  obtain ⟨_, F59⟩ := c.def_ 59 (d := dD "_law_scaled" 77) rfl
  obtain ⟨_, F60⟩ := c.def_ 60 (d := dD "_law_is_nought" 78) rfl
  obtain ⟨_, F61⟩ := c.def_ 61 (d := dD "_law_axes" 79) rfl
  obtain ⟨_, F62⟩ := c.def_ 62 (d := dD "_law_nought" 80) rfl
  obtain ⟨_, F63⟩ := c.def_ 63 (d := dD "_law_line" 81) rfl
  obtain ⟨_, F64⟩ := c.def_ 64 (d := dD "_law_power" 82) rfl
  obtain ⟨_, F65⟩ := c.def_ 65 (d := dD "_law_mixed" 83) rfl
  obtain ⟨_, F66⟩ := c.def_ 66 (d := dD "_law_is_whole" 84) rfl
  obtain ⟨_, F67⟩ := c.def_ 67 (d := dD "_law_is_fraction" 85) rfl
  obtain ⟨_, F68⟩ := c.def_ 68 (d := dD "_law_are" 86) rfl
  obtain ⟨_, F69⟩ := c.def_ 69 (d := dD "_law_cleared" 87) rfl
  obtain ⟨_, F70⟩ := c.def_ 70 (d := dD "_law_rank" 88) rfl
  obtain ⟨_, F71⟩ := c.def_ 71 (d := dD "_law_number" 89) rfl
  obtain ⟨_, F72⟩ := c.def_ 72 (d := dD "_law_point" 90) rfl
  obtain ⟨_, F73⟩ := c.def_ 73 (d := dD "_law_along" 91) rfl
  obtain ⟨_, F74⟩ := c.def_ 74 (d := dD "_law_way" 92) rfl
  obtain ⟨_, F75⟩ := c.def_ 75 (d := dD "_law_scale" 93) rfl
  obtain ⟨_, F76⟩ := c.def_ 76 (d := dD "_law_little" 94) rfl
  obtain ⟨_, F77⟩ := c.def_ 77 (d := dD "_law_less" 95) rfl
  obtain ⟨_, F78⟩ := c.def_ 78 (d := dD "_law_within" 96) rfl
  obtain ⟨_, F79⟩ := c.def_ 79 (d := dD "_law_pins" 97) rfl
  obtain ⟨_, F80⟩ := c.def_ 80 (d := dD "_law_pushes" 98) rfl
  obtain ⟨_, F81⟩ := c.def_ 81 (d := dD "_law_room" 99) rfl
  obtain ⟨_, F82⟩ := c.def_ 82 (d := dD "_law_stretched" 100) rfl
  obtain ⟨_, F83⟩ := c.def_ 83 (d := dD "_law_worth" 101) rfl
  obtain ⟨_, F84⟩ := c.def_ 84 (d := dD "_law_sign" 102) rfl
  obtain ⟨_, F85⟩ := c.def_ 85 (d := dD "_law_shared" 103) rfl
  obtain ⟨_, F86⟩ := c.def_ 86 (d := dD "_law_right" 104) rfl
  obtain ⟨_, F87⟩ := c.def_ 87 (d := dD "law" 105) rfl
  exact ⟨def_of F0 (He.glo_ok X G (c.fact 0 (f := .glo "is_whole") rfl)) ba_is_whole,
    def_of F1 (He.glo_ok X G (c.fact 1 (f := .glo "common_part") rfl)) ba_common_part,
    def_of F2 (He.glo_ok X G (c.fact 2 (f := .glo "lowest") rfl)) ba_lowest,
    def_of F3 (He.glo_ok X G (c.fact 3 (f := .glo "lowest_over") rfl)) ba_lowest_over,
    def_of F4 (He.glo_ok X G (c.fact 4 (f := .glo "ratio") rfl)) ba_ratio,
    def_of F5 (He.glo_ok X G (c.fact 5 (f := .glo "product_sum") rfl)) ba_product_sum,
    def_of F6 (He.glo_ok X G (c.fact 6 (f := .glo "minus") rfl)) ba_minus,
    def_of F7 (He.glo_ok X G (c.fact 7 (f := .glo "times") rfl)) ba_times,
    def_of F8 (He.glo_ok X G (c.fact 8 (f := .glo "is_below") rfl)) ba_is_below,
    def_of F9 (He.glo_ok X G (c.fact 9 (f := .glo "over_one") rfl)) ba_over_one,
    def_of F10 (He.glo_ok X G (c.fact 10 (f := .glo "parts_over") rfl)) ba_parts_over,
    def_of F11 (He.glo_ok X G (c.fact 11 (f := .glo "is_fraction") rfl)) ba_is_fraction,
    def_of F12 (He.glo_ok X G (c.fact 12 (f := .glo "are_fractions") rfl)) ba_are_fractions,
    def_of F13 (He.glo_ok X G (c.fact 13 (f := .glo "is_triple") rfl)) ba_is_triple,
    def_of F14 (He.glo_ok X G (c.fact 14 (f := .glo "is_direction") rfl)) ba_is_direction,
    def_of F15 (He.glo_ok X G (c.fact 15 (f := .glo "crossed") rfl)) ba_crossed,
    def_of F16 (He.glo_ok X G (c.fact 16 (f := .glo "row_of") rfl)) ba_row_of,
    def_of F17 (He.glo_ok X G (c.fact 17 (f := .glo "screw_of") rfl)) ba_screw_of,
    def_of F18 (He.glo_ok X G (c.fact 18 (f := .glo "pushed") rfl)) ba_pushed,
    def_of F19 (He.glo_ok X G (c.fact 19 (f := .glo "lowest_row") rfl)) ba_lowest_row,
    def_of F20 (He.glo_ok X G (c.fact 20 (f := .glo "whole_row") rfl)) ba_whole_row,
    def_of F21 (He.glo_ok X G (c.fact 21 (f := .glo "first_place") rfl)) ba_first_place,
    def_of F22 (He.glo_ok X G (c.fact 22 (f := .glo "cleared") rfl)) ba_cleared,
    def_of F23 (He.glo_ok X G (c.fact 23 (f := .glo "stairs_of") rfl)) ba_stairs_of,
    def_of F24 (He.glo_ok X G (c.fact 24 (f := .glo "shares_for") rfl)) ba_shares_for,
    def_of F25 (He.glo_ok X G (c.fact 25 (f := .glo "step_at") rfl)) ba_step_at,
    def_of F26 (He.glo_ok X G (c.fact 26 (f := .glo "entering") rfl)) ba_entering,
    def_of F27 (He.glo_ok X G (c.fact 27 (f := .glo "leaving") rfl)) ba_leaving,
    def_of F28 (He.glo_ok X G (c.fact 28 (f := .glo "descend") rfl)) ba_descend,
    def_of F29 (He.glo_ok X G (c.fact 29 (f := .glo "first_table") rfl)) ba_first_table,
    def_of F30 (He.glo_ok X G (c.fact 30 (f := .glo "helpers_out") rfl)) ba_helpers_out,
    def_of F31 (He.glo_ok X G (c.fact 31 (f := .glo "row_of_costs") rfl)) ba_row_of_costs,
    def_of F32 (He.glo_ok X G (c.fact 32 (f := .glo "least_of") rfl)) ba_least_of,
    def_of F33 (He.glo_ok X G (c.fact 33 (f := .glo "rows_across") rfl)) ba_rows_across,
    def_of F34 (He.glo_ok X G (c.fact 34 (f := .glo "opposite_parts") rfl)) ba_opposite_parts,
    def_of F35 (He.glo_ok X G (c.fact 35 (f := .glo "is_pin") rfl)) ba_is_pin,
    def_of F36 (He.glo_ok X G (c.fact 36 (f := .glo "wrong_pin") rfl)) ba_wrong_pin,
    def_of F37 (He.glo_ok X G (c.fact 37 (f := .glo "check_gauge") rfl)) ba_check_gauge,
    def_of F38 (He.glo_ok X G (c.fact 38 (f := .glo "is_mark") rfl)) ba_is_mark,
    def_of F39 (He.glo_ok X G (c.fact 39 (f := .glo "check_marked") rfl)) ba_check_marked,
    def_of F40 (He.glo_ok X G (c.fact 40 (f := .glo "pin_rows") rfl)) ba_pin_rows,
    def_of F41 (He.glo_ok X G (c.fact 41 (f := .glo "mark_row") rfl)) ba_mark_row,
    def_of F42 (He.glo_ok X G (c.fact 42 (f := .glo "move_of_row") rfl)) ba_move_of_row,
    def_of F43 (He.glo_ok X G (c.fact 43 (f := .glo "bound_on") rfl)) ba_bound_on,
    def_of F44 (He.glo_ok X G (c.fact 44 (f := .glo "mark_shares") rfl)) ba_mark_shares,
    def_of F45 (He.glo_ok X G (c.fact 45 (f := .glo "bounds_of") rfl)) ba_bounds_of,
    defK_of F46 (He.glo_ok X G (c.fact 46 (f := .glo "mark_range") rfl)) ba_mark_range fun _ _ _ _ _ _ _ _ => rfl,
    defK_of F47 (He.glo_ok X G (c.fact 47 (f := .glo "range_weights") rfl)) ba_range_weights fun _ _ _ _ _ _ _ _ => rfl,
    def_of F48 (He.glo_ok X G (c.fact 48 (f := .glo "_law_well") rfl)) ba__law_well,
    def_of F49 (He.glo_ok X G (c.fact 49 (f := .glo "_law_draw") rfl)) ba__law_draw,
    def_of F50 (He.glo_ok X G (c.fact 50 (f := .glo "_law_pick") rfl)) ba__law_pick,
    def_of F51 (He.glo_ok X G (c.fact 51 (f := .glo "_law_lean") rfl)) ba__law_lean,
    def_of F52 (He.glo_ok X G (c.fact 52 (f := .glo "_law_summed") rfl)) ba__law_summed,
    def_of F53 (He.glo_ok X G (c.fact 53 (f := .glo "_law_added") rfl)) ba__law_added,
    def_of F54 (He.glo_ok X G (c.fact 54 (f := .glo "_law_times") rfl)) ba__law_times,
    def_of F55 (He.glo_ok X G (c.fact 55 (f := .glo "_law_is_less") rfl)) ba__law_is_less,
    def_of F56 (He.glo_ok X G (c.fact 56 (f := .glo "_law_minor") rfl)) ba__law_minor,
    def_of F57 (He.glo_ok X G (c.fact 57 (f := .glo "_law_cross") rfl)) ba__law_cross,
    def_of F58 (He.glo_ok X G (c.fact 58 (f := .glo "_law_plus") rfl)) ba__law_plus,
    def_of F59 (He.glo_ok X G (c.fact 59 (f := .glo "_law_scaled") rfl)) ba__law_scaled,
    def_of F60 (He.glo_ok X G (c.fact 60 (f := .glo "_law_is_nought") rfl)) ba__law_is_nought,
    def_of F61 (He.glo_ok X G (c.fact 61 (f := .glo "_law_axes") rfl)) ba__law_axes,
    def_of F62 (He.glo_ok X G (c.fact 62 (f := .glo "_law_nought") rfl)) ba__law_nought,
    def_of F63 (He.glo_ok X G (c.fact 63 (f := .glo "_law_line") rfl)) ba__law_line,
    def_of F64 (He.glo_ok X G (c.fact 64 (f := .glo "_law_power") rfl)) ba__law_power,
    def_of F65 (He.glo_ok X G (c.fact 65 (f := .glo "_law_mixed") rfl)) ba__law_mixed,
    def_of F66 (He.glo_ok X G (c.fact 66 (f := .glo "_law_is_whole") rfl)) ba__law_is_whole,
    def_of F67 (He.glo_ok X G (c.fact 67 (f := .glo "_law_is_fraction") rfl)) ba__law_is_fraction,
    def_of F68 (He.glo_ok X G (c.fact 68 (f := .glo "_law_are") rfl)) ba__law_are,
    def_of F69 (He.glo_ok X G (c.fact 69 (f := .glo "_law_cleared") rfl)) ba__law_cleared,
    def_of F70 (He.glo_ok X G (c.fact 70 (f := .glo "_law_rank") rfl)) ba__law_rank,
    def_of F71 (He.glo_ok X G (c.fact 71 (f := .glo "_law_number") rfl)) ba__law_number,
    def_of F72 (He.glo_ok X G (c.fact 72 (f := .glo "_law_point") rfl)) ba__law_point,
    def_of F73 (He.glo_ok X G (c.fact 73 (f := .glo "_law_along") rfl)) ba__law_along,
    def_of F74 (He.glo_ok X G (c.fact 74 (f := .glo "_law_way") rfl)) ba__law_way,
    def_of F75 (He.glo_ok X G (c.fact 75 (f := .glo "_law_scale") rfl)) ba__law_scale,
    def_of F76 (He.glo_ok X G (c.fact 76 (f := .glo "_law_little") rfl)) ba__law_little,
    def_of F77 (He.glo_ok X G (c.fact 77 (f := .glo "_law_less") rfl)) ba__law_less,
    def_of F78 (He.glo_ok X G (c.fact 78 (f := .glo "_law_within") rfl)) ba__law_within,
    def_of F79 (He.glo_ok X G (c.fact 79 (f := .glo "_law_pins") rfl)) ba__law_pins,
    def_of F80 (He.glo_ok X G (c.fact 80 (f := .glo "_law_pushes") rfl)) ba__law_pushes,
    def_of F81 (He.glo_ok X G (c.fact 81 (f := .glo "_law_room") rfl)) ba__law_room,
    def_of F82 (He.glo_ok X G (c.fact 82 (f := .glo "_law_stretched") rfl)) ba__law_stretched,
    def_of F83 (He.glo_ok X G (c.fact 83 (f := .glo "_law_worth") rfl)) ba__law_worth,
    def_of F84 (He.glo_ok X G (c.fact 84 (f := .glo "_law_sign") rfl)) ba__law_sign,
    def_of F85 (He.glo_ok X G (c.fact 85 (f := .glo "_law_shared") rfl)) ba__law_shared,
    def_of F86 (He.glo_ok X G (c.fact 86 (f := .glo "_law_right") rfl)) ba__law_right,
    def_of F87 (He.glo_ok X G (c.fact 87 (f := .glo "law") rfl)) ba_law,
    He.free_ok X G (c.fact 88 (f := .free "isinstance") rfl),
    He.free_ok X G (c.fact 89 (f := .free "int") rfl),
    He.free_ok X G (c.fact 90 (f := .free "bool") rfl),
    He.free_ok X G (c.fact 91 (f := .free "tuple") rfl),
    He.free_ok X G (c.fact 92 (f := .free "len") rfl),
    He.free_ok X G (c.fact 93 (f := .free "range") rfl),
    He.free_ok X G (c.fact 94 (f := .free "zip") rfl),
    He.free_ok X G (c.fact 95 (f := .free "enumerate") rfl),
    He.free_ok X G (c.fact 96 (f := .free "sum") rfl),
    He.free_ok X G (c.fact 97 (f := .free "list") rfl),
    He.free_ok X G (c.fact 98 (f := .free "sorted") rfl),
    He.free_ok X G (c.fact 99 (f := .free "abs") rfl),
    He.free_ok X G (c.fact 100 (f := .free "divmod") rfl),
    He.free_ok X G (c.fact 101 (f := .free "repr") rfl),
    He.free_ok X G (c.fact 102 (f := .free "all") rfl),
    PySem.W.mg_of X G (He.eqO_ok x1),
    PySem.W.mg_of X G (He.eqO_ok x2),
    He.int_ok X G x3,
    ⟨_, He.glo_ok X G x4, noughts_at x6 _⟩,
    ⟨_, He.glo_ok X G x5, noughts_at x7 _⟩⟩
end
end HeadK
namespace HeadK
open PySem PySem.Spec PyProof.Rows L2 Ly
theorem ints_dp {K : PySem.W.Frag} {H : Hp} (ns : List Int) : DpAll K H (ns.map V.int) (ns.map PyData.int) := by
  induction ns with
  | nil => exact .nil
  | cons n r ih => exact .cons (.int n) ih
theorem ints_vals {vs : List Value} {ns : List Int} (h : IntsAre vs ns) : Vals (ns.map V.int) vs := by
  induction h with
  | nil => exact .nil
  | cons n t _ ih => exact .cons ⟨t, rfl⟩ ih
/-- the law asked from outside: nothing is known but its script -/
theorem asked {P : Program} {w : World} {K : PySem.W.Frag} {mg mb : Str → Option Value} {s : Shared} {a f0 : Addr} {vs : List Value} {ns : List Int} {H : Hp}
    (kin : K.In s.heap) (G : s.heap.Ns mainGlobals mg) (B : s.heap.Ns builtinsNs mb) (bb : ∀ x : Str, x ≠ "__name__" → mb x = bootBuiltins x) (lim : s.heap.NoLimit) (gn : s.gens = #[])
    (it : s.heap.get? a = some { cls := .type "list", data := .seq vs.toArray }) (c : He.SaysD fa fn K) (x : xB K = true) (hm : mg "law" = some (.ref f0))
    (only : ∀ b, H b ≠ none → b = a) (fz : ∀ u, H a = some u → ∃ o xs, u = .frz o (.lst xs)) (S : SqL K H a (ns.map V.int)) (ok : HOk P w H s.heap) (out : H a ≠ none → K.lookup a = none) :
    codeAny (model P w) callerA (.call (.ref f0) ⟨[.ref a], []⟩) (fun r t => r = .ok (.ret (.bool true)) ∧ OldK s.heap t.heap ∧ t.os = s.os ∧ AllBare t.gens) s := by
  have seen : ∀ {b : Addr} {o : Obj}, s.heap.get? b = some o → (b = a → H a = none) → (hidT s.heap H).get? b = some o := fun {b o} e n => hidT_get e (Classical.byContradiction fun z => z (by
    have e2 := only _ z
    rw [e2]
    exact n e2))
  have names : ∀ {b : Addr} {m : Str → Option Value}, s.heap.Ns b m → (hidT s.heap H).Ns b m := fun {b m} z => by
    obtain ⟨o, es, ep, e, d, r⟩ := z
    refine ⟨o, es, ep, seen e fun q => ?_, d, r⟩
    rw [q, it] at e
    cases e
    cases d
  have kin2 : K.In (hidT s.heap H) := fun b o e => seen (kin b o e) fun q => Classical.byContradiction fun n => by
    rw [q, out n] at e
    cases e
  have lim2 : (hidT s.heap H).NoLimit := by
    obtain ⟨mc, l1, l2⟩ := lim
    exact ⟨mc, names l1, l2⟩
  have A : Sp.Al ⟨P, w, K, mg, hidT s.heap H⟩ := facts kin G c x
  obtain ⟨f, fd, F, hm2, _, hb⟩ := (Sp.k_law A).ex
  cases hm.symm.trans hm2
  have e0 : Env0 P w K mg (hidT s.heap H) callerA [] s H := {
    frames := rfl
    mod := ⟨kin2, names G, ⟨mb, names B, bb⟩, lim2⟩
    bs := fun _ _ e => of_hidT e
    bsz := Nat.le_of_eq (hidT_size _ _)
    funs := trivial
    frf := fun _ z => nomatch z
    hok := ok
    bare := .of_eq gn }
  have room : Room 13 callerA := ⟨rfl, by decide, by decide⟩
  have known : Ok K [some (V.ref a)] H H [.dat (.list (ns.map .int))] := by
    refine ⟨rfl, Ex.refl H, fun i d q => ?_, fun i b xs q => ?_, fun i j b xs ys q => ?_⟩
    · cases i with
      | zero =>
        cases q
        exact ⟨_, rfl, .lst S (ints_dp ns)⟩
      | succ i => cases q
    · cases i <;> cases q
    · cases i <;> cases q
  have said : spD K (preP fun ds post => ∃ ns : List Int, ds = [.list (ns.map .int)] ∧ post (.bool true)) [.ref a] H (fun v _ => v = .bl true) E0 := by
    refine ⟨H, _, fun z _ => z = .dat (.bool true), known, ⟨[.list (ns.map .int)], rfl, ns, rfl, rfl⟩, fun v z args' I' H' _ _ r q => ?_⟩
    subst q
    cases (show Dp K I' v (.bool true) from r)
    rfl
  have go := F.run callerA [] s H ⟨[.ref a], []⟩ [.ref a] [.ref a] (fun v _ => v = .bl true) room rfl e0 (hb s [.ref a] kin rfl) (.cons rfl .nil) said
  refine codeAny_mono go fun r t h => ?_
  cases r with
  | error e => exact h.elim
  | ok fl =>
    cases fl with
    | next => exact h.elim
    | brk => exact h.elim
    | cont => exact h.elim
    | ret u =>
      obtain ⟨v, H', os, bare, un, ok', ru, q⟩ := h
      obtain rfl : v = .bl true := q
      obtain rfl : u = .bool true := ru
      refine ⟨rfl, OldK.of_keep fun b o e => ?_, os, bare⟩
      cases z : H b with
      | none => exact un.keep b o e z (fun y => nomatch y) fun y => nomatch y
      | some y =>
        have e2 := only b (by rw [z]; exact fun n => nomatch n)
        subst e2
        obtain ⟨o2, xs, rfl⟩ := fz _ z
        have k1 := (ok b _ z).1
        have k2 := (ok' b _ (un.frzs b o2 _ z)).1
        rw [e] at k1
        cases k1
        exact k2
theorem law_at {P : Program} {w : World} {K : PySem.W.Frag} {mg mb : Str → Option Value} {s : Shared} {a f0 : Addr} {vs : List Value} {ns : List Int}
    (kin : K.In s.heap) (G : s.heap.Ns mainGlobals mg) (B : s.heap.Ns builtinsNs mb) (bb : ∀ x : Str, x ≠ "__name__" → mb x = bootBuiltins x) (lim : s.heap.NoLimit) (gn : s.gens = #[])
    (it : s.heap.get? a = some { cls := .type "list", data := .seq vs.toArray }) (hi : IntsAre vs ns) (hn : ns.length ≤ sizeLine) (c : He.SaysD fa fn K) (x : xB K = true) (hm : mg "law" = some (.ref f0)) :
    codeAny (model P w) callerA (.call (.ref f0) ⟨[.ref a], []⟩) (fun r t => r = .ok (.ret (.bool true)) ∧ OldK s.heap t.heap ∧ t.os = s.os ∧ AllBare t.gens) s := by
  have rv := ints_vals hi
  cases z : K.lookup a with
  | some o =>
    have e := kin a o z
    rw [it] at e
    cases e
    exact asked (H := fun _ => none) kin G B bb lim gn it c x hm (fun b n => absurd rfl n) (fun u n => nomatch n) (.inr ⟨_, vs.toArray, _, z, rfl, rfl, rfl, by rw [List.size_toArray, hi.length]; exact hn, rv⟩) (fun b u n => nomatch n) fun n => absurd rfl n
  | none =>
    refine asked (H := fun b => if b = a then some (.frz { cls := .type "list", data := .seq vs.toArray } (.lst (ns.map V.int))) else none) kin G B bb lim gn it c x hm (fun b n => ?_) (fun u n => ?_) (.inl (.inr ⟨{ cls := .type "list", data := .seq vs.toArray }, if_pos rfl⟩)) (fun b u n => ?_) fun _ => z
    · exact Classical.byContradiction fun y => n (if_neg y)
    · cases (if_pos rfl).symm.trans n
      exact ⟨_, _, rfl⟩
    · by_cases y : b = a
      · subst y
        cases (if_pos rfl).symm.trans n
        exact ⟨it, by rw [List.length_map]; exact hn, vs, _, rv, it⟩
      · cases (if_neg y).symm.trans n
end HeadK
open PySem PySem.W PySem.Calls PyProof.Rows
theorem PySem.Challenge.cw_sevenpins_k63_whole_weights_of_ranges_holds : PySem.Challenge.rw_sevenpins_k63_whole_weights_of_ranges.Holds := by
  w_on; o_law
  refine HandSHeadRun.head_imp (r := HeadK.R) (q := HeadK.qv) (H := HeadK.hk) (ob := HeadK.ob) (M := 20000) (loose := HeadK.loose) (d := HandSHeadRun.topDef HeadK.R.prog 105) (kwd := []) HeadK.ob_eq
    HeadK.run (by kernel_rfl) (by kernel_rfl) (by kernel_rfl) (by rfl) (by first | assumption | decide +kernel) (by decide +kernel) ⟨rfl, rfl, rfl, rfl, rfl, by decide +kernel⟩ ?hw ?hc
  case hw => w_witness2
  case hc =>
    refine Att.attach_call (l := PySem.Challenge.rw_sevenpins_k63_whole_weights_of_ranges) (n := 63) rfl (by kernel_rfl) fun w s₀ s₁ mg mb fa o pm cd doc a vs ns G Y ho hd hcd hmg hobj hints hlen hg => ?_
    obtain ⟨K, KX, c, x⟩ := Y
    have e : (HandSHeadRun.topDef HeadK.R.prog 105).name = ("law" : PySem.Str) := by kernel_rfl
    rw [e] at hmg
    exact HeadK.law_at KX G.T.g G.T.b G.T.builtins G.T.nolimit hg hobj hints (Nat.le_trans hlen (by decide)) c x hmg
