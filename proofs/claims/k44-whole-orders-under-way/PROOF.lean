import PyProof.Rows.All
import Wide.All
import OpenK.AllK
import Wide.FinOn
import PyProof.ReprRoads
import KE.KTupSum
import KE.GoesEnum
import HandS.ForMost
import HandS.Walk
import HandS.Nested
import HandS.EndTab
import HandS.Wide
import HandS.TupAny
import PySem.Challenge.RW_twomarks_k44_whole_orders_under_way
import HandS.Lambda
set_option Elab.async false
set_option linter.all false
set_option maxRecDepth 100000
set_option maxHeartbeats 8000000
/-! Plain mathematics of the law: chances, the long form, the short table. Core Lean alone. -/
namespace TM
structure Shop where
  top : Int
  depth : Int
  start : Int
  piece : Int
  keep : Int
  lack : Int
  lost : Int
  back : Int
  late : Int

def rc (S : Shop) (x : Int) : Int := S.keep * max x 0 + S.lack * max (0 - x) 0
def en (S : Shop) (x : Int) : Int := S.late * max (0 - x) 0 - S.back * max x 0
def od (S : Shop) (z : Int) : Int := if 0 < z then S.start + S.piece * z else 0
def nst (S : Shop) (level fall : Int) : Int := max (level - fall) (0 - S.depth)
def dc (S : Shop) (level fall : Int) : Int := S.keep * max (nst S level fall) 0 + S.lack * max (0 - nst S level fall) 0 + S.lost * (nst S level fall - (level - fall))
def ec (S : Shop) (x : Int) : Int := if 0 < x then 0 - S.back * x else 0 - S.late * x

theorem dc_rc {S : Shop} {l f : Int} (h : 0 - S.depth ≤ l - f) : dc S l f = rc S (l - f) := by
  have e : nst S l f = l - f := by unfold nst; omega
  unfold dc rc
  rw [e]
  have : l - f - (l - f) = 0 := by omega
  rw [this]
  omega
theorem nst_of {S : Shop} {l f : Int} (h : 0 - S.depth ≤ l - f) : nst S l f = l - f := by unfold nst; omega
theorem ec_en (S : Shop) (x : Int) : ec S x = en S x := by
  unfold ec en
  by_cases h : 0 < x
  · rw [if_pos h, show max (0 - x) 0 = 0 by omega, show max x 0 = x by omega]; omega
  · rw [if_neg h, show max (0 - x) 0 = 0 - x by omega, show max x 0 = 0 by omega]
    grind

/-! ### sums over a day -/
def sI (h : Int → Int → Rat) : Int → List Int → Rat
  | _, [] => 0
  | k, w :: ws => h k w + sI h (k + 1) ws
theorem sI_add (h g : Int → Int → Rat) : ∀ (l : List Int) (k : Int), sI (fun f w => h f w + g f w) k l = sI h k l + sI g k l
  | [], _ => by simp only [sI]; grind
  | w :: ws, k => by simp only [sI, sI_add h g ws]; grind
theorem sI_mul (c : Rat) (h : Int → Int → Rat) : ∀ (l : List Int) (k : Int), sI (fun f w => c * h f w) k l = c * sI h k l
  | [], _ => by simp only [sI]; grind
  | w :: ws, k => by simp only [sI, sI_mul c h ws]; grind
theorem sI_congr {h g : Int → Int → Rat} : ∀ {l : List Int} {k : Int}, (∀ (j : Nat) (w : Int), l[j]? = some w → h (k + j) w = g (k + j) w) → sI h k l = sI g k l
  | [], _, _ => rfl
  | w :: ws, k, H => by
    have h0 := H 0 w rfl
    have h1 : sI h (k + 1) ws = sI g (k + 1) ws := sI_congr fun j w' e => by
      have := H (j + 1) w' (by simpa using e)
      have e2 : k + 1 + (j : Int) = k + ((j + 1 : Nat) : Int) := by omega
      rw [e2]; exact this
    simp only [sI, h1]
    have e3 : k + ((0 : Nat) : Int) = k := by omega
    rw [e3] at h0
    rw [h0]
theorem sI_le {h g : Int → Int → Rat} : ∀ {l : List Int} {k : Int}, (∀ (j : Nat) (w : Int), l[j]? = some w → h (k + j) w ≤ g (k + j) w) → sI h k l ≤ sI g k l
  | [], _, _ => by simp only [sI]; grind
  | w :: ws, k, H => by
    have h0 := H 0 w rfl
    have h1 : sI h (k + 1) ws ≤ sI g (k + 1) ws := sI_le fun j w' e => by
      have := H (j + 1) w' (by simpa using e)
      have e2 : k + 1 + (j : Int) = k + ((j + 1 : Nat) : Int) := by omega
      rw [e2]; exact this
    simp only [sI]
    have e3 : k + ((0 : Nat) : Int) = k := by omega
    rw [e3] at h0
    grind
theorem sI_append (h : Int → Int → Rat) : ∀ (a b : List Int) (k : Int), sI h k (a ++ b) = sI h k a + sI h (k + a.length) b
  | [], b, k => by simp only [sI, List.nil_append, List.length_nil]; rw [show k + ((0 : Nat) : Int) = k by omega]; grind
  | w :: ws, b, k => by
    simp only [sI, List.cons_append, List.length_cons, sI_append h ws b]
    rw [show k + 1 + (ws.length : Int) = k + ((ws.length + 1 : Nat) : Int) by omega]; grind
theorem sI_sum : ∀ (l : List Int) (k : Int) (c : Rat), sI (fun _ w => (w : Rat) * c) k l = c * (l.sum : Int)
  | [], _, c => by simp only [sI, List.sum_nil]; grind
  | w :: ws, k, c => by simp only [sI, List.sum_cons, sI_sum ws]; rw [Rat.intCast_add]; grind
theorem sI_int {h : Int → Int → Rat} (H : ∀ k w, ∃ N : Int, h k w = N) : ∀ (l : List Int) (k : Int), ∃ N : Int, sI h k l = N
  | [], _ => ⟨0, by simp only [sI]; rfl⟩
  | w :: ws, k => by
    obtain ⟨a, ha⟩ := H k w
    obtain ⟨b, hb⟩ := sI_int H ws (k + 1)
    exact ⟨a + b, by simp only [sI, ha, hb]; rw [Rat.intCast_add]⟩

/-! ### rows, chances -/
def Ex : List (List Int) → (List Int → Rat) → Rat
  | [], g => g []
  | one :: F, g => sI (fun f w => (w : Rat) * Ex F (fun r => g (f :: r))) 0 one
def TI : List (List Int) → Int
  | [] => 1
  | one :: F => one.sum * TI F
/-- a seen row -/
inductive Row : List (List Int) → List Int → Prop
  | nil : Row [] []
  | cons {one : List Int} {F : List (List Int)} {r : List Int} {j : Nat} {w : Int} : one[j]? = some w → 0 < w → Row F r → Row (one :: F) ((j : Int) :: r)
/-- the days' weights are no less than 0 -/
def NN (F : List (List Int)) : Prop := ∀ one ∈ F, ∀ w ∈ one, (0 : Int) ≤ w
theorem NN.tail {one : List Int} {F : List (List Int)} (h : NN (one :: F)) : NN F := fun o ho => h o (List.mem_cons_of_mem _ ho)
theorem NN.drop {F : List (List Int)} (h : NN F) (k : Nat) : NN (F.drop k) := fun o ho => h o (List.mem_of_mem_drop ho)
theorem NN.take {F : List (List Int)} (h : NN F) (k : Nat) : NN (F.take k) := fun o ho => h o (List.mem_of_mem_take ho)
theorem E_add : ∀ (F : List (List Int)) (g h : List Int → Rat), Ex F (fun r => g r + h r) = Ex F g + Ex F h
  | [], g, h => rfl
  | one :: F, g, h => by
    simp only [Ex]
    rw [← sI_add]
    congr 1
    funext f w
    rw [E_add F]
    grind
theorem E_smul : ∀ (F : List (List Int)) (c : Rat) (g : List Int → Rat), Ex F (fun r => c * g r) = c * Ex F g
  | [], c, g => rfl
  | one :: F, c, g => by
    simp only [Ex]
    rw [← sI_mul]
    congr 1
    funext f w
    rw [E_smul F]
    grind
theorem E_const : ∀ (F : List (List Int)) (c : Rat), Ex F (fun _ => c) = c * (TI F : Int)
  | [], c => by simp only [Ex, TI]; grind
  | one :: F, c => by
    simp only [Ex, TI]
    rw [show (fun (f w : Int) => (w : Rat) * Ex F fun _ => c) = (fun (_ w : Int) => (w : Rat) * (c * (TI F : Int))) by funext f w; rw [E_const F c]]
    rw [sI_sum, Rat.intCast_mul]
    grind
theorem E_congr : ∀ {F : List (List Int)} {g h : List Int → Rat}, NN F → (∀ r, Row F r → g r = h r) → Ex F g = Ex F h
  | [], g, h, _, H => H [] .nil
  | one :: F, g, h, n, H => by
    simp only [Ex]
    refine sI_congr fun j w e => ?_
    by_cases hw : 0 < w
    · rw [show (0 : Int) + (j : Int) = (j : Int) by omega]
      rw [E_congr n.tail fun r hr => H _ (.cons e hw hr)]
    · have h0 : w = 0 := by
        have := n one List.mem_cons_self w (List.mem_of_getElem? e)
        omega
      rw [h0]
      show (0 : Rat) * _ = (0 : Rat) * _
      grind
theorem E_le : ∀ {F : List (List Int)} {g h : List Int → Rat}, NN F → (∀ r, Row F r → g r ≤ h r) → Ex F g ≤ Ex F h
  | [], g, h, _, H => H [] .nil
  | one :: F, g, h, n, H => by
    simp only [Ex]
    refine sI_le fun j w e => ?_
    have hw0 := n one List.mem_cons_self w (List.mem_of_getElem? e)
    by_cases hw : 0 < w
    · rw [show (0 : Int) + (j : Int) = (j : Int) by omega]
      exact Rat.mul_le_mul_of_nonneg_left (E_le n.tail fun r hr => H _ (.cons e hw hr)) (by
        have := Rat.intCast_le_intCast.mpr hw0
        exact this)
    · have h0 : w = 0 := by omega
      rw [h0]
      show (0 : Rat) * _ ≤ (0 : Rat) * _
      grind
theorem E_int : ∀ (F : List (List Int)) {g : List Int → Rat}, (∀ r, ∃ N : Int, g r = N) → ∃ N : Int, Ex F g = N
  | [], g, H => H []
  | one :: F, g, H => by
    simp only [Ex]
    refine sI_int (fun k w => ?_) one 0
    obtain ⟨N, hN⟩ := E_int F (g := fun r => g (k :: r)) fun r => H _
    exact ⟨w * N, by rw [hN, Rat.intCast_mul]⟩
theorem TI_drop_take : ∀ (F : List (List Int)) (k : Nat), TI (F.take k) * TI (F.drop k) = TI F
  | F, 0 => by simp [TI]
  | [], k + 1 => by simp [TI]
  | one :: F, k + 1 => by
    simp only [List.take_succ_cons, List.drop_succ_cons, TI]
    rw [Int.mul_assoc, TI_drop_take F k]
theorem E_take : ∀ (F : List (List Int)) (k : Nat) (g : List Int → Rat), Ex F (fun r => g (r.take k)) = Ex (F.take k) g * (TI (F.drop k) : Int)
  | F, 0, g => by simp only [List.take_zero, List.drop_zero, Ex]; rw [E_const]
  | [], k + 1, g => by simp only [List.take_nil, List.drop_nil, Ex, TI]; grind
  | one :: F, k + 1, g => by
    simp only [List.take_succ_cons, List.drop_succ_cons, Ex]
    rw [Rat.mul_comm, ← sI_mul]
    congr 1
    funext f w
    rw [E_take F k fun r => g (f :: r)]
    grind
theorem TI_pos : ∀ {F : List (List Int)}, NN F → (∀ one ∈ F, ∃ w ∈ one, (0 : Int) < w) → 0 < TI F
  | [], _, _ => by simp [TI]
  | one :: F, n, p => by
    have h1 := TI_pos n.tail fun o ho => p o (List.mem_cons_of_mem _ ho)
    have h2 : 0 < one.sum := by
      obtain ⟨w, hw, hp⟩ := p one List.mem_cons_self
      have key : ∀ (l : List Int), (∀ x ∈ l, (0 : Int) ≤ x) → (0 ≤ l.sum) ∧ ∀ x ∈ l, x ≤ l.sum := by
        intro l
        induction l with
        | nil => intro _; exact ⟨by simp, fun x hx => by simp at hx⟩
        | cons y l ih =>
          intro hl
          obtain ⟨i1, i2⟩ := ih fun x hx => hl x (List.mem_cons_of_mem _ hx)
          have hy := hl y List.mem_cons_self
          rw [List.sum_cons]
          refine ⟨by omega, fun x hx => ?_⟩
          rcases List.mem_cons.mp hx with rfl | hx
          · omega
          · have := i2 x hx; omega
      have := (key one fun x hx => n one List.mem_cons_self x hx).2 w hw
      omega
    simp only [TI]
    exact Int.mul_pos h2 h1
theorem Row.len : ∀ {F : List (List Int)} {r : List Int}, Row F r → r.length = F.length
  | _, _, .nil => rfl
  | _, _, .cons _ _ h => by simp only [List.length_cons, h.len]
end TM
namespace TM
/-! ### the long form of one row -/
def walkp (S : Shop) (L : Nat) (way : Nat → Int → List Int → Int) : List Int → Nat → List Int → List Int → Int → Int
  | [], _, _, _, lies => en S lies
  | f :: r, t, hist, pipe, lies =>
    if L < (f :: r).length then
      od S (way t (lies + pipe.sum) hist - (lies + pipe.sum)) + rc S (lies + pipe.headD 0 - f) + walkp S L way r (t + 1) (hist ++ [f]) (pipe.tail ++ [way t (lies + pipe.sum) hist - (lies + pipe.sum)]) (lies + pipe.headD 0 - f)
    else rc S (lies + pipe.headD 0 - f) + walkp S L way r (t + 1) (hist ++ [f]) (pipe.tail ++ [0]) (lies + pipe.headD 0 - f)
def preP (S : Shop) : List Int → Int → List Int → Int
  | p :: ps, lies, f :: r => rc S (lies + p - f) + preP S ps (lies + p - f) r
  | _, _, _ => 0
def jc (S : Shop) (L : Nat) (way : Nat → Int → List Int → Int) : List Int → Nat → List Int → Int → Int
  | [], _, _, _ => 0
  | f :: r, t, hist, c => od S (way t c hist - c) + rc S (way t c hist - ((f :: r).take (L + 1)).sum) +
      (if r.length = L then en S (way t c hist - (f :: r).sum) else jc S L way r (t + 1) (hist ++ [f]) (way t c hist - f))
theorem preP_snoc (S : Shop) (z : Int) : ∀ (ps : List Int) (l : Int) (r : List Int), ps.length + 1 ≤ r.length → preP S (ps ++ [z]) l r = preP S ps l r + rc S (l + ps.sum + z - (r.take (ps.length + 1)).sum)
  | [], l, f :: r, _ => by
    simp only [List.nil_append, preP, List.sum_nil, List.length_nil, Nat.zero_add, List.take_succ_cons, List.take_zero, List.sum_cons, List.sum_nil]
    rw [show l + 0 + z - (f + 0) = l + z - f by omega]
    omega
  | p :: ps, l, f :: r, h => by
    have h' : ps.length + 1 ≤ r.length := by simp only [List.length_cons] at h; omega
    simp only [List.cons_append, preP, preP_snoc S z ps (l + p - f) r h', List.sum_cons, List.length_cons, List.take_succ_cons]
    rw [show l + p - f + ps.sum + z - (List.take (ps.length + 1) r).sum = l + (p + ps.sum) + z - (f + (List.take (ps.length + 1) r).sum) by omega]
    omega
  | [], _, [], h => by simp at h
  | _ :: _, _, [], h => by simp at h
theorem walkp_end (S : Shop) (L : Nat) (way : Nat → Int → List Int → Int) : ∀ (r : List Int) (t : Nat) (hist pipe : List Int) (lies : Int), r.length ≤ L → pipe.length = L →
    walkp S L way r t hist pipe lies = preP S pipe lies r + en S (lies + (pipe.take r.length).sum - r.sum)
  | [], t, hist, pipe, lies, _, _ => by
    simp only [walkp, List.length_nil, List.take_zero, List.sum_nil]
    rw [show lies + 0 - 0 = lies by omega]
    cases pipe <;> simp only [preP] <;> omega
  | f :: r, t, hist, [], lies, h, hp => by simp only [List.length_cons, List.length_nil] at h hp; omega
  | f :: r, t, hist, p :: ps, lies, h, hp => by
    have h' : ¬ L < (f :: r).length := by omega
    have hl : r.length + 1 ≤ L := by simpa using h
    have hps : ps.length + 1 = L := by simpa using hp
    simp only [walkp, if_neg h', List.headD_cons, List.tail_cons]
    rw [walkp_end S L way r (t + 1) (hist ++ [f]) (ps ++ [0]) (lies + p - f) (by omega) (by simp; omega)]
    have e1 : (ps ++ [0]).take r.length = ps.take r.length := List.take_append_of_le_length (by omega)
    have e2 : preP S (ps ++ [0]) (lies + p - f) r = preP S ps (lies + p - f) r := by
      have : ∀ (ps : List Int) (l : Int) (r : List Int), r.length ≤ ps.length → preP S (ps ++ [0]) l r = preP S ps l r := by
        intro ps
        induction ps with
        | nil => intro l r hr; cases r with
          | nil => rfl
          | cons a b => simp at hr
        | cons q ps ih => intro l r hr; cases r with
          | nil => rfl
          | cons a b => simp only [List.cons_append, preP]; rw [ih _ _ (by simpa using hr)]
      exact this ps _ r (by omega)
    rw [e1, e2]
    simp only [preP, List.length_cons, List.take_succ_cons, List.sum_cons]
    rw [show lies + p - f + (List.take r.length ps).sum - r.sum = lies + (p + (List.take r.length ps).sum) - (f + r.sum) by omega]
    omega
theorem walkp_jc (S : Shop) (L : Nat) (way : Nat → Int → List Int → Int) : ∀ (r : List Int) (t : Nat) (hist pipe : List Int) (lies : Int), L < r.length → pipe.length = L → 0 < L →
    walkp S L way r t hist pipe lies = preP S pipe lies r + jc S L way r t hist (lies + pipe.sum)
  | [], _, _, _, _, h, _, _ => by simp at h
  | _ :: _, _, _, [], _, _, hp, h0 => by simp only [List.length_nil] at hp; omega
  | f :: r, t, hist, p :: ps, lies, h, hp, h0 => by
    have hps : ps.length + 1 = L := by simpa using hp
    have hr : L ≤ r.length := by simp only [List.length_cons] at h; omega
    simp only [walkp, if_pos h, List.headD_cons, List.tail_cons, jc, preP]
    generalize hc : lies + (p :: ps).sum = c
    have hc' : lies + (p + ps.sum) = c := by rw [← hc, List.sum_cons]
    generalize hv : way t c hist = lv
    have e1 := preP_snoc S (lv - c) ps (lies + p - f) r (by omega)
    have e2 : lies + p - f + ps.sum + (lv - c) - (r.take (ps.length + 1)).sum = lv - ((f :: r).take (L + 1)).sum := by
      rw [List.take_succ_cons, List.sum_cons, hps]; omega
    rw [e2] at e1
    by_cases hl : r.length = L
    · rw [if_pos hl, walkp_end S L way r _ _ _ _ (by omega) (by simp; omega), e1]
      have e3 : (ps ++ [lv - c]).take r.length = ps ++ [lv - c] := List.take_of_length_le (by simp; omega)
      rw [e3, List.sum_append, List.sum_cons, List.sum_cons, List.sum_nil]
      rw [show lies + p - f + (ps.sum + (lv - c + 0)) - r.sum = lv - (f + r.sum) by omega]
      omega
    · rw [if_neg hl, walkp_jc S L way r _ _ _ _ (by omega) (by simp; omega) h0, e1]
      rw [List.sum_append, List.sum_cons, List.sum_nil]
      rw [show lies + p - f + (ps.sum + (lv - c + 0)) = lv - f by omega]
      omega
/-- what the first days cost -/
def preR (S : Shop) (stock : Int) (row : List Int) : Nat → Int
  | 0 => 0
  | k + 1 => preR S stock row k + rc S (stock - (row.take (k + 1)).sum)
theorem take_sum_succ (row : List Int) (k : Nat) (f : Int) (r : List Int) (h : row = f :: r) : (row.take (k + 1)).sum = f + (r.take k).sum := by
  rw [h, List.take_succ_cons, List.sum_cons]
theorem preR_cons (S : Shop) (stock f : Int) (r : List Int) : ∀ k, preR S stock (f :: r) (k + 1) = rc S (stock - f) + preR S (stock - f) r k
  | 0 => by simp only [preR, List.take_succ_cons, List.take_zero, List.sum_cons, List.sum_nil]; rw [show stock - (f + 0) = stock - f by omega]; omega
  | k + 1 => by
    rw [preR, preR_cons S stock f r k, preR, List.take_succ_cons, List.sum_cons]
    rw [show stock - (f + (List.take (k + 1) r).sum) = stock - f - (List.take (k + 1) r).sum by omega]
    omega
theorem preP_zeros (S : Shop) : ∀ (L : Nat) (stock : Int) (row : List Int), L ≤ row.length → preP S (List.replicate L 0) stock row = preR S stock row L
  | 0, _, _, _ => by simp only [List.replicate_zero, preP, preR]
  | L + 1, stock, [], h => by simp at h
  | L + 1, stock, f :: r, h => by
    rw [List.replicate_succ, preP, preR_cons, show stock + 0 - f = stock - f by omega, preP_zeros S L _ r (by simpa using h)]
theorem sum_zeros : ∀ L : Nat, (List.replicate L (0 : Int)).sum = 0
  | 0 => rfl
  | L + 1 => by rw [List.replicate_succ, List.sum_cons, sum_zeros L]; rfl
/-- the long form of a row, from a stock with nothing under way -/
def walk (S : Shop) (L : Nat) (way : Nat → Int → List Int → Int) (stock : Int) (row : List Int) : Int := walkp S L way row 0 [] (List.replicate L 0) stock
theorem walk_eq {S : Shop} {L : Nat} {way : Nat → Int → List Int → Int} {stock : Int} {row : List Int} (h : L < row.length) (h0 : 0 < L) :
    walk S L way stock row = preR S stock row L + jc S L way row 0 [] stock := by
  unfold walk
  rw [walkp_jc S L way row 0 [] _ stock h (List.length_replicate) h0, preP_zeros S L stock row (by omega), sum_zeros, Int.add_zero]

/-! ### the short table -/
def mday (S : Shop) (F : List (List Int)) (l : Int) : Rat := Ex F (fun r => (dc S l r.sum : Rat)) / (TI F : Int)
def mend (S : Shop) (F : List (List Int)) (l : Int) : Rat := Ex F (fun r => (ec S (nst S l r.sum) : Rat)) / (TI F : Int)
def mnext (one : List Int) (cost : Int → Rat) (l : Int) : Rat := sI (fun f w => if 0 < w then cost (l - f) * w / (one.sum : Int) else 0) 0 one
def bestTo (val : Int → Rat) (c : Int) : Nat → Rat × Int
  | 0 => (val c, c)
  | k + 1 => if val (c + ((k + 1 : Nat) : Int)) < (bestTo val c k).1 then (val (c + ((k + 1 : Nat) : Int)), c + ((k + 1 : Nat) : Int)) else bestTo val c k
def Vt (S : Shop) (L : Nat) : List (List Int) → Int → Rat × Int
  | [], c => (0, c)
  | one :: F, c => bestTo (fun l => ((od S (l - c) : Int) : Rat) + (mday S ((one :: F).take (L + 1)) l + if F.length = L then mend S (one :: F) l else mnext one (fun x => (Vt S L F x).1) l)) c (S.top - c).toNat
def Ut (S : Shop) (L : Nat) (one : List Int) (F : List (List Int)) (l : Int) : Rat := mday S ((one :: F).take (L + 1)) l + if F.length = L then mend S (one :: F) l else mnext one (fun x => (Vt S L F x).1) l
theorem V_cons (S : Shop) (L : Nat) (one : List Int) (F : List (List Int)) (c : Int) : Vt S L (one :: F) c = bestTo (fun l => ((od S (l - c) : Int) : Rat) + Ut S L one F l) c (S.top - c).toNat := rfl
theorem bestTo_spec (val : Int → Rat) (c : Int) : ∀ k, (bestTo val c k).1 = val (bestTo val c k).2 ∧ c ≤ (bestTo val c k).2 ∧ (bestTo val c k).2 ≤ c + k ∧ ∀ l, c ≤ l → l ≤ c + k → (bestTo val c k).1 ≤ val l
  | 0 => ⟨rfl, by simp only [bestTo]; omega, by simp only [bestTo]; omega, fun l h1 h2 => by
    have : l = c := by omega
    simp only [bestTo, this]; grind⟩
  | k + 1 => by
    obtain ⟨h1, h2, h3, h4⟩ := bestTo_spec val c k
    simp only [bestTo]
    split
    · rename_i hlt
      refine ⟨rfl, by simp only []; omega, by simp only []; omega, fun l a b => ?_⟩
      by_cases e : l = c + ((k + 1 : Nat) : Int)
      · rw [e]; grind
      · have := h4 l a (by omega)
        simp only []
        grind
    · rename_i hlt
      refine ⟨h1, h2, by omega, fun l a b => ?_⟩
      by_cases e : l = c + ((k + 1 : Nat) : Int)
      · rw [e]; grind
      · exact h4 l a (by omega)
theorem V_spec {S : Shop} {L : Nat} {one : List Int} {F : List (List Int)} {c : Int} (h : c ≤ S.top) :
    (Vt S L (one :: F) c).1 = (od S ((Vt S L (one :: F) c).2 - c) : Int) + Ut S L one F (Vt S L (one :: F) c).2 ∧ c ≤ (Vt S L (one :: F) c).2 ∧ (Vt S L (one :: F) c).2 ≤ S.top ∧
      ∀ l, c ≤ l → l ≤ S.top → (Vt S L (one :: F) c).1 ≤ (od S (l - c) : Int) + Ut S L one F l := by
  obtain ⟨h1, h2, h3, h4⟩ := bestTo_spec (fun l => ((od S (l - c) : Int) : Rat) + Ut S L one F l) c (S.top - c).toNat
  rw [← V_cons] at h1 h2 h3 h4
  exact ⟨h1, h2, by omega, fun l a b => h4 l a (by omega)⟩
/-- the greatest seen falls of some days together -/
def gr1 : Int → List Int → Int
  | _, [] => 0
  | k, w :: ws => if 0 < w then max k (gr1 (k + 1) ws) else gr1 (k + 1) ws
def gr (F : List (List Int)) : Int := (F.map (gr1 0)).sum
theorem gr1_ge : ∀ {l : List Int} {k : Int} {j : Nat} {w : Int}, l[j]? = some w → 0 < w → k + j ≤ gr1 k l
  | [], _, _, _, h, _ => by simp at h
  | x :: l, k, 0, w, h, hw => by
    have : x = w := by simpa using h
    subst this
    simp only [gr1, if_pos hw]; omega
  | x :: l, k, j + 1, w, h, hw => by
    have := gr1_ge (k := k + 1) (show l[j]? = some w by simpa using h) hw
    simp only [gr1]
    split <;> omega
theorem row_sum_le : ∀ {F : List (List Int)} {r : List Int}, Row F r → r.sum ≤ gr F ∧ ∀ x ∈ r, 0 ≤ x
  | _, _, .nil => ⟨by simp [gr], fun x hx => by simp at hx⟩
  | _, _, .cons (one := one) (F := F) (r := r) (j := j) h1 h2 h3 => by
    obtain ⟨a, b⟩ := row_sum_le h3
    have c := gr1_ge (k := 0) h1 h2
    refine ⟨?_, fun x hx => ?_⟩
    · unfold gr at *
      rw [List.map_cons, List.sum_cons, List.sum_cons]; omega
    · rcases List.mem_cons.mp hx with rfl | hx
      · omega
      · exact b x hx
theorem Row.take : ∀ {F : List (List Int)} {r : List Int} (k : Nat), Row F r → Row (F.take k) (r.take k)
  | _, _, 0, _ => by simp only [List.take_zero]; exact .nil
  | _, _, k + 1, .nil => .nil
  | _, _, k + 1, .cons h1 h2 h3 => by simp only [List.take_succ_cons]; exact .cons h1 h2 (h3.take k)
theorem gr_nonneg1 : ∀ (l : List Int) (k : Int), 0 ≤ k → 0 ≤ gr1 k l
  | [], _, _ => by simp [gr1]
  | w :: l, k, h => by
    have := gr_nonneg1 l (k + 1) (by omega)
    simp only [gr1]; split <;> omega
theorem gr_take_le : ∀ (F : List (List Int)) (k : Nat), gr (F.take k) ≤ gr F
  | [], _ => by simp [gr]
  | one :: F, 0 => by
    have := gr_take_le F 0
    have h1 := gr_nonneg1 one 0 (by omega)
    unfold gr at *
    simp only [List.take_zero, List.map_nil, List.sum_nil, List.map_cons, List.sum_cons] at *; omega
  | one :: F, k + 1 => by
    have := gr_take_le F k
    unfold gr at *
    simp only [List.take_succ_cons, List.map_cons, List.sum_cons]; omega
end TM
namespace TM
/-- the days are in order: no weight below 0, one above 0 a day -/
structure Good (F : List (List Int)) : Prop where
  nn : NN F
  pos : ∀ one ∈ F, ∃ w ∈ one, (0 : Int) < w
theorem Good.tail {one : List Int} {F : List (List Int)} (h : Good (one :: F)) : Good F := ⟨h.nn.tail, fun o ho => h.pos o (List.mem_cons_of_mem _ ho)⟩
theorem Good.take {F : List (List Int)} (h : Good F) (k : Nat) : Good (F.take k) := ⟨h.nn.take k, fun o ho => h.pos o (List.mem_of_mem_take ho)⟩
theorem Good.drop {F : List (List Int)} (h : Good F) (k : Nat) : Good (F.drop k) := ⟨h.nn.drop k, fun o ho => h.pos o (List.mem_of_mem_drop ho)⟩
theorem Good.TI {F : List (List Int)} (h : Good F) : 0 < TI F := TI_pos h.nn h.pos
theorem Good.TIr {F : List (List Int)} (h : Good F) : (0 : Rat) < (TM.TI F : Int) := Rat.intCast_pos.mpr h.TI
theorem Good.sum {one : List Int} {F : List (List Int)} (h : Good (one :: F)) : 0 < one.sum := by
  have := (h.take 1).TI
  simp only [List.take_succ_cons, List.take_zero, TM.TI, Int.mul_one] at this
  exact this
theorem gr_cons (one : List Int) (F : List (List Int)) : gr (one :: F) = gr1 0 one + gr F := by
  unfold gr; rw [List.map_cons, List.sum_cons]
theorem rcast_ne {n : Int} (h : 0 < n) : ((n : Int) : Rat) ≠ 0 := by
  have := Rat.intCast_pos.mpr h
  grind
/-- T times a day's mean -/
theorem mday_mul {S : Shop} {F : List (List Int)} (h : Good F) (l : Int) : mday S F l * (TI F : Int) = Ex F (fun r => (dc S l r.sum : Rat)) := by
  unfold mday
  have := rcast_ne h.TI
  rw [Rat.div_mul_cancel this]
theorem mend_mul {S : Shop} {F : List (List Int)} (h : Good F) (l : Int) : mend S F l * (TI F : Int) = Ex F (fun r => (ec S (nst S l r.sum) : Rat)) := by
  unfold mend
  have := rcast_ne h.TI
  rw [Rat.div_mul_cancel this]
theorem dc_E {S : Shop} {F : List (List Int)} (h : Good F) {l : Int} (hl : 0 - S.depth ≤ l - gr F) : Ex F (fun r => (dc S l r.sum : Rat)) = Ex F (fun r => (rc S (l - r.sum) : Rat)) := by
  refine E_congr h.nn fun r hr => ?_
  have := (row_sum_le hr).1
  rw [dc_rc (by omega)]
theorem ec_E {S : Shop} {F : List (List Int)} (h : Good F) {l : Int} (hl : 0 - S.depth ≤ l - gr F) : Ex F (fun r => (ec S (nst S l r.sum) : Rat)) = Ex F (fun r => (en S (l - r.sum) : Rat)) := by
  refine E_congr h.nn fun r hr => ?_
  have := (row_sum_le hr).1
  rw [nst_of (by omega), ec_en]
/-- Ut times T: what a level is worth by the rows -/
def UE (S : Shop) (L : Nat) (one : List Int) (F : List (List Int)) (l : Int) : Rat :=
  Ex (one :: F) (fun r => (rc S (l - (r.take (L + 1)).sum) : Rat)) + if F.length = L then Ex (one :: F) (fun r => (en S (l - r.sum) : Rat)) else sI (fun f w => (w : Rat) * ((Vt S L F (l - f)).1 * (TI F : Int))) 0 one
theorem U_mul {S : Shop} {L : Nat} {one : List Int} {F : List (List Int)} (h : Good (one :: F)) {l : Int} (hl : 0 - S.depth ≤ l - gr (one :: F)) : Ut S L one F l * (TI (one :: F) : Int) = UE S L one F l := by
  have ht := h.take (L + 1)
  have e1 : mday S ((one :: F).take (L + 1)) l * (TI (one :: F) : Int) = Ex (one :: F) (fun r => (rc S (l - (r.take (L + 1)).sum) : Rat)) := by
    rw [E_take (one :: F) (L + 1) fun r => (rc S (l - r.sum) : Rat), ← dc_E ht (by have := gr_take_le (one :: F) (L + 1); omega), ← mday_mul ht]
    rw [Rat.mul_assoc, ← Rat.intCast_mul, TI_drop_take]
  unfold Ut UE
  rw [Rat.add_mul, e1]
  congr 1
  split
  · rw [mend_mul h, ec_E h hl]
  · unfold mnext
    rw [Rat.mul_comm, ← sI_mul]
    refine sI_congr fun j w e => ?_
    have hs := rcast_ne h.sum
    simp only [TI]
    split
    · rw [Rat.intCast_mul]
      grind
    · have h0 : w = 0 := by
        have := h.nn one List.mem_cons_self w (List.mem_of_getElem? e)
        omega
      rw [h0]
      grind
/-- what a way costs from a day on, by the rows -/
def Jw (S : Shop) (L : Nat) (way : Nat → Int → List Int → Int) (F : List (List Int)) (t : Nat) (hist : List Int) (c : Int) : Rat := Ex F fun r => (jc S L way r t hist c : Rat)
theorem J_cons {S : Shop} {L : Nat} {way : Nat → Int → List Int → Int} {one : List Int} {F : List (List Int)} {t : Nat} {hist : List Int} {c : Int} (h : Good (one :: F)) :
    Jw S L way (one :: F) t hist c = (od S (way t c hist - c) : Int) * (TI (one :: F) : Int) + Ex (one :: F) (fun r => (rc S (way t c hist - (r.take (L + 1)).sum) : Rat)) +
      if F.length = L then Ex (one :: F) (fun r => (en S (way t c hist - r.sum) : Rat)) else sI (fun f w => (w : Rat) * Jw S L way F (t + 1) (hist ++ [f]) (way t c hist - f)) 0 one := by
  have e : Jw S L way (one :: F) t hist c = Ex (one :: F) (fun r => ((od S (way t c hist - c) : Int) : Rat) + (rc S (way t c hist - (r.take (L + 1)).sum) : Rat) + (match r with
      | [] => 0
      | f :: r => if F.length = L then (en S (way t c hist - (f :: r).sum) : Rat) else (jc S L way r (t + 1) (hist ++ [f]) (way t c hist - f) : Rat))) := by
    unfold Jw
    refine E_congr h.nn fun r hr => ?_
    cases hr with
    | cons h1 h2 h3 =>
      simp only [jc]
      rw [Rat.intCast_add, Rat.intCast_add, h3.len]
      split <;> rfl
  rw [e, E_add, E_add, E_const]
  congr 1
  simp only [Ex]
  split
  · rfl
  · rfl
/-- a way that chooses levels -/
def Lv (S : Shop) (way : Nat → Int → List Int → Int) : Prop := ∀ t c hist, c ≤ S.top → c ≤ way t c hist ∧ way t c hist ≤ S.top
/-- no way costs less than the table tells -/
theorem J_ge {S : Shop} {L : Nat} {way : Nat → Int → List Int → Int} (hw : Lv S way) : ∀ (F : List (List Int)) (t : Nat) (hist : List Int) (c : Int), Good F → L < F.length → c ≤ S.top → 0 - S.depth ≤ c - gr F →
    (Vt S L F c).1 * (TI F : Int) ≤ Jw S L way F t hist c
  | [], _, _, _, _, hl, _, _ => by simp at hl
  | one :: F, t, hist, c, h, hl, hc, hd => by
    obtain ⟨a, b⟩ := hw t c hist hc
    have k1 := (V_spec (S := S) (L := L) (one := one) (F := F) hc).2.2.2 _ a b
    have k2 : (Vt S L (one :: F) c).1 * (TI (one :: F) : Int) ≤ ((od S (way t c hist - c) : Int) + Ut S L one F (way t c hist)) * (TI (one :: F) : Int) := by
      have := h.TIr
      rw [Rat.mul_comm, Rat.mul_comm (_ + _)]
      exact Rat.mul_le_mul_of_nonneg_left k1 (by grind)
    refine Rat.le_trans k2 ?_
    rw [Rat.add_mul, U_mul h (by omega), J_cons h]
    unfold UE
    rw [Rat.add_assoc]
    refine Rat.add_le_add_left.mpr (Rat.add_le_add_left.mpr ?_)
    split
    · exact Rat.le_refl
    · rename_i hne
      refine sI_le fun j w e => ?_
      have hw0 := h.nn one List.mem_cons_self w (List.mem_of_getElem? e)
      by_cases hp : 0 < w
      · have hf := gr1_ge (k := 0) e hp
        have hg := gr_cons one F
        have hlF : L < F.length := by simp only [List.length_cons] at hl; omega
        have hT : Good F := h.tail
        have := J_ge hw F (t + 1) (hist ++ [(0 : Int) + (j : Int)]) (way t c hist - ((0 : Int) + (j : Int))) hT hlF (by omega) (by omega)
        exact Rat.mul_le_mul_of_nonneg_left this (Rat.intCast_nonneg.mpr hw0)
      · have h0 : w = 0 := by omega
        rw [h0]
        grind
/-- the way that a table tells costs just what it tells -/
theorem J_eq {S : Shop} {L : Nat} {way : Nat → Int → List Int → Int} {G : List (List Int)} (hw : ∀ t c hist, t + L < G.length → c ≤ S.top → 0 - S.depth ≤ c - gr (G.drop t) → way t c hist = (Vt S L (G.drop t) c).2) :
    ∀ (F : List (List Int)) (t : Nat) (hist : List Int) (c : Int), F = G.drop t → Good F → L < F.length → c ≤ S.top → 0 - S.depth ≤ c - gr F → Jw S L way F t hist c = (Vt S L F c).1 * (TI F : Int)
  | [], _, _, _, _, _, hl, _, _ => by simp at hl
  | one :: F, t, hist, c, hG, h, hl, hc, hd => by
    have ht : t + L < G.length := by
      have := congrArg List.length hG
      rw [List.length_drop] at this
      simp only [List.length_cons] at this hl; omega
    have hway := hw t c hist ht hc (by rw [← hG]; exact hd)
    rw [← hG] at hway
    obtain ⟨k1, k2, k3, _⟩ := V_spec (S := S) (L := L) (one := one) (F := F) hc
    rw [← hway] at k1 k2 k3
    rw [k1, Rat.add_mul, U_mul h (by omega), J_cons h]
    unfold UE
    rw [Rat.add_assoc]
    congr 2
    split
    · rfl
    · rename_i hne
      refine sI_congr fun j w e => ?_
      have hw0 := h.nn one List.mem_cons_self w (List.mem_of_getElem? e)
      by_cases hp : 0 < w
      · have hf := gr1_ge (k := 0) e hp
        have hg := gr_cons one F
        have hF : F = G.drop (t + 1) := by
          rw [← List.drop_drop, ← hG]; rfl
        rw [J_eq hw F (t + 1) _ _ hF h.tail (by simp only [List.length_cons] at hl; omega) (by omega) (by omega)]
      · have h0 : w = 0 := by omega
        rw [h0]
        grind
/-- the first days' means -/
def preM (S : Shop) (F : List (List Int)) (stock : Int) : Nat → Rat
  | 0 => 0
  | k + 1 => preM S F stock k + mday S (F.take (k + 1)) stock
theorem preM_mul {S : Shop} {F : List (List Int)} (h : Good F) {stock : Int} (hd : 0 - S.depth ≤ stock - gr F) : ∀ k, preM S F stock k * (TI F : Int) = Ex F fun r => (preR S stock r k : Rat)
  | 0 => by
    simp only [preM, preR]
    rw [show (fun _ : List Int => (((0 : Int) : Int) : Rat)) = fun _ => (0 : Rat) by rfl, E_const]
  | k + 1 => by
    simp only [preM, preR]
    rw [Rat.add_mul, preM_mul h hd k]
    rw [show (fun r : List Int => ((preR S stock r k + rc S (stock - (r.take (k + 1)).sum) : Int) : Rat)) = fun r => (preR S stock r k : Rat) + (rc S (stock - (r.take (k + 1)).sum) : Rat) by funext r; rw [Rat.intCast_add]]
    rw [E_add, E_take F (k + 1) fun r => (rc S (stock - r.sum) : Rat), ← dc_E (h.take (k + 1)) (by have := gr_take_le F (k + 1); omega), ← mday_mul (h.take (k + 1)), Rat.mul_assoc, ← Rat.intCast_mul, TI_drop_take]
/-- what the program tells -/
def late (S : Shop) (L : Nat) (F : List (List Int)) (stock : Int) : Rat := (Vt S L F stock).1 + preM S F stock L
theorem walk_E {S : Shop} {L : Nat} {way : Nat → Int → List Int → Int} {F : List (List Int)} {stock : Int} (h : Good F) (hL : 0 < L) (hl : L < F.length) (hd : 0 - S.depth ≤ stock - gr F) :
    Ex F (fun r => (walk S L way stock r : Rat)) = preM S F stock L * (TI F : Int) + Jw S L way F 0 [] stock := by
  rw [preM_mul h hd]
  unfold Jw
  rw [← E_add]
  refine E_congr h.nn fun r hr => ?_
  rw [walk_eq (by rw [hr.len]; exact hl) hL, Rat.intCast_add]
theorem walk_ge {S : Shop} {L : Nat} {way : Nat → Int → List Int → Int} {F : List (List Int)} {stock : Int} (hw : Lv S way) (h : Good F) (hL : 0 < L) (hl : L < F.length) (hs : stock ≤ S.top) (hd : 0 - S.depth ≤ stock - gr F) :
    late S L F stock * (TI F : Int) ≤ Ex F (fun r => (walk S L way stock r : Rat)) := by
  rw [walk_E h hL hl hd]
  have := J_ge hw F 0 [] stock h hl hs hd
  unfold late
  rw [Rat.add_mul]
  grind
theorem walk_told {S : Shop} {L : Nat} {way : Nat → Int → List Int → Int} {F : List (List Int)} {stock : Int} (hw : ∀ t c hist, t + L < F.length → c ≤ S.top → 0 - S.depth ≤ c - gr (F.drop t) → way t c hist = (Vt S L (F.drop t) c).2)
    (h : Good F) (hL : 0 < L) (hl : L < F.length) (hs : stock ≤ S.top) (hd : 0 - S.depth ≤ stock - gr F) : Ex F (fun r => (walk S L way stock r : Rat)) = late S L F stock * (TI F : Int) := by
  rw [walk_E h hL hl hd, J_eq hw F 0 [] stock rfl h hl hs hd]
  unfold late
  rw [Rat.add_mul]
  grind
end TM
namespace TM
/-! ### lists by their first items -/
theorem take_more {α : Type} : ∀ {l : List α} {i : Nat} {x : α}, l[i]? = some x → l.take (i + 1) = l.take i ++ [x]
  | [], i, x, h => by simp at h
  | a :: l, 0, x, h => by
    obtain rfl : a = x := Option.some.inj h
    rfl
  | a :: l, i + 1, x, h => by
    simp only [List.take_succ_cons, List.cons_append]
    rw [take_more (l := l) (i := i) (x := x) h]
theorem drop_more {α : Type} : ∀ {l : List α} {i : Nat} {x : α}, l[i]? = some x → l.drop i = x :: l.drop (i + 1)
  | [], i, x, h => by simp at h
  | a :: l, 0, x, h => by
    obtain rfl : a = x := Option.some.inj h
    rfl
  | a :: l, i + 1, x, h => by
    simp only [List.drop_succ_cons]
    exact drop_more (l := l) (i := i) (x := x) h
theorem len_of {α : Type} {l : List α} {i : Nat} {x : α} (h : l[i]? = some x) : i < l.length := (List.getElem?_eq_some_iff.mp h).1
/-! ### the seen falls -/
def seen : Int → List Int → List Int
  | _, [] => []
  | k, w :: ws => if 0 < w then k :: seen (k + 1) ws else seen (k + 1) ws
theorem seen_snoc (w : Int) : ∀ (l : List Int) (k : Int), seen k (l ++ [w]) = if 0 < w then seen k l ++ [k + l.length] else seen k l
  | [], k => by
    simp only [List.nil_append, seen, List.length_nil]
    split <;> simp
  | x :: l, k => by
    simp only [List.cons_append, seen, seen_snoc w l, List.length_cons]
    have e : k + 1 + (l.length : Int) = k + ((l.length + 1 : Nat) : Int) := by omega
    split <;> split <;> simp [e]
theorem seen_len : ∀ (l : List Int) (k : Int), (seen k l).length ≤ l.length
  | [], _ => by simp [seen]
  | x :: l, k => by
    have := seen_len l (k + 1)
    simp only [seen]
    split <;> simp only [List.length_cons] <;> omega
theorem gr1_ub : ∀ (l : List Int) (k : Int), ∀ x ∈ seen k l, x ≤ gr1 k l
  | [], _, x, h => by simp [seen] at h
  | w :: l, k, x, h => by
    have ih := gr1_ub l (k + 1) x
    simp only [seen, gr1] at *
    split at h
    · rename_i hw
      rw [if_pos hw]
      rcases List.mem_cons.mp h with rfl | h
      · omega
      · have := ih h; omega
    · rename_i hw
      rw [if_neg hw]
      exact ih h
theorem gr1_in : ∀ (l : List Int) (k : Int), 0 ≤ k → (gr1 k l ∈ seen k l) ∨ (gr1 k l = 0 ∧ seen k l = [])
  | [], _, _ => .inr ⟨rfl, rfl⟩
  | w :: l, k, h => by
    have ih := gr1_in l (k + 1) (by omega)
    simp only [seen, gr1]
    split
    · rcases ih with ih | ⟨e1, e2⟩
      · left
        by_cases hm : k ≤ gr1 (k + 1) l
        · rw [show max k (gr1 (k + 1) l) = gr1 (k + 1) l by omega]
          exact List.mem_cons_of_mem _ ih
        · rw [show max k (gr1 (k + 1) l) = k by omega]
          exact List.mem_cons_self
      · left
        rw [e1, show max k 0 = k by omega]
        exact List.mem_cons_self
    · exact ih
theorem seen_ne : ∀ {l : List Int} {k : Int}, (∃ w ∈ l, (0 : Int) < w) → seen k l ≠ []
  | [], _, ⟨w, hw, _⟩ => by simp at hw
  | x :: l, k, ⟨w, hw, hp⟩ => by
    simp only [seen]
    rcases List.mem_cons.mp hw with rfl | hw
    · rw [if_pos hp]; simp
    · split
      · simp
      · exact seen_ne ⟨w, hw, hp⟩
theorem gr1_max {l : List Int} {m : Int} (hp : ∃ w ∈ l, (0 : Int) < w) (h1 : m ∈ seen 0 l) (h2 : ∀ y ∈ seen 0 l, y ≤ m) : m = gr1 0 l := by
  rcases gr1_in l 0 (by omega) with h | ⟨_, h⟩
  · have a := h2 _ h
    have b := gr1_ub l 0 m h1
    omega
  · exact absurd h (seen_ne hp)
/-! ### lists made item by item -/
def mapI (f : Int → Int → Int) : Int → List Int → List Int
  | _, [] => []
  | k, w :: ws => f k w :: mapI f (k + 1) ws
theorem mapI_snoc (f : Int → Int → Int) (w : Int) : ∀ (l : List Int) (k : Int), mapI f k (l ++ [w]) = mapI f k l ++ [f (k + l.length) w]
  | [], k => by simp [mapI]
  | x :: l, k => by
    simp only [List.cons_append, mapI, mapI_snoc f w l, List.length_cons]
    rw [show k + 1 + (l.length : Int) = k + ((l.length + 1 : Nat) : Int) by omega]
theorem mapI_len (f : Int → Int → Int) : ∀ (l : List Int) (k : Int), (mapI f k l).length = l.length
  | [], _ => rfl
  | x :: l, k => by simp only [mapI, List.length_cons, mapI_len f l]
theorem mapI_sum (f : Int → Int → Int) : ∀ (l : List Int) (k : Int), ((mapI f k l).sum : Rat) = sI (fun k w => (f k w : Rat)) k l
  | [], _ => rfl
  | x :: l, k => by
    simp only [mapI, sI, List.sum_cons]
    rw [Rat.intCast_add, mapI_sum f l]
/-! ### rows, one after the other -/
def ext (row : List Int) (many : Int) : Int → List Int → List (List Int × Int)
  | _, [] => []
  | k, w :: ws => if 0 < w then (row ++ [k], many * w) :: ext row many (k + 1) ws else ext row many (k + 1) ws
theorem ext_snoc (row : List Int) (many w : Int) : ∀ (l : List Int) (k : Int), ext row many k (l ++ [w]) = if 0 < w then ext row many k l ++ [(row ++ [k + l.length], many * w)] else ext row many k l
  | [], k => by
    simp only [List.nil_append, ext, List.length_nil]
    split <;> simp
  | x :: l, k => by
    simp only [List.cons_append, ext, ext_snoc row many w l, List.length_cons]
    have e : k + 1 + (l.length : Int) = k + ((l.length + 1 : Nat) : Int) := by omega
    split <;> split <;> simp [e]
theorem ext_len (row : List Int) (many : Int) : ∀ (l : List Int) (k : Int), (ext row many k l).length ≤ l.length
  | [], _ => by simp [ext]
  | x :: l, k => by
    have := ext_len row many l (k + 1)
    simp only [ext]
    split <;> simp only [List.length_cons] <;> omega
def stepR (one : List Int) (rows : List (List Int × Int)) : List (List Int × Int) := rows.flatMap fun p => ext p.1 p.2 0 one
theorem stepR_len (one : List Int) : ∀ rows : List (List Int × Int), (stepR one rows).length ≤ rows.length * one.length
  | [] => by simp [stepR]
  | p :: rows => by
    have h1 := ext_len p.1 p.2 one 0
    have h2 := stepR_len one rows
    unfold stepR at *
    simp only [List.flatMap_cons, List.length_append, List.length_cons, Nat.add_mul, Nat.one_mul]
    omega
def rowsOf (F : List (List Int)) : List (List Int × Int) := F.foldl (fun rows one => stepR one rows) [([], 1)]
def wsum (g : List Int → Rat) (rows : List (List Int × Int)) : Rat := (rows.map fun p => (p.2 : Rat) * g p.1).sum
theorem wsum_cons (g : List Int → Rat) (p : List Int × Int) (rows : List (List Int × Int)) : wsum g (p :: rows) = (p.2 : Rat) * g p.1 + wsum g rows := by
  unfold wsum; rw [List.map_cons, List.sum_cons]
theorem wsum_append (g : List Int → Rat) (a b : List (List Int × Int)) : wsum g (a ++ b) = wsum g a + wsum g b := by
  unfold wsum; rw [List.map_append, List.sum_append]
theorem wsum_ext (g : List Int → Rat) (row : List Int) (many : Int) : ∀ (l : List Int) (k : Int), (∀ w ∈ l, (0 : Int) ≤ w) → wsum g (ext row many k l) = (many : Rat) * sI (fun f w => (w : Rat) * g (row ++ [f])) k l
  | [], k, _ => by simp only [ext, sI]; unfold wsum; simp
  | w :: l, k, h => by
    have ih := wsum_ext g row many l (k + 1) fun x hx => h x (List.mem_cons_of_mem _ hx)
    have hw := h w List.mem_cons_self
    simp only [ext, sI]
    split
    · rw [wsum_cons, ih, Rat.intCast_mul]; grind
    · rw [ih, show w = 0 by omega]; grind
theorem wsum_step (g : List Int → Rat) {one : List Int} (h : ∀ w ∈ one, (0 : Int) ≤ w) : ∀ rows : List (List Int × Int), wsum g (stepR one rows) = wsum (fun row => sI (fun f w => (w : Rat) * g (row ++ [f])) 0 one) rows
  | [] => by unfold stepR wsum; rfl
  | p :: rows => by
    have ih := wsum_step g h rows
    unfold stepR at *
    rw [List.flatMap_cons, wsum_append, wsum_cons, ih, wsum_ext g p.1 p.2 one 0 h]
theorem wsum_fold (g : List Int → Rat) : ∀ (F : List (List Int)) (rows : List (List Int × Int)), NN F → wsum g (F.foldl (fun rows one => stepR one rows) rows) = wsum (fun row => Ex F fun r => g (row ++ r)) rows
  | [], rows, _ => by simp only [List.foldl_nil, Ex, List.append_nil]
  | one :: F, rows, h => by
    rw [List.foldl_cons, wsum_fold g F _ h.tail, wsum_step _ (fun w hw => h one List.mem_cons_self w hw)]
    simp only [Ex, List.append_assoc, List.cons_append, List.nil_append]
theorem rows_E (g : List Int → Rat) {F : List (List Int)} (h : NN F) : wsum g (rowsOf F) = Ex F g := by
  unfold rowsOf
  rw [wsum_fold g F _ h]
  unfold wsum
  simp
  exact Rat.add_zero _
theorem rowsOf_snoc (F : List (List Int)) (one : List Int) : rowsOf (F ++ [one]) = stepR one (rowsOf F) := by
  unfold rowsOf; rw [List.foldl_append]; rfl
theorem stepR_snoc (one : List Int) (rows : List (List Int × Int)) (p : List Int × Int) : stepR one (rows ++ [p]) = stepR one rows ++ ext p.1 p.2 0 one := by
  unfold stepR; rw [List.flatMap_append]; simp
theorem row_snoc : ∀ {F : List (List Int)} {r one : List Int} {j : Nat} {w : Int}, Row F r → one[j]? = some w → 0 < w → Row (F ++ [one]) (r ++ [(j : Int)])
  | _, _, _, _, _, .nil, h1, h2 => .cons h1 h2 .nil
  | _, _, _, _, _, .cons a b c, h1, h2 => .cons a b (row_snoc c h1 h2)
theorem ext_mem {row : List Int} {many : Int} : ∀ {l : List Int} {k : Nat} {p : List Int × Int}, p ∈ ext row many (k : Int) l → ∃ (j : Nat) (w : Int), l[j]? = some w ∧ 0 < w ∧ p = (row ++ [((k + j : Nat) : Int)], many * w)
  | [], _, _, h => by simp [ext] at h
  | x :: l, k, p, h => by
    simp only [ext] at h
    have up : p ∈ ext row many (((k + 1 : Nat)) : Int) l → ∃ (j : Nat) (w : Int), (x :: l)[j]? = some w ∧ 0 < w ∧ p = (row ++ [((k + j : Nat) : Int)], many * w) := fun h => by
      obtain ⟨j, w, a, b, c⟩ := ext_mem (l := l) h
      exact ⟨j + 1, w, by simpa using a, b, by rw [c, show k + 1 + j = k + (j + 1) by omega]⟩
    rw [show (k : Int) + 1 = ((k + 1 : Nat) : Int) by omega] at h
    split at h
    · rename_i hx
      rcases List.mem_cons.mp h with rfl | h
      · exact ⟨0, x, rfl, hx, by simp⟩
      · exact up h
    · exact up h
theorem rows_mem : ∀ (F : List (List Int)) {p : List Int × Int}, p ∈ rowsOf F → Row F p.1 ∧ 0 < p.2 := fun F => by
  have key : ∀ (F : List (List Int)) (G : List (List Int)) (rows : List (List Int × Int)), (∀ p ∈ rows, Row G p.1 ∧ 0 < p.2) → ∀ p ∈ F.foldl (fun rows one => stepR one rows) rows, Row (G ++ F) p.1 ∧ 0 < p.2 := by
    intro F
    induction F with
    | nil => intro G rows h p hp; rw [List.append_nil]; exact h p hp
    | cons one F ih =>
      intro G rows h p hp
      rw [List.foldl_cons] at hp
      have := ih (G ++ [one]) (stepR one rows) (fun p hp => by
        unfold stepR at hp
        obtain ⟨q, hq, hp⟩ := List.mem_flatMap.mp hp
        obtain ⟨h1, h2⟩ := h q hq
        obtain ⟨j, w, a, b, c⟩ := ext_mem (k := 0) hp
        rw [c]
        refine ⟨?_, Int.mul_pos h2 b⟩
        rw [show ((0 + j : Nat) : Int) = (j : Int) by simp]
        exact row_snoc h1 a b) p hp
      rw [List.append_assoc] at this
      exact this
  intro p hp
  have := key F [] [([], 1)] (fun p hp => by
    obtain rfl := List.mem_singleton.mp hp
    exact ⟨.nil, by decide⟩) p hp
  exact this
/-! ### shares whose bottom divides a number -/
def Fits (D : Int) (q : Rat) : Prop := ∃ N : Int, q * (D : Rat) = N
theorem Fits.add {D : Int} {q r : Rat} (a : Fits D q) (b : Fits D r) : Fits D (q + r) := by
  obtain ⟨N, hN⟩ := a
  obtain ⟨M, hM⟩ := b
  exact ⟨N + M, by rw [Rat.add_mul, hN, hM, Rat.intCast_add]⟩
theorem Fits.mul {D : Int} {q : Rat} (a : Fits D q) (m : Int) : Fits (D * m) q := by
  obtain ⟨N, hN⟩ := a
  exact ⟨N * m, by rw [Rat.intCast_mul, ← Rat.mul_assoc, hN, Rat.intCast_mul]⟩
theorem Fits.int (D : Int) (n : Int) : Fits D (n : Rat) := ⟨n * D, by rw [Rat.intCast_mul]⟩
theorem Fits.zero (D : Int) : Fits D 0 := ⟨0, by grind⟩
theorem Fits.sI {D : Int} {h : Int → Int → Rat} : ∀ {l : List Int} {k : Int}, (∀ (j : Nat) (w : Int), l[j]? = some w → Fits D (h (k + j) w)) → Fits D (TM.sI h k l)
  | [], _, _ => Fits.zero D
  | w :: ws, k, H => by
    have h0 := H 0 w rfl
    have h1 : Fits D (TM.sI h (k + 1) ws) := Fits.sI fun j w' e => by
      have := H (j + 1) w' (by simpa using e)
      have e2 : k + 1 + (j : Int) = k + ((j + 1 : Nat) : Int) := by omega
      rw [e2]; exact this
    simp only [TM.sI]
    rw [show k + ((0 : Nat) : Int) = k by omega] at h0
    exact h0.add h1
end TM
namespace TM
theorem share_num {t b : Int} (h : 0 < b) : ((t : Rat) / (b : Rat)).num = t / (Int.gcd t b : Int) := by
  rw [← Rat.divInt_eq_div, Rat.num_divInt, Int.sign_eq_one_of_pos h, Int.one_mul, Int.gcd_comm]
theorem share_den {t b : Int} (h : 0 < b) : (((t : Rat) / (b : Rat)).den : Int) = b / (Int.gcd t b : Int) := by
  rw [← Rat.divInt_eq_div, Rat.den_divInt, if_neg (by omega), Int.gcd_comm]
  have e : ((b.natAbs : Nat) : Int) = b := by omega
  rw [Int.natCast_ediv, e]
theorem den_pos (q : Rat) : 0 < (q.den : Int) := by
  have := q.den_pos
  omega
theorem rat_eq (q : Rat) : (q.num : Rat) / ((q.den : Int) : Rat) = q := by
  rw [← Rat.divInt_eq_div, Rat.num_divInt_den]
theorem plus_eq (q r : Rat) : ((q.num * (r.den : Int) + r.num * (q.den : Int) : Int) : Rat) / (((q.den : Int) * (r.den : Int) : Int) : Rat) = q + r := by
  have h1 := rcast_ne (den_pos q)
  have h2 := rcast_ne (den_pos r)
  have e1 := rat_eq q
  have e2 := rat_eq r
  rw [Rat.intCast_add, Rat.intCast_mul, Rat.intCast_mul, Rat.intCast_mul]
  generalize (q.num : Rat) = a at *
  generalize (r.num : Rat) = b at *
  generalize ((q.den : Int) : Rat) = c at *
  generalize ((r.den : Int) : Rat) = d at *
  rw [← e1, ← e2]
  grind
theorem below_iff (q r : Rat) : q.num * (r.den : Int) < r.num * (q.den : Int) ↔ q < r := (Rat.lt_iff q r).symm
theorem Fits.den {D : Int} {q : Rat} (h : Fits D q) (hD : 0 < D) : (q.den : Int) ≤ D := by
  obtain ⟨N, hN⟩ := h
  have hD' := rcast_ne hD
  have e : q = (N : Rat) / (D : Rat) := by rw [← hN]; grind
  have e2 := share_den (t := N) hD
  rw [← e] at e2
  rw [e2]
  exact Int.ediv_le_self _ (by omega)
theorem Fits.num {D : Int} {q : Rat} {B : Int} (h : Fits D q) (hD : 0 < D) (hB : -(B : Rat) ≤ q ∧ q ≤ (B : Rat)) : -(B * D) ≤ q.num ∧ q.num ≤ B * D := by
  have hd := h.den hD
  have h1 := rat_eq q
  have h2 := den_pos q
  have h3 := Rat.intCast_pos.mpr h2
  have h3' := rcast_ne h2
  have e : (q.num : Rat) = q * ((q.den : Int) : Rat) := by rw [← Rat.div_mul_cancel (a := (q.num : Rat)) h3', h1]
  obtain ⟨b1, b2⟩ := hB
  have hB0 : (0 : Rat) ≤ (B : Rat) := by grind
  have hB0' : 0 ≤ B := Rat.intCast_nonneg.mp hB0
  have u1 : (q.num : Rat) ≤ (B : Rat) * ((q.den : Int) : Rat) := by
    rw [e, Rat.mul_comm, Rat.mul_comm (B : Rat)]
    exact Rat.mul_le_mul_of_nonneg_left b2 (by grind)
  have u2 : -((B : Rat) * ((q.den : Int) : Rat)) ≤ (q.num : Rat) := by
    have := Rat.mul_le_mul_of_nonneg_left b1 (show (0 : Rat) ≤ ((q.den : Int) : Rat) by grind)
    rw [e]
    grind
  rw [← Rat.intCast_mul] at u1 u2
  rw [← Rat.intCast_neg] at u2
  have v1 := Rat.intCast_le_intCast.mp u1
  have v2 := Rat.intCast_le_intCast.mp u2
  have m := Int.mul_le_mul_of_nonneg_left hd hB0'
  omega
end TM
namespace TM
theorem Ex_snoc : ∀ (F : List (List Int)) (one : List Int) (g : List Int → Rat), Ex (F ++ [one]) g = Ex F fun r => sI (fun f w => (w : Rat) * g (r ++ [f])) 0 one
  | [], one, g => by simp only [List.nil_append, Ex]
  | o :: F, one, g => by
    simp only [List.cons_append, Ex]
    congr 1
    funext f w
    rw [Ex_snoc F one fun r => g (f :: r)]
    try rfl
theorem sI_set (h : Int → Rat) : ∀ (l : List Int) (k : Int) (i : Nat) (x y : Int), l[i]? = some y → sI (fun k w => (w : Rat) * h k) k (l.set i (y + x)) = sI (fun k w => (w : Rat) * h k) k l + (x : Rat) * h (k + i)
  | [], _, _, _, _, e => by simp at e
  | w :: l, k, 0, x, y, e => by
    obtain rfl : w = y := Option.some.inj e
    simp only [List.set_cons_zero, sI]
    rw [Rat.intCast_add, show k + ((0 : Nat) : Int) = k by omega]
    grind
  | w :: l, k, i + 1, x, y, e => by
    simp only [List.set_cons_succ, sI]
    rw [sI_set h l (k + 1) i x y (by simpa using e), show k + 1 + (i : Int) = k + ((i + 1 : Nat) : Int) by omega]
    grind
theorem sI_zeros (h : Int → Rat) : ∀ (n : Nat) (k : Int), sI (fun k w => (w : Rat) * h k) k (List.replicate n 0) = 0
  | 0, _ => rfl
  | n + 1, k => by
    rw [List.replicate_succ]
    simp only [sI]
    rw [sI_zeros h n]
    show (0 : Rat) * h k + 0 = 0
    grind
theorem sI_snoc (h : Int → Int → Rat) (l : List Int) (k w : Int) : sI h k (l ++ [w]) = sI h k l + h (k + l.length) w := by
  rw [sI_append]
  simp only [sI]
  grind
/-- the weights W tell the falls of the days F together -/
structure Cv (F : List (List Int)) (W : List Int) : Prop where
  eq : ∀ φ : Int → Rat, sI (fun k w => (w : Rat) * φ k) 0 W = Ex F fun r => φ r.sum
  nn : ∀ w ∈ W, (0 : Int) ≤ w
  len : W.length ≤ 1 + 8 * F.length
theorem cv_start : Cv [] [1] := ⟨fun φ => by
  simp only [sI, Ex, List.sum_nil]
  show (1 : Rat) * φ 0 + 0 = φ 0
  grind, fun w hw => by
  obtain rfl := List.mem_singleton.mp hw
  decide, by simp⟩
/-- more, while found has been gone through up to a, and one at a up to b -/
structure Mo (W one : List Int) (a b : Nat) (u : Int) (M : List Int) : Prop where
  eq : ∀ φ : Int → Rat, sI (fun k w => (w : Rat) * φ k) 0 M = sI (fun i u => (u : Rat) * sI (fun j o => (o : Rat) * φ (i + j)) 0 one) 0 (W.take a) + (u : Rat) * sI (fun j o => (o : Rat) * φ ((a : Int) + j)) 0 (one.take b)
  nn : ∀ w ∈ M, (0 : Int) ≤ w
  len : (M.length : Int) = (W.length : Int) + one.length - 1
theorem mo_start {W one : List Int} {n : Nat} (h : (n : Int) = (W.length : Int) + one.length - 1) : Mo W one 0 0 0 (List.replicate n 0) := ⟨fun φ => by
  rw [sI_zeros]
  simp only [List.take_zero, sI]
  grind, fun w hw => by
  have := (List.mem_replicate.mp hw).2
  omega, by rw [List.length_replicate]; exact h⟩
theorem mo_begin {W one M : List Int} {a : Nat} {u v : Int} (m : Mo W one a 0 v M) : Mo W one a 0 u M := ⟨fun φ => by
  rw [m.eq]
  simp only [List.take_zero, sI]
  grind, m.nn, m.len⟩
theorem mo_turn {W one M : List Int} {a b : Nat} {u o y : Int} (m : Mo W one a b u M) (hb : one[b]? = some o) (hy : M[a + b]? = some y) (hu : 0 ≤ u) (ho : 0 ≤ o) : Mo W one a (b + 1) u (M.set (a + b) (y + u * o)) := by
  refine ⟨fun φ => ?_, fun w hw => ?_, by rw [List.length_set]; exact m.len⟩
  · rw [sI_set φ M 0 (a + b) (u * o) y hy, m.eq, take_more hb, sI_snoc, List.length_take, Nat.min_eq_left (Nat.le_of_lt (len_of hb)), Int.zero_add, Int.zero_add]
    rw [show ((a + b : Nat) : Int) = (a : Int) + (b : Int) by omega, Rat.intCast_mul]
    grind
  · rcases List.mem_or_eq_of_mem_set hw with h | h
    · exact m.nn w h
    · have h1 := m.nn y (List.mem_of_getElem? hy)
      have h2 := Int.mul_nonneg hu ho
      omega
theorem mo_end {W one M : List Int} {a : Nat} {u : Int} (m : Mo W one a one.length u M) (ha : W[a]? = some u) : Mo W one (a + 1) 0 0 M := by
  refine ⟨fun φ => ?_, m.nn, m.len⟩
  rw [m.eq, List.take_length, take_more ha, sI_snoc, List.length_take, Nat.min_eq_left (Nat.le_of_lt (len_of ha)), Int.zero_add]
  simp only [List.take_zero, sI]
  grind
theorem cv_turn {F : List (List Int)} {W one M : List Int} {v : Int} (c : Cv F W) (m : Mo W one W.length 0 v M) (h8 : one.length ≤ 8) : Cv (F ++ [one]) M := by
  refine ⟨fun φ => ?_, m.nn, ?_⟩
  · rw [m.eq, List.take_length, c.eq (fun i => sI (fun j o => (o : Rat) * φ (i + j)) 0 one), Ex_snoc]
    simp only [List.take_zero, sI, List.sum_append, List.sum_cons, List.sum_nil, Int.add_zero]
    grind
  · have := m.len
    have := c.len
    rw [List.length_append, List.length_singleton]
    omega
theorem cv_sum {F : List (List Int)} {W : List Int} (c : Cv F W) : W.sum = TI F := by
  have h := c.eq fun _ => 1
  rw [E_const, sI_sum] at h
  have : ((W.sum : Int) : Rat) = (TI F : Int) := by grind
  exact Rat.intCast_inj.mp this
theorem sum_ge : ∀ {l : List Int}, (∀ x ∈ l, (0 : Int) ≤ x) → 0 ≤ l.sum ∧ ∀ x ∈ l, x ≤ l.sum
  | [], _ => ⟨by simp, fun x hx => by simp at hx⟩
  | y :: l, hl => by
    obtain ⟨i1, i2⟩ := sum_ge fun x hx => hl x (List.mem_cons_of_mem _ hx)
    have hy := hl y List.mem_cons_self
    rw [List.sum_cons]
    refine ⟨by omega, fun x hx => ?_⟩
    rcases List.mem_cons.mp hx with rfl | hx
    · omega
    · have := i2 x hx; omega
theorem cv_le {F : List (List Int)} {W : List Int} (c : Cv F W) : ∀ w ∈ W, 0 ≤ w ∧ w ≤ TI F := fun w hw => ⟨c.nn w hw, by rw [← cv_sum c]; exact (sum_ge c.nn).2 w hw⟩
/-- what the last day costs, by the weights -/
theorem cv_day {S : Shop} {F : List (List Int)} {W : List Int} (c : Cv F W) (l : Int) : ((mapI (fun k w => w * dc S l k) 0 W).sum : Rat) / ((W.sum : Int) : Rat) = mday S F l := by
  rw [mapI_sum, cv_sum c]
  unfold mday
  rw [← c.eq fun k => (dc S l k : Rat)]
  congr 2
  funext k w
  rw [Rat.intCast_mul]
theorem cv_end {S : Shop} {F : List (List Int)} {W : List Int} (c : Cv F W) (l : Int) : ((mapI (fun k w => w * ec S (nst S l k)) 0 W).sum : Rat) / ((W.sum : Int) : Rat) = mend S F l := by
  rw [mapI_sum, cv_sum c]
  unfold mend
  rw [← c.eq fun k => (ec S (nst S l k) : Rat)]
  congr 2
  funext k w
  rw [Rat.intCast_mul]
end TM
namespace TM
theorem gr_mono : ∀ (F : List (List Int)) (k : Nat), 0 ≤ gr (F.take k)
  | [], k => by simp [gr]
  | one :: F, 0 => by simp [gr]
  | one :: F, k + 1 => by
    have := gr_mono F k
    have h1 := gr_nonneg1 one 0 (by omega)
    rw [List.take_succ_cons, gr_cons]; omega
theorem gr_take_drop (F : List (List Int)) (k : Nat) : gr (F.take k) + gr (F.drop k) = gr F := by
  unfold gr
  rw [← List.sum_append, ← List.map_append, List.take_append_drop]
theorem gr_take_more {F : List (List Int)} {k : Nat} {one : List Int} (h : F[k]? = some one) : gr (F.take (k + 1)) = gr (F.take k) + gr1 0 one := by
  rw [take_more h]
  unfold gr; rw [List.map_append, List.sum_append]; simp
theorem TI_drop_more {F : List (List Int)} {k : Nat} {one : List Int} (h : F[k]? = some one) : TI (F.drop k) = one.sum * TI (F.drop (k + 1)) := by
  rw [drop_more h]; rfl
/-- the least counted stock of a day -/
def low (F : List (List Int)) (stock : Int) (t : Nat) : Int := stock - gr (F.take t)
def tabRow (S : Shop) (L : Nat) (F : List (List Int)) (stock : Int) (t : Nat) : List (Rat × Int) := (List.range (S.top + 1 - low F stock t).toNat).map fun i => Vt S L (F.drop t) (low F stock t + (i : Nat))
def tabOf (S : Shop) (L : Nat) (F : List (List Int)) (stock : Int) : List (List (Rat × Int)) := (List.range (F.length - L)).map (tabRow S L F stock)
theorem tabRow_get {S : Shop} {L : Nat} {F : List (List Int)} {stock : Int} {t i : Nat} (h : i < (S.top + 1 - low F stock t).toNat) : (tabRow S L F stock t)[i]? = some (Vt S L (F.drop t) (low F stock t + (i : Nat))) := by
  unfold tabRow
  rw [List.getElem?_map, List.getElem?_range h]; rfl
theorem tabOf_get {S : Shop} {L : Nat} {F : List (List Int)} {stock : Int} {t : Nat} (h : t < F.length - L) : (tabOf S L F stock)[t]? = some (tabRow S L F stock t) := by
  unfold tabOf
  rw [List.getElem?_map, List.getElem?_range h]; rfl
theorem tabRow_len (S : Shop) (L : Nat) (F : List (List Int)) (stock : Int) (t : Nat) : (tabRow S L F stock t).length = (S.top + 1 - low F stock t).toNat := by
  unfold tabRow; rw [List.length_map, List.length_range]
theorem tabOf_len (S : Shop) (L : Nat) (F : List (List Int)) (stock : Int) : (tabOf S L F stock).length = F.length - L := by
  unfold tabOf; rw [List.length_map, List.length_range]
/-! ### bottoms -/
theorem Ex_int' (F : List (List Int)) (g : List Int → Int) : ∃ N : Int, Ex F (fun r => (g r : Rat)) = N := E_int F fun r => ⟨g r, rfl⟩
theorem mday_fits {S : Shop} {F : List (List Int)} (h : Good F) (l : Int) : Fits (TI F) (mday S F l) := by
  obtain ⟨N, hN⟩ := Ex_int' F fun r => dc S l r.sum
  exact ⟨N, by rw [mday_mul h, hN]⟩
theorem mend_fits {S : Shop} {F : List (List Int)} (h : Good F) (l : Int) : Fits (TI F) (mend S F l) := by
  obtain ⟨N, hN⟩ := Ex_int' F fun r => ec S (nst S l r.sum)
  exact ⟨N, by rw [mend_mul h, hN]⟩
theorem mday_fits_take {S : Shop} {F : List (List Int)} (h : Good F) (k : Nat) (l : Int) : Fits (TI F) (mday S (F.take k) l) := by
  rw [← TI_drop_take F k]
  exact (mday_fits (h.take k) l).mul _
theorem mnext_fits {one : List Int} {cost : Int → Rat} {D l : Int} (hs : 0 < one.sum) (h : ∀ (j : Nat) (w : Int), one[j]? = some w → 0 < w → Fits D (cost (l - j))) : Fits (one.sum * D) (mnext one cost l) := by
  unfold mnext
  refine Fits.sI fun j w e => ?_
  split
  · rename_i hw
    rw [show (0 : Int) + (j : Int) = (j : Int) by omega]
    obtain ⟨N, hN⟩ := h j w e hw
    have h2 := rcast_ne hs
    refine ⟨N * w, ?_⟩
    rw [Rat.intCast_mul, Rat.intCast_mul, ← hN]
    grind
  · exact Fits.zero _
theorem Vt_fits {S : Shop} {L : Nat} : ∀ (F : List (List Int)) (c : Int), Good F → c ≤ S.top → Fits (TI F) (Vt S L F c).1
  | [], c, _, _ => Fits.zero _
  | one :: F, c, h, hc => by
    obtain ⟨k1, k2, k3, _⟩ := V_spec (S := S) (L := L) (one := one) (F := F) hc
    rw [k1]
    refine (Fits.int _ _).add ?_
    unfold Ut
    refine (mday_fits_take h _ _).add ?_
    split
    · exact mend_fits h _
    · simp only [TI]
      exact mnext_fits h.sum fun j w e hw => Vt_fits F _ h.tail (by omega)
theorem Ut_fits {S : Shop} {L : Nat} {one : List Int} {F : List (List Int)} {l : Int} (h : Good (one :: F)) (hl : l ≤ S.top) : Fits (TI (one :: F)) (Ut S L one F l) := by
  unfold Ut
  refine (mday_fits_take h _ _).add ?_
  split
  · exact mend_fits h _
  · simp only [TI]
    exact mnext_fits h.sum fun j w e hw => Vt_fits F _ h.tail (by omega)
theorem preM_fits {S : Shop} {F : List (List Int)} (h : Good F) (stock : Int) : ∀ k, Fits (TI F) (preM S F stock k)
  | 0 => Fits.zero _
  | k + 1 => (preM_fits h stock k).add (mday_fits_take h _ _)
end TM
namespace TM
theorem TI_snoc : ∀ (F : List (List Int)) (one : List Int), TI (F ++ [one]) = TI F * one.sum
  | [], one => by simp [TI]
  | o :: F, one => by simp only [List.cons_append, TI, TI_snoc F one, Int.mul_assoc]
/-! ### a drawn way -/
def mixS (n f : Int) : Int := (n * 31 + f + 1) % 2147483647
def mixF (key t c : Int) (row : List Int) : Int := row.foldl mixS (key + 7919 * t + 104729 * (c + 60)) ^ 3 % 2147483629 / 7
def wayA (S : Shop) (key : Int) (t : Nat) (c : Int) (row : List Int) : Int := c + mixF key t c row % (S.top - c + 1)
theorem wayA_lv (S : Shop) (key : Int) : Lv S (wayA S key) := fun t c hist hc => by
  unfold wayA
  have h1 := Int.emod_nonneg (mixF key t c hist) (show S.top - c + 1 ≠ 0 by omega)
  have h2 := Int.emod_lt_of_pos (mixF key t c hist) (show 0 < S.top - c + 1 by omega)
  omega
/-- the way that the table tells -/
def wayT (S : Shop) (L : Nat) (F : List (List Int)) (t : Nat) (c : Int) (_ : List Int) : Int := (Vt S L (F.drop t) c).2
theorem wayT_lv {S : Shop} {L : Nat} {F : List (List Int)} {t : Nat} {c : Int} {hist : List Int} (ht : t + L < F.length) (hc : c ≤ S.top) : c ≤ wayT S L F t c hist ∧ wayT S L F t c hist ≤ S.top := by
  unfold wayT
  obtain ⟨one, hone⟩ : ∃ one, F[t]? = some one := ⟨F[t], List.getElem?_eq_getElem (by omega)⟩
  rw [drop_more hone]
  obtain ⟨_, k2, k3, _⟩ := V_spec (S := S) (L := L) (one := one) (F := F.drop (t + 1)) hc
  exact ⟨k2, k3⟩
/-! ### the list of what is coming -/
theorem drop_get {l : List Int} {t : Nat} {p : Int} {r : List Int} (h : l.drop t = p :: r) : l[t]? = some p := by
  have := congrArg (fun x => x[0]?) h
  simpa using this
theorem drop_next {l : List Int} {t : Nat} {p : Int} {r : List Int} (h : l.drop t = p :: r) : l.drop (t + 1) = r := by
  rw [← List.drop_drop, h]
  rfl
theorem drop_set {l : List Int} {t k : Nat} {z : Int} : (l.set (t + k) z).drop t = (l.drop t).set k z := by
  rw [List.drop_set, if_neg (by omega), Nat.add_sub_cancel_left]
theorem set_pipe : ∀ (ps : List Int) (m : Nat) (z : Int), (ps ++ List.replicate (m + 1) 0).set ps.length z = (ps ++ [z]) ++ List.replicate m 0
  | [], m, z => by simp [List.replicate_succ]
  | p :: ps, m, z => by
    simp only [List.cons_append, List.length_cons, List.set_cons_succ]
    rw [set_pipe ps m z]
theorem sum_pipe (ps : List Int) (m : Nat) : (ps ++ List.replicate m 0).sum = ps.sum := by
  rw [List.sum_append, sum_zeros, Int.add_zero]
/-! ### the rows' weights -/
theorem rows_many {F : List (List Int)} (hF : ∀ one ∈ F, ∀ w ∈ one, 0 ≤ w ∧ w ≤ 1000) : ∀ p ∈ rowsOf F, 0 < p.2 ∧ p.2 ≤ 1000 ^ F.length := by
  have key : ∀ (F : List (List Int)) (k : Nat) (rows : List (List Int × Int)), (∀ one ∈ F, ∀ w ∈ one, 0 ≤ w ∧ w ≤ 1000) → (∀ p ∈ rows, 0 < p.2 ∧ p.2 ≤ (1000 : Int) ^ k) → ∀ p ∈ F.foldl (fun rows one => stepR one rows) rows, 0 < p.2 ∧ p.2 ≤ (1000 : Int) ^ (k + F.length) := by
    intro F
    induction F with
    | nil => intro k rows _ h p hp; exact h p hp
    | cons one F ih =>
      intro k rows hF h p hp
      rw [List.foldl_cons] at hp
      have := ih (k + 1) (stepR one rows) (fun o ho => hF o (List.mem_cons_of_mem _ ho)) (fun p hp => by
        unfold stepR at hp
        obtain ⟨q, hq, hp⟩ := List.mem_flatMap.mp hp
        obtain ⟨h1, h2⟩ := h q hq
        obtain ⟨j, w, a, b, c⟩ := ext_mem (k := 0) hp
        rw [c]
        have wB := hF one List.mem_cons_self w (List.mem_of_getElem? a)
        refine ⟨Int.mul_pos h1 b, ?_⟩
        rw [Int.pow_succ]
        exact Int.mul_le_mul h2 wB.2 wB.1 (Int.pow_nonneg (by decide))) p hp
      rw [List.length_cons, show k + (F.length + 1) = k + 1 + F.length by omega]
      exact this
  intro p hp
  have := key F 0 [([], 1)] hF (fun p hp => by
    obtain rfl := List.mem_singleton.mp hp
    exact ⟨by decide, by decide⟩) p hp
  rw [Nat.zero_add] at this
  exact this
theorem rows_len {F : List (List Int)} (hF : ∀ one ∈ F, one.length ≤ 8) : (rowsOf F).length ≤ 8 ^ F.length := by
  have key : ∀ (F : List (List Int)) (rows : List (List Int × Int)), (∀ one ∈ F, one.length ≤ 8) → (F.foldl (fun rows one => stepR one rows) rows).length ≤ rows.length * 8 ^ F.length := by
    intro F
    induction F with
    | nil => intro rows _; simp
    | cons one F ih =>
      intro rows hF
      rw [List.foldl_cons]
      have h1 := ih (stepR one rows) fun o ho => hF o (List.mem_cons_of_mem _ ho)
      have h2 := stepR_len one rows
      have h3 := hF one List.mem_cons_self
      have h4 : (stepR one rows).length * 8 ^ F.length ≤ (rows.length * 8) * 8 ^ F.length := Nat.mul_le_mul_right _ (Nat.le_trans h2 (Nat.mul_le_mul_left _ h3))
      rw [List.length_cons, Nat.pow_succ, Nat.mul_comm (8 ^ F.length) 8, ← Nat.mul_assoc]
      omega
  have := key F [([], 1)] hF
  simpa [rowsOf] using this
def costL (g : List Int → Int) (rows : List (List Int × Int)) : List Int := rows.map fun p => p.2 * g p.1
theorem costL_sum (g : List Int → Int) : ∀ rows : List (List Int × Int), ((costL g rows).sum : Rat) = wsum (fun r => (g r : Rat)) rows
  | [] => rfl
  | p :: rows => by
    have ih := costL_sum g rows
    unfold costL at *
    rw [wsum_cons, List.map_cons, List.sum_cons, Rat.intCast_add, ih, Rat.intCast_mul]
theorem cost_E (g : List Int → Int) {F : List (List Int)} (h : NN F) : ((costL g (rowsOf F)).sum : Rat) = Ex F fun r => (g r : Rat) := by
  rw [costL_sum, rows_E _ h]
theorem rowsOf_take_more {F : List (List Int)} {i : Nat} {one : List Int} (h : F[i]? = some one) : rowsOf (F.take (i + 1)) = stepR one (rowsOf (F.take i)) := by
  rw [take_more h, rowsOf_snoc]
end TM
/-! Own rules: enumerate of a tuple, sum of a tuple of ints, repr of data. -/
namespace TW
open PySem PySem.Spec PyProof.Rows L2

/-! ### sum(t), t a tuple of ints -/
def rSumT (K : PySem.W.Frag) : List V → Hp → VK → Prop := fun vs H Q => ∃ (t : Addr) (zs : List Int), vs = [V.ref t] ∧ SqT K H t (zs.map V.int) ∧ Q (.int zs.sum) H
theorem cr_sumT {X : Cx} (calm : X.calm = true) : CallR X (.builtin "sum") (rSumT X.K) := by
  rintro pins s σ H vs us Q I r ⟨t, zs, rfl, ht, q⟩
  obtain ⟨its, rv, tp, _⟩ := I.tuple ht
  have rv := rv.ints
  rw [Vals.ref1 r]
  obtain ⟨xs, ex⟩ := rv.allInts.items
  have en : numsOf (intItems xs).toList = zs := by rw [← ex]; exact rv.numsOf
  rw [nums_intItems] at en
  have tp' : s.heap.IsTuple t (intItems xs) := by rw [← ex]; exact tp
  refine PySem.W.ktm_sumG (I.ok.hd calm) tp' fun h' tk t' keep => ?_
  rw [preSum_eq, List.take_of_length_le (by simp), en]
  exact ⟨.int zs.sum, H, I.kept keep, ⟨_, rfl⟩, q⟩

/-! ### repr of data -/
def rRepr (K : PySem.W.Frag) : List V → Hp → VK → Prop := fun vs H Q => ∃ (a : Addr) (d : PyData), vs = [V.ref a] ∧ Dp K H (.ref a) d ∧ d.showable = true ∧ d.hasDict = false ∧ d.depth ≤ 20 ∧ d.shown.length ≤ sizeLine ∧ Q (.str d.shown) H
theorem cr_repr {X : Cx} (guards : X.A.guards = some []) (hu : X.A.units + 64 < cLine) : CallR X (.builtin "repr") (rRepr X.K) := by
  rintro pins s σ H vs us Q I r ⟨a, d, rfl, hd, sh, nd, dp, sz, q⟩
  rw [Vals.ref1 r]
  obtain ⟨as, rd⟩ := Dp.reads I d (.ref a) (.ref a) hd rfl
  exact repr_of_reads' (h₀ := s.heap) rd sh (PyData.noDict_hsm nd) guards (by omega) (fun _ _ e => e) (fun h' u tk keep => ⟨.str d.shown, H, I.kept keep, ⟨u, rfl⟩, q⟩) sz

/-! ### for i, x in enumerate(t), t a tuple -/
theorem meets_enumT (t : Addr) (items : Array Value) :
    Meets (Builtin.«enumerate.__new__» ⟨[.type "enumerate", .ref t], []⟩) (fun _ R s => s.heap.IsTuple t items ∧
      R (.ok (.ret (.ref (s.heap.push ⟨.type "tuple_iterator", none, .fields #[.ref t, .int 0 0], #[]⟩).objs.size)))
        { s with heap := (s.heap.push ⟨.type "tuple_iterator", none, .fields #[.ref t, .int 0 0], #[]⟩).push ⟨.type "enumerate", none, .fields #[.none, .bool false, .ref s.heap.objs.size, rawInt 0, .none, .none], #[]⟩ }) := by
  refine .of_wp fun prog w A R s h => ?_
  obtain ⟨hp, g, d, tk, os⟩ := s
  obtain ⟨ht, h⟩ := h
  have hsub := sub_enumerate
  have hT : Heap.IsTuple (Shared.heap ⟨hp, g, d, tk, os⟩) t items := ht
  obtain ⟨ob, hob, hcls, nn, hdat⟩ := id ht
  wp_walk using AutoSeq1.wpAny_loadPart' hob, wpAny_pyIter_tuple hT
  refine wpAny_stack_any fun frames => wpAny_pure ?_
  split
  next c _ _ _ _ _ =>
    cases (c == Value.type "enumerate") <;> (wp_walk using AutoSeq1.wpAny_loadPart' hob, wpAny_pyIter_tuple hT; exact ⟨_, rfl, h⟩)
  next =>
    wp_walk using AutoSeq1.wpAny_loadPart' hob, wpAny_pyIter_tuple hT
    exact ⟨_, rfl, h⟩
section
variable {prog : Program} {w : World} {A : Around} {E : Value → Shared → Prop} {s : Shared}
/-- the call: a new iterator of the tuple, then the enumerate object over it -/
theorem call_enumT {t : Addr} {items : Array Value} {Q : Value → Shared → Prop} (ht : s.heap.IsTuple t items)
    (k : ∀ h' : Heap, IsEnum h' (s.heap.objs.size + 1) s.heap.objs.size 0 .none → h'.IsTupleIter s.heap.objs.size t 0 → (∀ b o, s.heap.get? b = some o → h'.get? b = some o) → Q (.ref (s.heap.objs.size + 1)) { s with heap := h' }) :
    wpAny (model prog w) A (call (.type "enumerate") [.ref t]) Q E s := by
  refine callType_new F.called_enumerate (by decide) (F.typeCall_enumerate_1 _) (F.newCall_enumerate_1 _) (fun ob => F.args_object_init_2 ob _) F.entry_enumerate_new (meets_enumT t items) ⟨ht, ?_⟩
  generalize e1 : s.heap.push ⟨.type "tuple_iterator", none, .fields #[.ref t, .int 0 0], #[]⟩ = g1
  have z1 : g1.objs.size = s.heap.objs.size + 1 := by rw [← e1]; exact Heap.size_push ..
  have i1 : g1.get? s.heap.objs.size = some ⟨.type "tuple_iterator", none, .fields #[.ref t, .int 0 0], #[]⟩ := by rw [← e1]; exact Heap.get?_push_size _ rfl
  show _ ∧ _
  rw [z1]
  have en : IsEnum (g1.push ⟨.type "enumerate", none, .fields #[.none, .bool false, .ref s.heap.objs.size, rawInt 0, .none, .none], #[]⟩) (s.heap.objs.size + 1) s.heap.objs.size 0 .none := by
    have q := Heap.get?_push_size g1 (o := ⟨.type "enumerate", none, .fields #[.none, .bool false, .ref s.heap.objs.size, rawInt 0, .none, .none], #[]⟩) rfl
    rw [z1] at q
    exact q
  exact ⟨⟨_, en, rfl⟩, k _ en ⟨_, Heap.get?_push_of_some _ i1, rfl, rfl⟩ fun b o x => Heap.get?_push_of_some _ (by rw [← e1]; exact Heap.get?_push_of_some _ x)⟩
end
/-- the tuple at a, each item in a new pair with its place -/
def IteT (K : PySem.W.Frag) (a : Addr) : It where
  go := fun i H => ∃ (xs : List V) (x : V), SqT K H a xs ∧ xs[i]? = some x
  yld := fun i H v H' => ∃ T x, v = .ref T ∧ H T = none ∧ H' = upd H T (.tup [.int (i : Nat), x]) ∧ ∀ xs, SqT K H a xs → xs[i]? = some x
  stop := fun i H => ∃ xs : List V, SqT K H a xs ∧ xs.length = i
theorem turn_enumT {P : Program} {w : World} {K : PySem.W.Frag} {elts : List Expr} {kk : Nat} {tpos : Pos} (a e it : Addr) :
    Turn P w K (.Tuple elts kk tpos) (IteT K a) [e, it] e (fun i h => (∃ old, IsEnum h e it ((i : Nat) : Int) old) ∧ h.IsTupleIter it a i ∧ e ≠ it ∧ a ≠ it ∧ e ≠ a) where
  mem := List.mem_cons_self
  obj := by
    rintro i h ⟨⟨old, he⟩, ⟨o, ho, _, hd⟩, _⟩ b hb
    rcases List.mem_cons.mp hb with z | z
    · rw [z]
      exact ⟨_, he, fun v q => nomatch q⟩
    · rw [List.mem_singleton.mp z]
      exact ⟨o, ho, fun v q => by rw [hd] at q; cases q⟩
  keep := by
    rintro i h h' ⟨⟨old, he⟩, hi, hne⟩ k
    exact ⟨⟨old, k e (by simp) _ he⟩, hi.at fun o q => k it (by simp) o q, hne⟩
  item := by
    rintro X rfl rfl rfl hc i pins s σ H E I hf ⟨⟨old, he⟩, hit, hne, hai, hea⟩ ⟨xs, x, hq, hx⟩
    obtain ⟨its, rv, tp, _⟩ := I.tuple hq
    obtain ⟨u, hu, ru⟩ := rv.get hx
    have hlt : i < its.toArray.size := by
      have q := (List.getElem?_eq_some_iff.mp hu).1
      simpa using q
    have lt1 : e < s.heap.objs.size := Heap.lt_size he
    have lt2 : it < s.heap.objs.size := by
      obtain ⟨_, q, _⟩ := hit
      exact Heap.lt_size q
    have D := Draws.tuple (prog := X.prog) (w := X.w) (A := X.A.in1) (I.ok.hd hc) it a hai its.toArray
    refine wpAny_pyNext_enum_itemC D he ⟨hit, tp⟩ hlt hne (by simp [hne, hea]) fun y h' tk hP ho hst hT hsz hk => ?_
    have ey : y = u := by
      have q : its.toArray[i]? = some u := by simpa using hu
      rw [q] at hP
      exact (Option.some.inj hP).symm
    subst ey
    refine ⟨_, rfl, wpAny_letOwnedTupleGo_enum (s := { s with heap := h', toks := tk + 1 }) ho fun h2 he2 sb => ?_⟩
    have hT2 := (sb.2 _ (Nat.ne_of_gt lt1)).trans hT
    have new : ObjOk X.prog X.w (upd H s.heap.objs.size (.tup [.int (i : Nat), x])) h2 s.heap.objs.size (.tup [.int (i : Nat), x]) := ⟨by show 2 ≤ sizeLine; decide, _, .cons ⟨_, rfl⟩ (.cons ru .nil), _, hT2, rfl, _, rfl⟩
    have J := I.turnedNew (t' := tk + 1) (h' := h2) (ch := [e, it]) (fun b ob hb q => (sb.2 b fun z => hb (by simp [z])).trans (hk b ob (fun z => hb (by simp [z])) (fun z => hb (by simp [z])) q)) hf (Nat.le_refl _) new
    refine ⟨.ref s.heap.objs.size, _, J, rfl, ⟨_, x, rfl, I.hok.fresh (Nat.le_refl _), rfl, fun ys hy => by rw [I.tuple_inj hy hq]; exact hx⟩, ⟨⟨y, ?_⟩, hst.1.at fun o q => (sb.2 it (Ne.symm hne)).trans q, hne, hai, hea⟩, fun b hb => ?_⟩
    · rw [show ((i + 1 : Nat) : Int) = (i : Int) + 1 by omega]
      exact he2
    · have hb' : b < s.heap.objs.size := by
        rcases List.mem_cons.mp hb with z | z
        · rw [z]; exact lt1
        · rw [List.mem_singleton.mp z]; exact lt2
      rw [upd_ne (Nat.ne_of_lt hb')]
      exact (hf b hb).1
  done := by
    rintro X rfl rfl rfl hc i pins s σ H E I hf ⟨⟨old, he⟩, hit, hne, hai, hea⟩ ⟨xs, hq, hx⟩
    obtain ⟨its, rv, tp, _⟩ := I.tuple hq
    obtain ⟨g0, g1, g2, g3, g4, g5⟩ := hf it (by simp)
    have hl := rv.length
    have D := Draws.tuple (prog := X.prog) (w := X.w) (A := X.A.in1) (I.ok.hd hc) it a hai its.toArray
    have hn : i = its.toArray.size := by
      rw [List.size_toArray]
      omega
    subst hn
    exact wpAny_pyNext_enum_endD D he ⟨hit, tp⟩ fun h' eb => ⟨rfl, I.turned (t' := s.toks) (fun b o hb q => eb b o hb q) g0 g1 g3 g4 g5⟩
  self := fun A i s Q E st h => by
    obtain ⟨⟨_, he⟩, _⟩ := st
    exact wpAny_pyIter_enum he h
def iEnumT (K : PySem.W.Frag) (ta : TA) : TI := fun σ H R => ta σ H fun vs H1 => ∃ a xs, vs = [.ref a] ∧ SqT K H1 a xs ∧ R (IteT K a) H1
theorem pi_enumT {X : Cx} {e : Expr} {ta : TA} {p pos tpos : Pos} {elts : List Expr} {kk : Nat} (hg : Gl X "enumerate") (hm : X.mg "enumerate" = none) (ha : PA X [e] ta) (hs : starEach [e] X.env = [(false, eval e X.env)] := by rfl) :
    PI X (.Tuple elts kk tpos) (.Call (.Name "enumerate" p) [e] [] pos) (iEnumT X.K ta) := by
  refine ⟨fun pins s σ H R I h => Call_ (ld_blt I hg hm boot_enumerate (PyProof.Rows.callWith_type1 (thn (ha.run pos pins s σ H _ I h) fun us s1 ⟨vs, H1, I1, r1, a, xs, ex, hq, q⟩ => ?_) hs rfl))⟩
  subst ex
  rw [Vals.ref1 r1]
  obtain ⟨its, rv, tp, _⟩ := I1.tuple hq
  have la : a < s1.heap.objs.size := by
    obtain ⟨_, q1, _⟩ := tp
    exact Heap.lt_size q1
  refine call_enumT tp fun h' he hit hk => wpAny_pyIter_enum he ?_
  refine ⟨s1.heap.objs.size + 1, [s1.heap.objs.size + 1, s1.heap.objs.size], _, _, H1, rfl, I1.kept (t' := s1.toks) hk, turn_enumT a (s1.heap.objs.size + 1) s1.heap.objs.size, ⟨⟨.none, he⟩, hit, Nat.succ_ne_self _, Nat.ne_of_lt la, Nat.ne_of_gt (Nat.lt_succ_of_lt la)⟩, fun b hb => ?_, q⟩
  have hle : s1.heap.objs.size ≤ b := by
    rcases List.mem_cons.mp hb with z | z
    · rw [z]; exact Nat.le_succ _
    · rw [List.mem_singleton.mp z]; exact Nat.le_refl _
  exact I1.fpOk hle (I1.hok.fresh hle)
theorem walk_enumT {K : PySem.W.Frag} {a : Addr} {xs : List V} : Walk (IteT K a) xs.length (fun H => SqT K H a xs) (YPair (fun i => some (.int (i : Nat))) (fun i => xs[i]?)) where
  goes := fun i _ hi q => ⟨xs, xs[i], q, List.getElem?_eq_getElem hi⟩
  stops := fun _ q => ⟨xs, q, rfl⟩
  yields := by
    rintro i H v H' _ q ⟨T, x, h1, h2, h3, h4⟩
    exact ⟨T, .int (i : Nat), x, h1, h2, h3, rfl, h4 xs q⟩
end TW
/-! A lambda that outlives the def that made it: made and handed back, with two captured names; called later. -/
namespace TW
open PySem PySem.Spec PyProof.Rows L2 LamX NdefX

structure Clo where
  qual : Str
  params : Arguments
  body : Expr
  scope : Scope
  cl : List (Str × Addr)
  c : Addr
abbrev Clo.fd (C : Clo) (pm ctv : Value) : FuncData := PySem.W.kla_fn "<lambda>" C.qual C.params C.body C.scope C.cl pm (.ref C.c) ctv
def Clo.nf (C : Clo) : NF := ⟨"<lambda>", C.qual, C.params, [], C.scope, C.cl, C.c⟩
/-- the lambda's object stands at f -/
def LamO (f : Addr) (C : Clo) : HO := .ext fun h => ∃ pm ctv : Value, h.get? f = some { cls := .type "function", data := .func (C.fd pm ctv) }
/-- a cell that holds v stands at c -/
def CellO (c : Addr) (v : V) : HO := .ext fun h => ∃ u, L2.RelV v u ∧ h.IsCell c (some u)
theorem lamO_ne {f : Addr} {C : Clo} (ps : Array Value) : LamO f C ≠ .tbl ps := fun z => by
  unfold LamO at z
  cases z
/-- the lambda C at f, its two captured names at c1, c2 with their values -/
structure CloAt (H : Hp) (f : Addr) (C : Clo) (x1 x2 : Str) (v1 v2 : V) (c1 c2 : Addr) : Prop where
  ne : c1 ≠ c2
  fn : H f = some (LamO f C)
  co : H C.c = some (CodeO C.c C.qual)
  l1 : C.cl.lookup x1 = some c1
  l2 : C.cl.lookup x2 = some c2
  only : ∀ x c, C.cl.lookup x = some c → (x = x1 ∧ c = c1) ∨ (x = x2 ∧ c = c2)
  h1 : H c1 = some (CellO c1 v1)
  h2 : H c2 = some (CellO c2 v2)
theorem CloAt.same {H H' : Hp} {f : Addr} {C : Clo} {x1 x2 : Str} {v1 v2 : V} {c1 c2 : Addr} (a : CloAt H f C x1 x2 v1 v2 c1 c2) (e : Same H H') : CloAt H' f C x1 x2 v1 v2 c1 c2 :=
  ⟨a.ne, e _ _ a.fn, e _ _ a.co, a.l1, a.l2, a.only, e _ _ a.h1, e _ _ a.h2⟩
/-- the cells let go | taken up again -/
def hid (c1 c2 : Addr) (H : Hp) : Hp := fun b => if b = c1 ∨ b = c2 then none else H b
def shw (c1 c2 : Addr) (H0 H : Hp) : Hp := fun b => if b = c1 ∨ b = c2 then H0 b else H b
theorem hid_ne {c1 c2 b : Addr} {H : Hp} (h : ¬ (b = c1 ∨ b = c2)) : hid c1 c2 H b = H b := if_neg h
theorem hid_at {c1 c2 b : Addr} {H : Hp} (h : b = c1 ∨ b = c2) : hid c1 c2 H b = none := if_pos h
theorem shw_ne {c1 c2 b : Addr} {H0 H : Hp} (h : ¬ (b = c1 ∨ b = c2)) : shw c1 c2 H0 H b = H b := if_neg h
theorem shw_at {c1 c2 b : Addr} {H0 H : Hp} (h : b = c1 ∨ b = c2) : shw c1 c2 H0 H b = H0 b := if_pos h
theorem hid_none {c1 c2 b : Addr} {H : Hp} (h : H b = none) : hid c1 c2 H b = none := by
  unfold hid
  split
  · rfl
  · exact h
theorem hid_some {c1 c2 b : Addr} {H : Hp} {o : HO} (h : hid c1 c2 H b = some o) : ¬ (b = c1 ∨ b = c2) ∧ H b = some o := by
  unfold hid at h
  split at h
  · cases h
  · exact ⟨by assumption, h⟩
/-- what the body left as it was stands behind the call -/
theorem shw_same {c1 c2 : Addr} {H H' : Hp} (e : Same (hid c1 c2 H) H') : Same H (shw c1 c2 H H') := fun b o hb => by
  by_cases q : b = c1 ∨ b = c2
  · rw [shw_at q]; exact hb
  · rw [shw_ne q]; exact e b o ((hid_ne q).trans hb)
section
variable {P : Program} {w : World} {K : PySem.W.Frag} {mg : Str → Option Value} {base : Heap} {N ps : List Str} {f : Addr} {C : Clo} {x1 x2 : Str} {v1 v2 : V} {c1 c2 : Addr} {k : Nat}
/-- THE CALL of such a lambda -/
theorem clo_call {A : Around} {outer : List Env} {s : Shared} {H : Hp} {us : List Value} {vs : List V} {Q : VK} (S : NScope N ps [x1, x2] C.scope) (hb : ∀ (pm ctv : Value) (us : List Value), us.length = ps.length → bindArgs (C.fd pm ctv) ⟨us, []⟩ = pure (ps.zip us))
    (hr : Room (k + 1) A) (e0 : Env0 P w K mg base A outer s H) (ca : CloAt H f C x1 x2 v1 v2 c1 c2) (r : Vals vs us) (hl : vs.length = ps.length)
    (hbody : Room k (A.deeper (envF C.nf f s.heap.objs.size)) → ∃ t, PE (ncx CX0 P w K mg base N C.nf f A outer s (hid c1 c2 H) E0) C.body t ∧ t (startF N vs [some v1, some v2]) (hid c1 c2 H) fun v H' => Q v (shw c1 c2 H H')) :
    codeAny (model P w) A (.call (.ref f) ⟨us, []⟩) (CR CX0 outer P w H s Q E0) s := by
  have nc : ∀ b o, H b = some o → (∀ φ, o ≠ .ext φ) → ¬ (b = c1 ∨ b = c2) := fun b o e n q => by
    rcases q with q | q
    · rw [q, ca.h1] at e
      exact n _ (Option.some.inj e).symm
    · rw [q, ca.h2] at e
      exact n _ (Option.some.inj e).symm
  have cellAt : ∀ b, b = c1 ∨ b = c2 → ∃ v, H b = some (CellO b v) := fun b q => by
    rcases q with q | q
    · rw [q]; exact ⟨_, ca.h1⟩
    · rw [q]; exact ⟨_, ca.h2⟩
  have hok0 : HOk P w (hid c1 c2 H) s.heap := fun a o e => (e0.hok a o (hid_some e).2).stay (fun _ _ _ q => q) (fun b q => (hid_ne (nc b _ q fun _ z => by cases z)).trans q) fun b xs q => (hid_ne (nc b _ q fun _ z => by cases z)).trans q
  have e00 : Env0 P w K mg base A outer s (hid c1 c2 H) := ⟨e0.frames, e0.mod, fun b o q => ⟨(e0.bs b o q).1, hid_none (e0.bs b o q).2⟩, e0.bsz, e0.funs, fun b hb => hid_none (e0.frf b hb), hok0, e0.bare⟩
  have ce : ∀ b v, H b = some (CellO b v) → ∃ u, L2.RelV v u ∧ s.heap.IsCell b (some u) := fun b v e => (e0.hok b _ e).1
  have cells : CellsAt C.nf.cl [x1, x2] [some v1, some v2] s.heap (hid c1 c2 H) := by
    refine ⟨rfl, fun y c e => ?_, fun x y c e1 e2 => ?_, fun i y e => ?_⟩
    · have q : c = c1 ∨ c = c2 := (ca.only y c e).imp And.right And.right
      obtain ⟨v, z⟩ := cellAt c q
      obtain ⟨u, _, z2⟩ := ce c v z
      exact ⟨hid_at q, _, z2⟩
    · rcases ca.only x c e1 with ⟨a1, a2⟩ | ⟨a1, a2⟩ <;> rcases ca.only y c e2 with ⟨b1, b2⟩ | ⟨b1, b2⟩
      · rw [a1, b1]
      · exact absurd (a2.symm.trans b2) ca.ne
      · exact absurd (b2.symm.trans a2) ca.ne
      · rw [a1, b1]
    · match i, e with
      | 0, e =>
        obtain rfl : x1 = y := Option.some.inj e
        refine ⟨c1, ca.l1, fun v ev => ?_⟩
        obtain rfl : v1 = v := Option.some.inj (Option.some.inj ev)
        exact ce c1 v1 ca.h1
      | 1, e =>
        obtain rfl : x2 = y := Option.some.inj e
        refine ⟨c2, ca.l2, fun v ev => ?_⟩
        obtain rfl : v2 = v := Option.some.inj (Option.some.inj ev)
        exact ce c2 v2 ca.h2
  obtain ⟨⟨pm, ctv, ho⟩, _, _⟩ := e0.hok f _ ca.fn
  have lim : s.heap.NoLimit := e0.mod.nolimit.keeps fun b o e => (e0.bs b o e).1
  refine PySem.W.kla_callFunE hr.depth ho rfl S.co S.gen rfl (codeO_at e0.hok ca.co) ?_
  rw [hb pm ctv us (by rw [← r.length]; exact hl)]
  refine wpAny_pure (wpAny_newFunctionEnv S.nocell (fun ⟨n, _⟩ hy => S.par n (List.of_mem_zip hy).1) (fun g1 hns hsb => ⟨lim.fresh _ hsb, ?_⟩) S.kind)
  show codeAny _ _ (.expr C.body (envF C.nf f s.heap.objs.size)) _ _
  have kp : ∀ b o, s.heap.get? b = some o → g1.get? b = some o := fun b o e => hsb.extBut b o (Nat.ne_of_lt (Heap.lt_size e)) (Heap.get?_push_of_some _ e)
  obtain ⟨t, ht, hq⟩ := hbody (hr.deeper _)
  have J := inv_startN (CX := CX0) (K := K) (N := N) (F := C.nf) (f := f) (E := E0) (tk := s.toks + (ps.zip us).length) S hr.hd e00 hl r cells hns kp
  refine PySem.W.kla_codeExpr (wpAny_mono (ht.run [] _ _ _ _ J hq) (fun u s' hs => ?_) fun e s' hs => hs)
  obtain ⟨v, H', J', rv, q⟩ := hs
  have un : Un (frs outer) [] (hid c1 c2 H) H' s.heap s'.heap := J'.base
  have hok' : HOk P w H' s'.heap := J'.hok
  have cn : ∀ b, b = c1 ∨ b = c2 → H' b = none := fun b z => by
    obtain ⟨v, e⟩ := cellAt b z
    obtain ⟨_, _, o, g, _⟩ := ce b v e
    exact un.free b o g (hid_at z) (by simp)
  refine ⟨v, shw c1 c2 H H', J'.os, J'.bare, ⟨fun b o g n hb hx => un.keep b o g (hid_none n) hb hx, fun b o g n hb hx => un.slot b o g (hid_none n) hb hx, fun b o g n hx => ?_, un.there, fun b xs e => ?_, fun b o z e => ?_, fun b qs e => ?_⟩, fun b o e => ?_, rv, q⟩
  · have z : ¬ (b = c1 ∨ b = c2) := fun z => by
      obtain ⟨v, e⟩ := cellAt b z
      rw [n] at e
      cases e
    rw [shw_ne z]
    exact un.free b o g (hid_none n) hx
  · have z := nc b _ e fun _ z => by cases z
    rw [shw_ne z]
    exact un.tups b xs ((hid_ne z).trans e)
  · have z' := nc b _ e fun _ z => by cases z
    rw [shw_ne z']
    exact un.frzs b o z ((hid_ne z').trans e)
  · have z := nc b _ e fun _ z => by cases z
    rw [shw_ne z]
    exact un.tbls b qs ((hid_ne z).trans e)
  · by_cases z : b = c1 ∨ b = c2
    · rw [shw_at z] at e
      obtain ⟨v, e'⟩ := cellAt b z
      obtain rfl : CellO b v = o := Option.some.inj (e'.symm.trans e)
      obtain ⟨u, ru, oc, g, d⟩ := ce b v e'
      have g' := un.keep b oc g (hid_at z) (fun hb => by rw [e0.frf b hb] at e'; cases e') (by simp)
      exact ⟨⟨u, ru, oc, g', d⟩, ⟨oc, g'⟩, fun h1 h2 ⟨u, r, o, a, d⟩ st => ⟨u, r, o, st o a, d⟩⟩
    · rw [shw_ne z] at e
      have back : ∀ c o, H' c = some o → shw c1 c2 H H' c = some o := fun c o e => by
        rw [shw_ne fun z => by rw [cn c z] at e; cases e]
        exact e
      exact (hok' b o e).stay (fun _ _ _ q => q) (fun c q => back c _ q) fun c xs q => back c _ q
end
/-! ### the making -/
section
variable {X : Cx} {pins : List (Addr × Obj)} {σ : L2.St} {H : Hp} {s : Shared}
theorem inv_lam {C : Clo} {t' : Nat} {pm ctv : Value} (I : Inv X pins σ H s) :
    Inv X pins σ (upd H s.heap.objs.size (LamO s.heap.objs.size C)) { s with heap := s.heap.push { cls := .type "function", data := .func (C.fd pm ctv) }, toks := t' } := by
  have e := Heap.get?_push_size s.heap (o := { cls := .type "function", data := .func (C.fd pm ctv) }) rfl
  exact I.laid (fun b u q => Heap.get?_push_of_some _ q) (Nat.le_refl _) ⟨⟨pm, ctv, e⟩, ⟨_, e⟩, fun h1 h2 ⟨p, t, z⟩ st => ⟨p, t, st _ z⟩⟩
/-- the lambda is made, its object is known -/
theorem lam_mk {T : List (Addr × Str)} {c P : Addr} {params : Arguments} {body : Expr} {scope : Scope} {pos : Pos} {E : Value → Shared → Prop} {Q : Value → Shared → Prop} (I : Inv X pins σ H s) (TB : TabB X.base X.mg c P) (hcode : X.env.code = .ref c)
    (hm : (P, X.env.qual ++ "<lambda>") ∈ T) (hu : ∀ p ∈ T, p.1 = P → p.2 = X.env.qual ++ "<lambda>") (hT : Tabs T H) (hdef : defaultsOf params X.env = ([], [])) (hfree : ∀ y ∈ scope.names, y.2 = .free → ∃ c, X.env.cells.lookup y.1 = some c)
    (h : ∀ (f c' : Addr) (H1 : Hp) (s' : Shared), Inv X pins σ H1 s' → ExtN H H1 → Tabs T H1 → X.s_0.heap.objs.size ≤ f →
      H1 f = some (LamO f ⟨X.env.qual ++ "<lambda>", params, body, scope, cloFrom X.env.cells scope.names [], c'⟩) → H1 c' = some (CodeO c' (X.env.qual ++ "<lambda>")) → Q (.ref f) s') :
    wpAny (model X.prog X.w) X.A (eval (.Lambda params body scope pos) X.env) Q E s := by
  generalize hqual : X.env.qual ++ ("<lambda>" : Str) = qn at *
  obtain ⟨ps, hP, ht, ha⟩ := hT _ hm
  refine PySem.W.kla_eval hdef ?_
  show wpAny _ _ (makeFunction "<lambda>" (X.env.qual ++ "<lambda>") params (.expr body) scope X.env [] [] [] pos pos.line) _ _ _
  rw [hqual]
  have bP := TB.bm.keeps I.bk
  have atP : s.heap.get? P = some { cls := .none, data := .fields ps } := I.hok P _ hP
  cases hc : codeAmong pos ps.toList with
  | some cv =>
    obtain ⟨c', rfl, hco⟩ := ha pos cv hc
    refine PySem.W.kla_makeFunctionHit (mg := X.mg) (c := c) (P := P) (ps := ps) (closure_ok hfree) I.ok.glob (I.mod.glob.keeps I.bk) hcode (TB.code.keeps I.bk) atP ht hc bP fun ctv g tk hx hsz => ?_
    have I1 : Inv X pins σ H { s with heap := g, toks := tk } := I.kept hx
    have nF : H g.objs.size = none := I1.hok.fresh (Nat.le_refl _)
    have up : ∀ b o, H b = some o → upd H g.objs.size (LamO g.objs.size ⟨qn, params, body, scope, cloFrom X.env.cells scope.names [], c'⟩) b = some o := fun b o e => (upd_ne (ne_of_none e nF)).trans e
    exact h _ c' _ _ (inv_lam (C := ⟨qn, params, body, scope, cloFrom X.env.cells scope.names [], c'⟩) (t' := tk) (pm := (X.mg "__name__").getD .none) (ctv := ctv) I1) (.of up) (hT.ext up) (Nat.le_trans I.sz hsz) upd_same (up _ _ hco)
  | none =>
    refine PySem.W.kla_makeFunction (mg := X.mg) (c := c) (P := P) (ps := ps) (closure_ok hfree) I.ok.glob (I.mod.glob.keeps I.bk) hcode (TB.code.keeps I.bk) atP ht hc TB.gP bP fun c' ctv g tk hx hge hlt hrec htb => ?_
    obtain ⟨_, oc, vs, t, e2, hoc, hd, hv⟩ := hrec
    cases e2
    have nC : H c' = none := I.hok.fresh hge
    have nPC : P ≠ c' := ne_of_none hP nC
    have I1 := inv_table (t' := tk) (more := #[rawInt pos.line, rawInt pos.col, .ref c']) (h' := g) I hP (fun b o hb e => hx b o hb e) htb hge ⟨oc, vs, t, hoc, hd, hv⟩
    generalize hH1 : upd (upd H P (.tbl (ps ++ #[rawInt pos.line, rawInt pos.col, .ref c']))) c' (CodeO c' qn) = H1 at I1
    have nF : H1 g.objs.size = none := I1.hok.fresh (Nat.le_refl _)
    have up1 : ExtN H H1 := fun b o e n => by
      have nbP : b ≠ P := fun z => n ps (Option.some.inj (e.symm.trans (by rw [z]; exact hP)))
      rw [← hH1, upd_ne (ne_of_none e nC), upd_ne nbP]
      exact e
    have eC : H1 c' = some (CodeO c' qn) := by rw [← hH1]; exact upd_same
    have eP : H1 P = some (.tbl (ps ++ #[rawInt pos.line, rawInt pos.col, .ref c'])) := by rw [← hH1, upd_ne nPC, upd_same]
    have toL : (ps ++ #[rawInt pos.line, rawInt pos.col, .ref c']).toList = ps.toList ++ [rawInt pos.line, rawInt pos.col, .ref c'] := by simp
    have T1 : Tabs T H1 := fun p hp => by
      by_cases hb : p.1 = P
      · rw [hu p hp hb, hb]
        refine ⟨_, eP, by rw [toL]; exact PySem.TriplesOk_snoc _ _ _ _ ht, fun p' cv hcv => ?_⟩
        rw [toL] at hcv
        rcases among_app _ ht hcv with z | z
        · obtain ⟨c0, e1, e2⟩ := ha p' cv z
          exact ⟨c0, e1, up1 _ _ e2 codeO_ne⟩
        · exact ⟨c', z, eC⟩
      · obtain ⟨qs, a1, a2, a3⟩ := hT p hp
        have a1' : H1 p.1 = some (.tbl qs) := by rw [← hH1, upd_ne (ne_of_none a1 nC), upd_ne hb]; exact a1
        refine ⟨qs, a1', a2, fun p' cv hcv => ?_⟩
        obtain ⟨c0, e1, e2⟩ := a3 p' cv hcv
        exact ⟨c0, e1, up1 _ _ e2 codeO_ne⟩
    have up2 : ∀ b o, H1 b = some o → upd H1 g.objs.size (LamO g.objs.size ⟨qn, params, body, scope, cloFrom X.env.cells scope.names [], c'⟩) b = some o := fun b o e => (upd_ne (ne_of_none e nF)).trans e
    exact h _ c' _ _ (inv_lam (C := ⟨qn, params, body, scope, cloFrom X.env.cells scope.names [], c'⟩) (t' := tk) (pm := (X.mg "__name__").getD .none) (ctv := ctv) I1) (up1.trans (.of up2)) (T1.ext up2)
      (Nat.le_trans I.sz (Nat.le_trans hge (Nat.le_of_lt hlt))) upd_same (up2 _ _ eC)
end
end TW
/-! A def that hands back such a lambda. -/
namespace TW
open PySem PySem.Spec PyProof.Rows L2 LamX NdefX
section
variable {P : Program} {w : World} {K : PySem.W.Frag} {mg : Str → Option Value} {base : Heap} {N : List Str} {k : Nat}
/-- a def by its run, said of the very states -/
theorem fn_raw {x qual : Str} {st : Stmt} {f : Addr} {fd : FuncData} {ps : List Str} {sp : Sp} (F : Fun K x qual st f fd) (S : FnScope N ps (defScope st)) (len : ∀ vs H Q E, sp vs H Q E → vs.length = ps.length)
    (hbody : ∀ (cdv : Value) (A : Around) (outer : List Env) (s : Shared) (H : Hp) (vs : List V) (Q : VK) (E : XK), PySem.W.codeIn K cdv qual = true → (∃ kV doc pm an ct, fd = PySem.W.fnOf x qual (defArgs st) (defBody st) (defScope st) .none kV doc pm an cdv ct) →
      Room k (A.deeper (envOfC qual (defScope st) s.heap.objs.size f cdv)) → sp vs H Q E →
      ∀ s1, Inv (cxOf CX0 P w K mg base N qual (defScope st) f cdv A outer s H E) [] (start N vs) H s1 →
        wpAny (model P w) (A.deeper (envOfC qual (defScope st) s.heap.objs.size f cdv)) (execs (defBody st) (envOfC qual (defScope st) s.heap.objs.size f cdv)) (fun fl s' => ∃ u, fl = .ret u ∧ CE outer P w H s Q u s')
          (cxOf CX0 P w K mg base N qual (defScope st) f cdv A outer s H E).xe s1) :
    FnOk P w K mg base CX0 (k + 1) f fd ps sp := by
  obtain ⟨oc, od, kV, doc, pm, an, cdv, ct, osl, rfl, lk, hcd⟩ := F.ex
  refine ⟨len, fun A outer s H args us vs Q E hr e0 hb r hsp => ?_⟩
  have KX : K.In s.heap := e0.mod.kin.keeps fun b o e => (e0.bs b o e).1
  have lim : s.heap.NoLimit := e0.mod.nolimit.keeps fun b o e => (e0.bs b o e).1
  refine codeAny_call_function hr.depth (KX _ _ lk) rfl S.co S.gen rfl (PySem.W.codeRec_of KX hcd) (hb _ _ _ _ ?_)
  refine wpAny_newFunctionEnv_cells S.kind (fun ⟨n, v⟩ hy => (S.par n (List.of_mem_zip hy).1).imp id fun q => ⟨q, PySem.W.cellsFrom_some _ _ _ (.inl q)⟩) fun env he s1 x => ?_
  subst he
  refine ⟨lim.keeps x.toInCall.keep, codeAny_func ?_⟩
  have I : Inv (cxOf CX0 P w K mg base N qual (defScope st) f cdv A outer s H E) [] (start N vs) H s1 := inv_start S hr.hd e0 (len _ _ _ _ hsp) r x
  refine wpAny_mono (hbody cdv A outer s H vs Q E hcd ⟨kV, doc, pm, an, ct, rfl⟩ (hr.deeper _) hsp s1 I) (fun fl s' hs => ?_) fun e s' hs => hs
  obtain ⟨u, rfl, q⟩ := hs
  exact q
/-- return lambda ..: .., in a def: the two captured names hold v1, v2 -/
theorem ret_clo {qual : Str} {scope : Scope} {f0 : Addr} {cdv : Value} {A : Around} {outer : List Env} {s s1 : Shared} {H H1 : Hp} {σ : L2.St} {Q : VK} {E : XK} {T : List (Addr × Str)} {c Pt : Addr} {params : Arguments} {body : Expr} {lsc : Scope} {pos rpos : Pos} {x1 x2 : Str} {j1 j2 : Nat} {v1 v2 : V}
    (I : Inv (cxOf CX0 P w K mg base N qual scope f0 cdv A outer s H E) [] σ H1 s1) (TB : TabB base mg c Pt) (hcode : cdv = .ref c)
    (hm : (Pt, (cxOf CX0 P w K mg base N qual scope f0 cdv A outer s H E).env.qual ++ "<lambda>") ∈ T) (hu : ∀ p ∈ T, p.1 = Pt → p.2 = (cxOf CX0 P w K mg base N qual scope f0 cdv A outer s H E).env.qual ++ "<lambda>") (hT : Tabs T H1)
    (hdef : defaultsOf params (cxOf CX0 P w K mg base N qual scope f0 cdv A outer s H E).env = ([], [])) (hfree : ndefB scope lsc [x1, x2] = true)
    (only : ∀ y ∈ lsc.names, y.2 = .free → y.1 = x1 ∨ y.1 = x2) (hx : x1 ≠ x2) (n1 : N[j1]? = some x1) (n2 : N[j2]? = some x2) (e1 : σ[j1]? = some (some v1)) (e2 : σ[j2]? = some (some v2)) (hk1 : scope.names.lookup x1 = some .cell) (hk2 : scope.names.lookup x2 = some .cell)
    (h : ∀ (f c1 c2 : Addr) (C : Clo) (H2 : Hp), C.qual = (cxOf CX0 P w K mg base N qual scope f0 cdv A outer s H E).env.qual ++ "<lambda>" → C.params = params → C.body = body → C.scope = lsc → ExtN H1 H2 → Tabs T H2 → CloAt H2 f C x1 x2 v1 v2 c1 c2 → Q (.ref f) H2) :
    wpAny (model P w) (A.deeper (envOfC qual scope s.heap.objs.size f0 cdv)) (execs [.Return (some (.Lambda params body lsc pos)) rpos] (envOfC qual scope s.heap.objs.size f0 cdv)) (fun fl s' => ∃ u, fl = .ret u ∧ CE outer P w H s Q u s')
      (cxOf CX0 P w K mg base N qual scope f0 cdv A outer s H E).xe s1 := by
  generalize hX : cxOf CX0 P w K mg base N qual scope f0 cdv A outer s H E = X at *
  have eA : X.A = A.deeper (envOfC qual scope s.heap.objs.size f0 cdv) := by rw [← hX]; rfl
  have eE : X.env = envOfC qual scope s.heap.objs.size f0 cdv := by rw [← hX]; rfl
  have eP : X.prog = P := by rw [← hX]; rfl
  have eW : X.w = w := by rw [← hX]; rfl
  have eS : X.s_0 = s := by rw [← hX]; rfl
  have eH : X.H_0 = H := by rw [← hX]; rfl
  have eO : X.outer = outer := by rw [← hX]; rfl
  have eX : X.ex = [] := by rw [← hX]; rfl
  have eN : X.N = N := by rw [← hX]; rfl
  have eB : X.base = base := by rw [← hX]; rfl
  have eM : X.mg = mg := by rw [← hX]; rfl
  have eF : X.fn = fun _ => true := by rw [← hX]; rfl
  have eSc : X.env.scope = scope := by rw [← hX]; rfl
  have eCd : X.env.code = .ref c := by rw [← hX]; exact hcode
  have fr : ∀ y ∈ lsc.names, y.2 = .free → X.env.scope.names.lookup y.1 = some .cell ∨ X.env.scope.names.lookup y.1 = some .free := by
    rw [eSc]
    exact ndef_free hfree
  have fr2 : ∀ y ∈ lsc.names, y.2 = .free → ∃ c, X.env.cells.lookup y.1 = some c := fun y hy e => (fr y hy e).elim (fun z => I.ok.has _ (.inl z)) fun z => I.ok.has _ (.inr z)
  rw [← eA, ← eE, ← eP, ← eW]
  refine wpAny_execs_cons (wpAny_Return_some (lam_mk I (by rw [eB, eM]; exact TB) eCd hm hu hT hdef fr2 fun f c' H2 s2 I2 xn T2 hf0 hf hc => ?_))
  show ∃ u, Flow.ret (Value.ref f) = .ret u ∧ CE outer X.prog X.w H s Q u s2
  rw [eP, eW]
  refine ⟨_, rfl, ?_⟩
  generalize hC : Clo.mk (X.env.qual ++ "<lambda>") params body lsc (cloFrom X.env.cells lsc.names []) c' = C at hf
  -- the two cells
  have cellOf : ∀ (x : Str) (j : Nat) (v : V), N[j]? = some x → σ[j]? = some (some v) → scope.names.lookup x = some .cell → ∃ c, X.env.cells.lookup x = some c ∧ ∃ u, L2.RelV v u ∧ s2.heap.IsCell c (some u) := fun x j v a b d => by
    obtain ⟨m, _, hl⟩ := I2.loc
    obtain ⟨u, ru, q⟩ := hl j x v (by rw [eN]; exact a) b (.inr (.inl (by rw [eSc]; exact d)))
    rcases q with ⟨z, _⟩ | ⟨_, c, hc, hv⟩
    · have z' : X.env.scope.names.lookup x = some .local := z
      rw [eSc, d] at z'
      cases z'
    · exact ⟨c, hc, u, ru, hv⟩
  obtain ⟨c1, k1, u1, r1, z1⟩ := cellOf x1 j1 v1 n1 e1 hk1
  obtain ⟨c2, k2, u2, r2, z2⟩ := cellOf x2 j2 v2 n2 e2 hk2
  have f1 := I2.freeC x1 c1 k1
  have f2 := I2.freeC x2 c2 k2
  have n12 : c1 ≠ c2 := fun z => hx (I2.ok.inj x1 x2 c1 k1 (by rw [z]; exact k2))
  have m1 : (x1, NameKind.free) ∈ lsc.names := ndef_fr hfree x1 (by simp)
  have m2 : (x2, NameKind.free) ∈ lsc.names := ndef_fr hfree x2 (by simp)
  have new : ∀ x c, X.env.cells.lookup x = some c → s.heap.objs.size ≤ c := fun x c e => by
    have q := I2.ok.cab x c (by rw [eF]) e
    rw [eS] at q
    exact q
  have n1 := new x1 c1 k1
  have n2 := new x2 c2 k2
  -- the heap with the cells taken up
  have up : ∀ b o, H2 b = some o → upd (upd H2 c1 (CellO c1 v1)) c2 (CellO c2 v2) b = some o := fun b o e => by
    rw [upd_ne (ne_of_none e f2), upd_ne (ne_of_none e f1)]
    exact e
  have ca : CloAt (upd (upd H2 c1 (CellO c1 v1)) c2 (CellO c2 v2)) f C x1 x2 v1 v2 c1 c2 := by
    subst hC
    refine ⟨n12, up _ _ hf, up _ _ hc, clo_has fr2 m1 k1, clo_has fr2 m2 k2, fun x c e => ?_, (upd_ne n12).trans upd_same, upd_same⟩
    have q := clo_cm fr2 e
    rcases cloFrom_mem (PySem.mem_of_lookup e) with hm | ⟨hm, _⟩
    · cases hm
    · rcases only _ hm rfl with z | z
      · have z : x = x1 := z
        subst z
        exact .inl ⟨rfl, Option.some.inj (q.symm.trans k1)⟩
      · have z : x = x2 := z
        subst z
        exact .inr ⟨rfl, Option.some.inj (q.symm.trans k2)⟩
  have un : Un (frs outer) [] H H2 s.heap s2.heap := by
    have q := I2.base
    rw [eX, eH, eS] at q
    have e : X.fs = frs outer := by show frs X.outer = _; rw [eO]
    rw [e] at q
    exact q
  have hok : HOk P w H2 s2.heap := by
    have q := I2.hok
    rw [eP, eW] at q
    exact q
  have nlt : ∀ b o, s.heap.get? b = some o → b ≠ c1 ∧ b ≠ c2 := fun b o e => ⟨fun z => by
    rw [z] at e
    exact Nat.lt_irrefl _ (Nat.lt_of_lt_of_le (Heap.lt_size e) n1), fun z => by
    rw [z] at e
    exact Nat.lt_irrefl _ (Nat.lt_of_lt_of_le (Heap.lt_size e) n2)⟩
  have cellOk : ∀ c v u, L2.RelV v u → s2.heap.IsCell c (some u) → ObjOk P w (upd (upd H2 c1 (CellO c1 v1)) c2 (CellO c2 v2)) s2.heap c (CellO c v) := fun c v u ru ⟨o, g, d⟩ => ⟨⟨u, ru, o, g, d⟩, ⟨o, g⟩, fun h1 h2 ⟨u, r, o, a, d⟩ st => ⟨u, r, o, st o a, d⟩⟩
  refine ⟨.ref f, upd (upd H2 c1 (CellO c1 v1)) c2 (CellO c2 v2), by rw [I2.os, eS], I2.bare, ⟨un.keep, un.slot, fun b o g n hx => ?_, un.there, fun b xs e => up _ _ (un.tups b xs e), fun b o z e => up _ _ (un.frzs b o z e), fun b qs e => ?_⟩, fun b o e => ?_, rfl, h f c1 c2 C _ (by rw [← hC]) (by rw [← hC]) (by rw [← hC]) (by rw [← hC]) (xn.trans (.of up)) (T2.ext up) ca⟩
  · obtain ⟨a, b'⟩ := nlt b o g
    rw [upd_ne b', upd_ne a]
    exact un.free b o g n hx
  · obtain ⟨more, z⟩ := un.tbls b qs e
    exact ⟨more, up _ _ z⟩
  · by_cases b2 : b = c2
    · subst b2
      rw [upd_same] at e
      cases e
      exact cellOk _ v2 u2 r2 z2
    · rw [upd_ne b2] at e
      by_cases b1 : b = c1
      · subst b1
        rw [upd_same] at e
        cases e
        exact cellOk _ v1 u1 r1 z1
      · rw [upd_ne b1] at e
        exact (hok b o e).stay (fun _ _ _ q => q) (fun c q => up _ _ q) fun c xs q => up _ _ q
/-- the object at f is a lambda; called over any heap that keeps H it does what sp says -/
structure Runs (P : Program) (w : World) (K : PySem.W.Frag) (mg : Str → Option Value) (base : Heap) (k : Nat) (f : Addr) (sp : Sp) (H : Hp) : Prop where
  at_ : ∃ C, H f = some (LamO f C)
  run : ∀ (H1 : Hp), Same H H1 → ∀ (A : Around) (outer : List Env) (s : Shared) (us : List Value) (vs : List V) (Q : VK), Room k A → Env0 P w K mg base A outer s H1 → Vals vs us → sp vs H1 Q E0 → codeAny (model P w) A (.call (.ref f) ⟨us, []⟩) (CR CX0 outer P w H1 s Q E0) s
theorem Runs.same {f : Addr} {sp : Sp} {H H' : Hp} (R : Runs P w K mg base k f sp H) (e : Same H H') : Runs P w K mg base k f sp H' :=
  ⟨let ⟨C, h⟩ := R.at_; ⟨C, e _ _ h⟩, fun H1 e1 => R.run H1 (e.trans e1)⟩
end
/-- f(e, ..), f a local name that holds such a function -/
def tRuns (X : Cx) (i k : Nat) (sp : Sp) (t : TA) : TE := fun σ H Q => ∃ f, σ[i]? = some (some (.ref f)) ∧ (∃ C, H f = some (LamO f C)) ∧ t σ H fun vs H1 => Runs X.prog X.w X.K X.mg X.base k f sp H1 ∧ sp vs H1 Q E0
theorem lam_fnAt {X : Cx} {pins : List (Addr × Obj)} {σ : L2.St} {H : Hp} {s : Shared} {f : Addr} (I : Inv X pins σ H s) (e : ∃ C, H f = some (LamO f C)) : PySem.W.FnAt f s.heap := by
  obtain ⟨C, e⟩ := e
  obtain ⟨⟨pm, ctv, ho⟩, _, _⟩ := I.hok f _ e
  exact ⟨_, _, _, _, ho⟩
theorem pe_runs {X : Cx} {i k j : Nat} {sp : Sp} {t : TA} {x : Str} {p pos : Pos} {e : Expr} {es : List Expr} (hr : Room j X.A) (hk : k ≤ j) (hN : X.N[i]? = some x) (hv : Vis X.env.scope x) (ha : PA X (e :: es) t)
    (hd : (x == ("__debug__" : Str)) = false := by decide) (hcd : (x == ("__classdict__" : Str)) = false := by decide)
    (he : starEach (e :: es) X.env = (false, eval e X.env) :: starEach es X.env := by rfl) (hpl : (backTo pos (starEach es X.env)).any (·.1) = false := by rfl) : PE X (.Call (.Name x p) (e :: es) [] pos) (tRuns X i k sp t) := by
  refine ⟨fun pins s σ H Q I ⟨f, hs, hf, ht⟩ => ?_⟩
  refine wpAny_Call_Name_kw (thn ((pe_var (pos := p) hN hv hd hcd).run pins s σ H (fun v H1 => v = .ref f ∧ H1 = H) I ⟨.ref f, hs, rfl, rfl⟩) fun u s1 ⟨v, H1, I1, r1, q1, q2⟩ => ?_)
  subst q1 q2
  obtain rfl : u = Value.ref f := r1
  refine PySem.W.callWith_F (first := []) (lam_fnAt I1 hf) (thn (ha.run pos pins s1 σ _ _ I1 ht) fun us s2 ⟨vs, H2, I2, r, R, q⟩ => ⟨lam_fnAt I2 R.at_, ?_⟩) he hpl
  refine wpAny_call (codeAny_mono (R.run H2 (.refl _) X.A X.stack s2 us vs Q (hr.mono hk) I2.env0 r q) fun r s' hq => ?_)
  match r, hq with
  | .ok (.ret u), hq => exact I2.after hq
end TW
/-! The end of the law's row: the law's own run at the caller's place, with the tables of code objects. -/
namespace TW
open PySem PySem.Spec PyProof.Rows L2 LamX
abbrev tab0 : Obj := { cls := .none, data := .fields #[] }
abbrev listObj (vs : List Value) : Obj := { cls := .type "list", data := .seq vs.toArray }
/-- what is tracked when the law begins: the tables ts, the script (where the written part doesn't hold it) -/
def HStart (ts : List Addr) (a : Addr) (frozen : Bool) (vs : List Value) (ns : List Int) : Hp := fun b =>
  if b ∈ ts then some (.tbl #[]) else if b = a ∧ frozen = true then some (.frz (listObj vs) (.lst (ns.map V.int))) else none
theorem law_runG {P : Program} {w : World} {K : PySem.W.Frag} {mg mb : Str → Option Value} {fa a : Addr} {cs : List (Addr × Addr)} {s0 : Shared} {vs : List Value} {ns : List Int}
    (KX : K.In s0.heap) (hns : s0.heap.Ns mainGlobals mg) (hb : s0.heap.Ns builtinsNs mb) (hbb : ∀ x : Str, x ≠ "__name__" → mb x = bootBuiltins x) (hlim : s0.heap.NoLimit) (hg : s0.gens = #[])
    (hT : ∀ p ∈ cs, s0.heap.get? p.2 = some tab0) (nT : ∀ p ∈ cs, K.lookup p.2 = none) (C : ∀ p ∈ cs, PySem.W.CodeHd s0.heap p.1 p.2)
    (hbm : ∃ (bm : Addr) (ob : Obj), mg "__builtins__" = some (.ref bm) ∧ bm ≠ builtinsNs ∧ s0.heap.get? bm = some ob ∧ ob.cls = .type "module" ∧ ob.dict = some builtinsNs ∧ ob.data = .plain)
    (ha : s0.heap.get? a = some (listObj vs)) (hi : IntsAre vs ns) (hl : ns.length ≤ sizeLine)
    (go : ∀ (base : Heap) (H : Hp), Env0 P w K mg base callerA [] s0 H → K.In base → base.Ns mainGlobals mg → (∀ p ∈ cs, TabB base mg p.1 p.2) → (∀ p ∈ cs, H p.2 = some (.tbl #[])) → SqL K H a (ns.map V.int) →
      codeAny (model P w) callerA (.call (.ref fa) ⟨[.ref a], []⟩) (CR CX0 [] P w H s0 (fun v _ => v = .bl true) E0) s0) :
    codeAny (model P w) callerA (.call (.ref fa) ⟨[.ref a], []⟩) (fun r s' => r = .ok (.ret (.bool true)) ∧ OldK s0.heap s'.heap ∧ s'.os = s0.os ∧ AllBare s'.gens) s0 := by
  generalize hts : cs.map (·.2) = ts
  have inT : ∀ p ∈ cs, p.2 ∈ ts := fun p hp => by rw [← hts]; exact List.mem_map.mpr ⟨p, hp, rfl⟩
  have ofT : ∀ b ∈ ts, ∃ p ∈ cs, p.2 = b := fun b hb => by
    rw [← hts] at hb
    exact List.mem_map.mp hb
  have isT : ∀ b ∈ ts, s0.heap.get? b = some tab0 := fun b hb => by
    obtain ⟨p, hp, rfl⟩ := ofT b hb
    exact hT p hp
  have naT : a ∉ ts := fun z => by
    have q := isT a z
    rw [ha] at q
    cases q
  generalize hfz : (K.lookup a).isNone = fz
  generalize hH : HStart ts a fz vs ns = H
  have at1 : ∀ b ∈ ts, H b = some (.tbl #[]) := fun b hb => by rw [← hH]; exact if_pos hb
  have at2 : fz = true → H a = some (.frz (listObj vs) (.lst (ns.map V.int))) := fun e => by
    rw [← hH]
    exact (if_neg naT).trans (if_pos ⟨rfl, e⟩)
  have at3 : ∀ b, b ∉ ts → ¬ (b = a ∧ fz = true) → H b = none := fun b h1 h2 => by
    rw [← hH]
    exact (if_neg h1).trans (if_neg h2)
  have three : ∀ b, H b = none ∨ b ∈ ts ∨ (b = a ∧ fz = true) := fun b => by
    by_cases h1 : b ∈ ts
    · exact .inr (.inl h1)
    · by_cases h2 : b = a ∧ fz = true
      · exact .inr (.inr h2)
      · exact .inl (at3 b h1 h2)
  -- an object that is neither a table nor the script isn't tracked
  have free : ∀ b o, s0.heap.get? b = some o → o.data ≠ .fields #[] → o ≠ listObj vs → H b = none := fun b o e h1 h2 => by
    rcases three b with z | z | ⟨z, _⟩
    · exact z
    · rw [isT b z] at e
      cases e
      exact absurd rfl h1
    · rw [z, ha] at e
      cases e
      exact absurd rfl h2
  have dat : ∀ b o, s0.heap.get? b = some o → (∀ l n, o.data ≠ .seq l n) → o.data ≠ .fields #[] → (hidT s0.heap H).get? b = some o := fun b o e h1 h2 => hidT_get e (free b o e h2 fun z => by
    rw [z] at h1
    exact h1 _ _ rfl)
  have nsK : ∀ {b : Addr} {m : Str → Option Value}, s0.heap.Ns b m → (hidT s0.heap H).Ns b m := fun {b m} ⟨o, es, ep, e, d, r⟩ => ⟨o, es, ep, dat b o e (fun l n z => by rw [d] at z; cases z) (fun z => by rw [d] at z; cases z), d, r⟩
  have hok : HOk P w H s0.heap := fun b u e => by
    rcases three b with z | z | ⟨z1, z2⟩
    · rw [z] at e; cases e
    · rw [at1 b z] at e
      cases e
      exact isT b z
    · rw [z1, at2 z2] at e
      cases e
      rw [z1]
      exact ⟨ha, by rw [List.length_map]; exact hl, vs, 0, vals_ints hi, ha⟩
  have KB : K.In (hidT s0.heap H) := fun b o e => hidT_get (KX b o e) (by
    rcases three b with z | z | ⟨z1, z2⟩
    · exact z
    · obtain ⟨p, hp, rfl⟩ := ofT b z
      rw [nT p hp] at e
      cases e
    · rw [z1] at e
      rw [e] at hfz
      rw [← hfz] at z2
      cases z2)
  have TB : ∀ p ∈ cs, TabB (hidT s0.heap H) mg p.1 p.2 := fun p hp => by
    have hTp := hT p hp
    refine ⟨?_, ?_, fun z => ?_⟩
    · obtain ⟨o, us, fl, tf, flags, tg, inF, text, tt, e1, r1, r2, r3, rest⟩ := C p hp
      exact ⟨o, us, fl, tf, flags, tg, inF, text, tt, dat _ o e1 (fun l n z => by rw [r2] at z; cases z) (fun z => by rw [r2] at z; cases z; simp at r3), r1, r2, r3, rest⟩
    · obtain ⟨bm, ob, b1, b2, b3, b4, b5, b6⟩ := hbm
      have nG : bm ≠ mainGlobals := fun q => by
        obtain ⟨o, es, ep, e, d, _⟩ := hns
        rw [← q, b3] at e
        cases e
        rw [b6] at d
        cases d
      have nP : bm ≠ p.2 := fun q => by
        rw [q, hTp] at b3
        cases b3
        cases b6
      exact ⟨bm, ob, b1, b2, nG, nP, dat bm ob b3 (fun l n z => by rw [b6] at z; cases z) (fun z => by rw [b6] at z; cases z), b4, b5, b6⟩
    · obtain ⟨o, es, ep, e, d, _⟩ := hns
      rw [z, hTp] at e
      cases e
      cases d
  have hS : SqL K H a (ns.map V.int) := by
    cases hk : K.lookup a with
    | none => exact .inl (.inr ⟨_, at2 (by rw [← hfz, hk]; rfl)⟩)
    | some o =>
      have e := KX a o hk
      rw [ha] at e
      cases e
      have ez : vs.toArray.size ≤ sizeLine := by
        rw [List.size_toArray, hi.length]
        exact hl
      exact .inr ⟨_, vs.toArray, 0, hk, rfl, rfl, rfl, ez, vals_ints hi⟩
  have e0 : Env0 P w K mg (hidT s0.heap H) callerA [] s0 H :=
    ⟨rfl, ⟨KB, nsK hns, ⟨mb, nsK hb, hbb⟩, let ⟨mc, h1, h2⟩ := hlim; ⟨mc, nsK h1, h2⟩⟩, fun b o e => of_hidT e, Nat.le_of_eq (hidT_size _ _), trivial, fun b z => absurd (show b ∈ ([] : List Addr) from z) (by simp), hok, .of_eq hg⟩
  refine codeAny_mono (go _ H e0 KB (nsK hns) TB (fun p hp => at1 _ (inT p hp)) hS) fun r s' h => ?_
  match r, h with
  | .ok (.ret u), h =>
    obtain ⟨v, H', os, bare, un, hok', r', q⟩ := h
    subst q
    obtain rfl : u = Value.bool true := r'
    have stays : ∀ b o, b ∉ ts → s0.heap.get? b = some o → s'.heap.get? b = some o := fun b o nb e => by
      rcases three b with z | z | ⟨z1, z2⟩
      · exact un.keep b o e z (fun z => absurd (show b ∈ ([] : List Addr) from z) (by simp)) (by simp)
      · exact absurd z nb
      · have z3 := at2 z2
        rw [← z1] at z3
        obtain ⟨e1, _⟩ := hok b _ z3
        obtain ⟨e2, _⟩ := hok' b _ (un.frzs b _ _ z3)
        rw [e] at e1
        rw [e2, ← e1]
    have grown : ∀ p ∈ cs, ∃ more : Array Value, s'.heap.get? p.2 = some { cls := .none, data := .fields more } := fun p hp => by
      obtain ⟨more, z⟩ := un.tbls p.2 #[] (at1 _ (inT p hp))
      exact ⟨_, hok' p.2 _ z⟩
    refine ⟨rfl, ⟨fun b o e => ?_, fun b o e => ?_⟩, os, bare⟩
    · by_cases hbt : b ∈ ts
      · obtain ⟨p, hp, rfl⟩ := ofT b hbt
        obtain ⟨more, hm⟩ := grown p hp
        rw [hT p hp] at e
        cases e
        exact .inr (.inl ⟨((C p hp).tab (hT p hp)).isCodeTable, rfl, #[], more, rfl, by rw [Array.empty_append]; exact hm⟩)
      · exact .inl (stays b o hbt e)
    · by_cases hbt : b ∈ ts
      · obtain ⟨p, hp, rfl⟩ := ofT b hbt
        obtain ⟨more, hm⟩ := grown p hp
        exact ⟨_, hm⟩
      · exact ⟨o, stays b o hbt e⟩
theorem walk_ofG {l : PySem.W.OpenLaw} {n : Nat} {q : Program} {loose : List Str} {XP : (Str → Option Value) → Heap → Prop} {YP : World → Heap → Prop} {d : DefRec} {K : Params → PySem.W.Frag} {xs : List Str}
    (hn : l.most = some n) (hn2 : n ≤ sizeLine) (hdf : d.params.defaults = []) (hrec : ∀ x ∈ xs, ((recsOf q).find? fun e => e.name == x).isSome = true) (hY : ∀ (w : World) (h : Heap), YP w h → (K w.params).In h)
    (F : ∀ (w : World) (mg : Str → Option Value) (fa : Addr) (h : Heap), (K w.params).In h → h.Ns mainGlobals mg → mg d.name = some (.ref fa) → ∃ cs : List (Addr × Addr),
      (∀ p ∈ cs, (K w.params).lookup p.2 = none) ∧ (∀ p ∈ cs, ∃ x ∈ xs, PySem.W.tabIn (K w.params) x = some p) ∧
      ∀ (base : Heap) (s0 : Shared) (H : Hp) (a : Addr) (ns : List Int), Env0 l.prog w (K w.params) mg base callerA [] s0 H → (K w.params).In base → base.Ns mainGlobals mg → (∀ p ∈ cs, TabB base mg p.1 p.2) → (∀ p ∈ cs, H p.2 = some (.tbl #[])) →
        SqL (K w.params) H a (ns.map V.int) → ns.length ≤ n → codeAny (model l.prog w) callerA (.call (.ref fa) ⟨[.ref a], []⟩) (CR CX0 [] l.prog w H s0 (fun v _ => v = .bl true) E0) s0) :
    PySem.W.WalkO q loose XP YP l.row.toRowW d [] (fun f vs => PySem.call f vs) := by
  refine Att.attach_callB hn hdf fun w s₀ s1 mg mb fa o pm cd doc a vs ns G Y ho hd hcd hmg hobj hints hlen hbits hg => ?_
  have KX := hY w _ Y
  obtain ⟨cs, h1, h2, h3⟩ := F w mg fa _ KX G.T.g hmg
  have tabs : ∀ p ∈ cs, PySem.W.CodeHd s1.heap p.1 p.2 ∧ s1.heap.get? p.2 = some tab0 := fun p hp => by
    obtain ⟨x, hx, ht⟩ := h2 p hp
    obtain ⟨e, he⟩ := Option.isSome_iff_exists.mp (hrec x hx)
    exact PySem.W.tab_of G.T KX he ht
  exact law_runG KX G.T.g G.T.b G.T.builtins G.T.nolimit hg (fun p hp => (tabs p hp).2) h1 (fun p hp => (tabs p hp).1) G.T.bmain hobj hints (Nat.le_trans hlen hn2) fun base H e0 KB hns TB hH hS => h3 base s1 H a ns e0 KB hns TB hH hS hlen
end TW
/-! The text by places; what stands in the heap; calls of defs by their promises. -/
namespace TW
open PySem PySem.Spec PyProof.Rows L2 TM
def topS (i : Nat) : Stmt := PySem.Challenge.pw_twomarks_k44_whole_orders_under_way.main.body.getD i (.Pass ⟨0, 0, 0, 0⟩)
/-! ### what stands in the heap -/
abbrev IntT (K : PySem.W.Frag) (H : Hp) (p : Addr) (xs : List Int) : Prop := SqT K H p (xs.map V.int)
/-- a share -/
def Sh (K : PySem.W.Frag) (H : Hp) (p : Addr) (q : Rat) : Prop := SqT K H p [.int q.num, .int (q.den : Int)]
def shopV (S : Shop) : List V := [.int S.top, .int S.depth, .int S.start, .int S.piece, .int S.keep, .int S.lack, .int S.lost, .int S.back, .int S.late]
def ShopAt (K : PySem.W.Frag) (H : Hp) (p : Addr) (S : Shop) : Prop := SqT K H p (shopV S)
/-- days -/
def Fls (K : PySem.W.Frag) (H : Hp) (p : Addr) (F : List (List Int)) : Prop := ∃ ps : List Addr, SqT K H p (ps.map V.ref) ∧ Paired (fun a one => IntT K H a one) ps F
/-- a share and a level -/
def Pr (K : PySem.W.Frag) (H : Hp) (p : Addr) (x : Rat × Int) : Prop := ∃ c, SqT K H p [.ref c, .int x.2] ∧ Sh K H c x.1
def RowA (K : PySem.W.Frag) (H : Hp) (p : Addr) (xs : List (Rat × Int)) : Prop := ∃ ps : List Addr, SqT K H p (ps.map V.ref) ∧ Paired (fun a x => Pr K H a x) ps xs
def TabA (K : PySem.W.Frag) (H : Hp) (p : Addr) (xs : List (List (Rat × Int))) : Prop := ∃ ps : List Addr, SqT K H p (ps.map V.ref) ∧ Paired (fun a x => RowA K H a x) ps xs
/-- numbers of a shop -/
structure SB (S : Shop) : Prop where
  top : 0 ≤ S.top ∧ S.top ≤ 5
  depth : 0 ≤ S.depth ∧ S.depth ≤ 100
  start : 0 ≤ S.start ∧ S.start ≤ 1000000
  piece : 0 ≤ S.piece ∧ S.piece ≤ 1000000
  keep : 0 ≤ S.keep ∧ S.keep ≤ 1000000
  lack : 0 ≤ S.lack ∧ S.lack ≤ 1000000
  lost : 0 ≤ S.lost ∧ S.lost ≤ 1000000
  back : 0 ≤ S.back ∧ S.back ≤ 1000000
  late : 0 ≤ S.late ∧ S.late ≤ 1000000
/-- days' weights: not too many, not too great -/
structure DayB (one : List Int) : Prop where
  len : one.length ≤ 8
  w : ∀ w ∈ one, 0 ≤ w ∧ w ≤ 1000
  pos : ∃ w ∈ one, (0 : Int) < w
structure FB (F : List (List Int)) : Prop where
  len : F.length ≤ 4
  day : ∀ one ∈ F, DayB one
theorem FB.good {F : List (List Int)} (h : FB F) : Good F := ⟨fun one ho w hw => ((h.day one ho).w w hw).1, fun one ho => (h.day one ho).pos⟩
theorem FB.take {F : List (List Int)} (h : FB F) (k : Nat) : FB (F.take k) := ⟨by have := h.len; rw [List.length_take]; omega, fun one ho => h.day one (List.mem_of_mem_take ho)⟩
theorem FB.drop {F : List (List Int)} (h : FB F) (k : Nat) : FB (F.drop k) := ⟨by have := h.len; rw [List.length_drop]; omega, fun one ho => h.day one (List.mem_of_mem_drop ho)⟩
theorem FB.tail {one : List Int} {F : List (List Int)} (h : FB (one :: F)) : FB F := ⟨by have := h.len; simp only [List.length_cons] at this; omega, fun o ho => h.day o (List.mem_cons_of_mem _ ho)⟩
theorem DayB.sum {one : List Int} (h : DayB one) : 0 < one.sum ∧ one.sum ≤ 8000 := by
  have key : ∀ l : List Int, (∀ w ∈ l, 0 ≤ w ∧ w ≤ 1000) → 0 ≤ l.sum ∧ l.sum ≤ 1000 * l.length := by
    intro l
    induction l with
    | nil => intro _; simp
    | cons x l ih =>
      intro hl
      have a := ih fun w hw => hl w (List.mem_cons_of_mem _ hw)
      have b := hl x List.mem_cons_self
      rw [List.sum_cons, List.length_cons]
      omega
  have a := key one h.w
  have b := h.len
  have c : Good [one] := ⟨fun o ho w hw => by rw [List.mem_singleton.mp ho] at hw; exact (h.w w hw).1, fun o ho => by rw [List.mem_singleton.mp ho]; exact h.pos⟩
  exact ⟨c.sum, by omega⟩
theorem FB.TI {F : List (List Int)} (h : FB F) : 0 < TI F ∧ TI F < 2 ^ 53 := by
  refine ⟨h.good.TI, ?_⟩
  have key : ∀ F : List (List Int), (∀ one ∈ F, DayB one) → 0 < TM.TI F ∧ TM.TI F ≤ 8000 ^ F.length := by
    intro F
    induction F with
    | nil => intro _; simp [TM.TI]
    | cons one F ih =>
      intro hF
      obtain ⟨a, b⟩ := ih fun o ho => hF o (List.mem_cons_of_mem _ ho)
      obtain ⟨c, d⟩ := (hF one List.mem_cons_self).sum
      refine ⟨by simp only [TM.TI]; exact Int.mul_pos c a, ?_⟩
      simp only [TM.TI, List.length_cons, Int.pow_succ]
      rw [Int.mul_comm]
      exact Int.mul_le_mul b d (by omega) (Int.pow_nonneg (by decide))
  have a := (key F h.day).2
  have b : (8000 : Int) ^ F.length ≤ 8000 ^ 4 := by
    match F, h.len with
    | [], _ => show (8000 : Int) ^ 0 ≤ 8000 ^ 4; decide
    | [_], _ => show (8000 : Int) ^ 1 ≤ 8000 ^ 4; decide
    | [_, _], _ => show (8000 : Int) ^ 2 ≤ 8000 ^ 4; decide
    | [_, _, _], _ => show (8000 : Int) ^ 3 ≤ 8000 ^ 4; decide
    | [_, _, _, _], _ => show (8000 : Int) ^ 4 ≤ 8000 ^ 4; decide
  have c : (8000 : Int) ^ 4 < 2 ^ 53 := by decide
  omega
/-! ### heaps that grow -/
theorem same_upd {H : Hp} {p : Addr} {o : HO} (h : H p = none) : Same H (upd H p o) := fun b x e => by
  rw [upd_ne (ne_of_none e h)]
  exact e
theorem sThen {H H1 : Hp} {p : Addr} {o : HO} (e : Same H H1) (h : H1 p = none) : Same H (upd H1 p o) := e.trans (same_upd h)
theorem sameT {K : PySem.W.Frag} {H H' : Hp} {a : Addr} {xs : List V} (e : Same H H') (h : SqT K H a xs) : SqT K H' a xs := by
  rcases h with (h | ⟨o, h⟩) | h
  · exact .inl (.inl (e _ _ h))
  · exact .inl (.inr ⟨o, e _ _ h⟩)
  · exact .inr h
theorem pImp {α β : Type} {F G : α → β → Prop} {l : List α} {m : List β} (h : Paired F l m) (k : ∀ a b, F a b → G a b) : Paired G l m := L2.Paired.mapP h k
theorem pAt {α β : Type} {F : α → β → Prop} : ∀ {l : List α} {m : List β} {i : Nat} {y : β}, Paired F l m → m[i]? = some y → ∃ x, l[i]? = some x ∧ F x y
  | _, _, _, _, .nil, e => by simp at e
  | _, _, 0, _, .cons r _, e => by
    obtain rfl := Option.some.inj e
    exact ⟨_, rfl, r⟩
  | _, _, i + 1, y, .cons _ t, e => pAt (i := i) (y := y) t e
theorem pAt2 {α β : Type} {F : α → β → Prop} : ∀ {l : List α} {m : List β} {i : Nat} {x : α}, Paired F l m → l[i]? = some x → ∃ y, m[i]? = some y ∧ F x y
  | _, _, _, _, .nil, e => by simp at e
  | _, _, 0, _, .cons r _, e => by
    obtain rfl := Option.some.inj e
    exact ⟨_, rfl, r⟩
  | _, _, i + 1, y, .cons _ t, e => pAt2 (i := i) (x := y) t e
theorem pSnoc {α β : Type} {F : α → β → Prop} {a : α} {b : β} (h : F a b) : ∀ {l : List α} {m : List β}, Paired F l m → Paired F (l ++ [a]) (m ++ [b])
  | _, _, .nil => .cons h .nil
  | _, _, .cons r t => .cons r (pSnoc h t)
theorem pLen {α β : Type} {F : α → β → Prop} {l : List α} {m : List β} (h : Paired F l m) : l.length = m.length := PySem.Paired.length h
theorem pTake {α β : Type} {F : α → β → Prop} : ∀ {l : List α} {m : List β} (k : Nat), Paired F l m → Paired F (l.take k) (m.take k)
  | _, _, 0, _ => .nil
  | _, _, _ + 1, .nil => .nil
  | _, _, k + 1, .cons r t => .cons r (pTake k t)
theorem pDrop {α β : Type} {F : α → β → Prop} : ∀ {l : List α} {m : List β} (k : Nat), Paired F l m → Paired F (l.drop k) (m.drop k)
  | _, _, 0, h => h
  | _, _, _ + 1, .nil => .nil
  | _, _, k + 1, .cons _ t => pDrop k t
section
variable {K : PySem.W.Frag} {H H' : Hp} {p : Addr}
theorem Sh.same {q : Rat} (h : Sh K H p q) (e : Same H H') : Sh K H' p q := sameT e h
theorem ShopAt.same {S : Shop} (h : ShopAt K H p S) (e : Same H H') : ShopAt K H' p S := sameT e h
theorem Fls.same {F : List (List Int)} (h : Fls K H p F) (e : Same H H') : Fls K H' p F := let ⟨ps, a, b⟩ := h; ⟨ps, sameT e a, pImp b fun _ _ q => sameT e q⟩
theorem Pr.same {x : Rat × Int} (h : Pr K H p x) (e : Same H H') : Pr K H' p x := let ⟨c, a, b⟩ := h; ⟨c, sameT e a, b.same e⟩
theorem RowA.same {x : List (Rat × Int)} (h : RowA K H p x) (e : Same H H') : RowA K H' p x := let ⟨ps, a, b⟩ := h; ⟨ps, sameT e a, pImp b fun _ _ q => q.same e⟩
theorem TabA.same {x : List (List (Rat × Int))} (h : TabA K H p x) (e : Same H H') : TabA K H' p x := let ⟨ps, a, b⟩ := h; ⟨ps, sameT e a, pImp b fun _ _ q => q.same e⟩
end
theorem map_get {xs : List Int} {i : Nat} {x : V} (h : (xs.map V.int)[i]? = some x) : ∃ z, xs[i]? = some z ∧ x = V.int z := by
  rw [List.getElem?_map] at h
  cases e : xs[i]? with
  | none => rw [e] at h; cases h
  | some z => rw [e] at h; exact ⟨z, rfl, (Option.some.inj h).symm⟩
theorem mapr_get {xs : List Addr} {i : Nat} {x : V} (h : (xs.map V.ref)[i]? = some x) : ∃ z, xs[i]? = some z ∧ x = V.ref z := by
  rw [List.getElem?_map] at h
  cases e : xs[i]? with
  | none => rw [e] at h; cases h
  | some z => rw [e] at h; exact ⟨z, rfl, (Option.some.inj h).symm⟩
/-! ### a def by its promise -/
structure Cal (P : Program) (w : World) (K : PySem.W.Frag) (mg : Str → Option Value) (base : Heap) (k : Nat) (x : Str) (ps : List Str) (sp : Sp) : Prop where
  ex : ∃ (f : Addr) (fd : FuncData), mg x = some (.ref f) ∧ FnOk P w K mg base CX0 k f fd ps sp ∧ PySem.W.keepIn K (.ref f) = true ∧ Binds K fd ps []
theorem pe_cal {X : Cx} {k j : Nat} {x : Str} {ps : List Str} {sp : Sp} {p pos : Pos} {e : Expr} {es : List Expr} {t : TA} (C : Cal X.prog X.w X.K X.mg X.base k x ps sp) (hr : Room j X.A) (hk : k ≤ j) (hg : Gl X x) (ha : PA X (e :: es) t)
    (hdb : (x == ("__debug__" : Str)) = false := by decide) (he : starEach (e :: es) X.env = (false, eval e X.env) :: starEach es X.env := by rfl) (hpl : (backTo pos (starEach es X.env)).any (·.1) = false := by rfl) : PE X (.Call (.Name x p) (e :: es) [] pos) (tCall sp [] E0 t) := by
  obtain ⟨f, fd, hm, F, kp, b⟩ := C.ex
  exact pe_call F (hr.mono hk) hg hm kp b .nil pass0 ha hdb he hpl
/-- what a call of it asks: its arguments, then the promise -/
theorem app_nil {sp : Sp} {vs : List V} {H : Hp} {Q : VK} {E : XK} (h : sp vs H Q E) : sp (vs ++ []) H Q E := by
  rw [List.append_nil]
  exact h
/-- the module's names that are Python's own -/
structure Blt (mg : Str → Option Value) : Prop where
  abs : mg "abs" = none
  max : mg "max" = none
  min : mg "min" = none
  sum : mg "sum" = none
  len : mg "len" = none
  int : mg "int" = none
  list : mg "list" = none
  tuple : mg "tuple" = none
  range : mg "range" = none
  enum : mg "enumerate" = none
  repr : mg "repr" = none
theorem boot_abs : bootBuiltins "abs" = some (.builtin "abs") := by decide +kernel
theorem boot_max' : bootBuiltins "max" = some (.builtin "max") := by decide +kernel
theorem boot_min' : bootBuiltins "min" = some (.builtin "min") := by decide +kernel
theorem boot_sum' : bootBuiltins "sum" = some (.builtin "sum") := by decide +kernel
theorem boot_repr : bootBuiltins "repr" = some (.builtin "repr") := by decide +kernel
theorem boot_tuple' : bootBuiltins "tuple" = some (.type "tuple") := by decide +kernel
theorem boot_list' : bootBuiltins "list" = some (.type "list") := by decide +kernel
theorem boot_int' : bootBuiltins "int" = some (.type "int") := by decide +kernel
end TW
/-! common, share, plus, below -/
namespace TW
open PySem PySem.Spec PyProof.Rows L2 TM
abbrev sCommon : Stmt := topS 5
abbrev sShare : Stmt := topS 6
abbrev sPlus : Stmt := topS 7
abbrev sBelow : Stmt := topS 8
def spCommon : Sp := fun vs H Q _ => ∃ a b : Int, vs = [.int a, .int b] ∧ 0 ≤ a ∧ 0 ≤ b ∧ Q (.int (Int.gcd a b : Int)) H
def spShare (K : PySem.W.Frag) : Sp := fun vs H Q _ => ∃ t b : Int, vs = [.int t, .int b] ∧ 0 < b ∧ b < 2 ^ 200 ∧ ∀ H' p, Same H H' → Sh K H' p ((t : Rat) / (b : Rat)) → Q (.ref p) H'
def spPlus (K : PySem.W.Frag) : Sp := fun vs H Q _ => ∃ (a b : Addr) (q r : Rat), vs = [.ref a, .ref b] ∧ Sh K H a q ∧ Sh K H b r ∧ (q.den : Int) < 2 ^ 64 ∧ (r.den : Int) < 2 ^ 64 ∧ ∀ H' p, Same H H' → Sh K H' p (q + r) → Q (.ref p) H'
def spBelow (K : PySem.W.Frag) : Sp := fun vs H Q _ => ∃ (a b : Addr) (q r : Rat), vs = [.ref a, .ref b] ∧ Sh K H a q ∧ Sh K H b r ∧ (q.den : Int) < 2 ^ 64 ∧ (r.den : Int) < 2 ^ 64 ∧ Q (.bl (decide (q < r))) H
section
variable {P : Program} {w : World} {K : PySem.W.Frag} {mg : Str → Option Value} {base : Heap}
theorem scCommon : FnScope ["one", "other"] ["one", "other"] (defScope sCommon) := ⟨rfl, rfl, rfl, by decide +kernel, rfl, by decide +kernel, by decide +kernel⟩
theorem gcd_turn {x y : Int} (hx : 0 ≤ x) (hy : 0 < y) : Int.gcd y (x % y) = Int.gcd x y := by
  obtain ⟨m, rfl⟩ := Int.eq_ofNat_of_zero_le hx
  obtain ⟨n, rfl⟩ := Int.eq_ofNat_of_zero_le (Int.le_of_lt hy)
  show Nat.gcd n (m % n) = Nat.gcd m n
  rw [Nat.gcd_comm m n, Nat.gcd_rec n m, Nat.gcd_comm]
theorem ok_common {f : Addr} {fd : FuncData} (F : Fun K "common" "common" sCommon f fd) : FnOk P w K mg base CX0 1 f fd ["one", "other"] spCommon := by
  refine F.ok scCommon (fun vs H Q E h => ?_) (fun cdv A outer s H vs Q E hr h => ?_)
  · obtain ⟨a, b, rfl, _⟩ := h
    rfl
  · obtain ⟨a, b, rfl, ha, hb, q⟩ := h
    refine ⟨_, pss_cons (ps_while PassesOwn.never (pt_cmpR op_gt (pv 1) pe_int (nomark _)) (pss_one (ps_par (i := 0) (j := 1) (by rfl) scCommon.nd rfl rfl (by decide) rfl rfl (pa_cons (pv 1) (pa_cons (pe_op op_mod (pv 0) (pv 1)) pa_nil)) (by rfl))))
      (pss_one (ps_ret (pv 0))), ?_⟩
    refine while_by (fun σ H' => ∃ x y : Int, σ = [some (.int x), some (.int y)] ∧ 0 ≤ x ∧ 0 ≤ y ∧ Int.gcd x y = Int.gcd a b ∧ H' = H) (fun σ _ => match σ with | [_, some (.int y)] => y.toNat | _ => 0) ⟨a, b, rfl, ha, hb, rfl, rfl⟩ ?_ ?_
    · rintro σ H' ⟨x, y, rfl, hx, hy, hg, rfl⟩
      refine ⟨_, rfl, _, _, rfl, rfl, _, rfl, ite2 (fun e => ?_) (fun e => ?_)⟩
      · have hp : 0 < y := of_decide_eq_true e
        refine ⟨_, rfl, _, rfl, _, rfl, x, y, rfl, rfl, hp, _, _, rfl, ⟨y, x % y, rfl, hy, Int.emod_nonneg _ (by omega), (gcd_turn hx hp).trans hg, rfl⟩, ?_⟩
        show (x % y).toNat < y.toNat
        have := Int.emod_lt_of_pos x hp
        omega
      · have hz : y = 0 := by
          have : ¬ 0 < y := fun z => e (decide_eq_true z)
          omega
        subst hz
        refine ⟨.int x, rfl, ?_⟩
        have e2 : (Int.gcd a b : Int) = x := by
          rw [← hg, Int.gcd_zero_right]
          omega
        show Q (.int x) _
        rw [e2] at q
        exact q
    · rintro σ H' Q1 Q2 k ⟨v, e1, i, j, e2, e3, k', e4, q⟩
      exact ⟨v, e1, i, j, e2, e3, k', e4, k _ _ q⟩
theorem gcd_bound {t b : Int} (hb : 0 < b) (hB : b < 2 ^ 200) : 0 < (Int.gcd t b : Int) ∧ (Int.gcd t b : Int).natAbs < 2 ^ 200 := by
  have h1 : 0 < Int.gcd t b := Int.gcd_pos_of_ne_zero_right _ (by omega)
  have h2 : (Int.gcd t b : Int) ≤ b := Int.le_of_dvd hb (Int.gcd_dvd_right ..)
  omega
theorem abs_gcd (t b : Int) : Int.gcd (if t < 0 then -t else t) b = Int.gcd t b := by
  split
  · rw [Int.neg_gcd]
  · rfl
theorem scShare : FnScope ["top", "bottom", "both"] ["top", "bottom"] (defScope sShare) := ⟨rfl, rfl, rfl, by decide +kernel, rfl, by decide +kernel, by decide +kernel⟩
theorem ok_share {f : Addr} {fd : FuncData} (F : Fun K "share" "share" sShare f fd) (T : Blt mg) (C : Cal P w K mg base 1 "common" ["one", "other"] spCommon) : FnOk P w K mg base CX0 2 f fd ["top", "bottom"] (spShare K) := by
  refine F.ok scShare (fun vs H Q E h => ?_) (fun cdv A outer s H vs Q E hr h => ?_)
  · obtain ⟨t, b, rfl, _⟩ := h
    rfl
  · obtain ⟨t, b, rfl, hb, hB, q⟩ := h
    refine ⟨_, pss_cons (ps_if (pt_cmpR op_eq (pv 1) pe_int (nomark _)) (pss_one ps_never) pss_nil)
      (pss_cons (ps_if (pt_cmpR op_lt (pv 1) pe_int (nomark _)) (pss_one ps_never) pss_nil)
      (pss_cons (ps_set (i := 2) scShare.nd rfl (.inl rfl) (pe_cal C hr (Nat.le_refl _) rfl (pa_cons (pe_callB call_abs (by rfl) T.abs boot_abs (pa_cons (pv 0) pa_nil)) (pa_cons (pv 1) pa_nil))))
      (pss_one (ps_ret (pe_tup (pa_cons (pe_op op_fdivW (pv 0) (pv 2)) (pa_cons (pe_op op_fdivW (pv 1) (pv 2)) pa_nil))))))), ?_⟩
    refine ⟨_, rfl, rfl, _, rfl, ?_⟩
    rw [decide_eq_false (fun z => by have := V.int.inj z; omega)]
    refine iteF ?_
    refine ⟨_, rfl, _, _, rfl, rfl, _, rfl, ?_⟩
    rw [decide_eq_false (by omega)]
    refine iteF ?_
    refine ⟨_, rfl, _, rfl, _, rfl, (if t < 0 then -t else t), b, rfl, by split <;> omega, by omega, ?_⟩
    rw [abs_gcd]
    obtain ⟨g0, gB⟩ := gcd_bound (t := t) hb hB
    refine ⟨_, rfl, _, rfl, _, _, rfl, rfl, wide_div g0 gB (by decide) (by decide), _, rfl, _, rfl, _, _, rfl, rfl, wide_div g0 gB (by decide) (by decide), (by show 2 ≤ sizeLine; decide), fun p np => ?_⟩
    refine q _ p (same_upd np) ?_
    unfold Sh
    rw [share_num hb, share_den hb]
    exact SqT.of upd_same
theorem scPlus : FnScope ["one", "other"] ["one", "other"] (defScope sPlus) := ⟨rfl, rfl, rfl, by decide +kernel, rfl, by decide +kernel, by decide +kernel⟩
theorem ok_plus {f : Addr} {fd : FuncData} (F : Fun K "plus" "plus" sPlus f fd) (C : Cal P w K mg base 2 "share" ["top", "bottom"] (spShare K)) : FnOk P w K mg base CX0 3 f fd ["one", "other"] (spPlus K) := by
  refine F.ok scPlus (fun vs H Q E h => ?_) (fun cdv A outer s H vs Q E hr h => ?_)
  · obtain ⟨a, b, q, r, rfl, _⟩ := h
    rfl
  · obtain ⟨a, b, q, r, rfl, ha, hb, hq, hr', k⟩ := h
    have pq := den_pos q
    have pr := den_pos r
    have cm : ∀ i j : Int, 0 < j → j < 2 ^ 64 → CMul i j := fun i j h1 h2 => .inr ⟨by omega, h2⟩
    refine ⟨_, pss_one (ps_ret (pe_cal C hr (Nat.le_refl _) rfl (pa_cons (pe_op op_add (pe_op op_mul (pe_ix ix_tup (pv 0) pe_int (fun _ _ => rfl)) (pe_ix ix_tup (pv 1) pe_int (fun _ _ => rfl)))
      (pe_op op_mul (pe_ix ix_tup (pv 1) pe_int (fun _ _ => rfl)) (pe_ix ix_tup (pv 0) pe_int (fun _ _ => rfl))))
      (pa_cons (pe_op op_mul (pe_ix ix_tup (pv 0) pe_int (fun _ _ => rfl)) (pe_ix ix_tup (pv 1) pe_int (fun _ _ => rfl))) pa_nil)))), ?_⟩
    have a0 : atI [V.int q.num, V.int (q.den : Int)] 0 = some (.int q.num) := rfl
    have a1 : atI [V.int q.num, V.int (q.den : Int)] 1 = some (.int (q.den : Int)) := rfl
    have b0 : atI [V.int r.num, V.int (r.den : Int)] 0 = some (.int r.num) := rfl
    have b1 : atI [V.int r.num, V.int (r.den : Int)] 1 = some (.int (r.den : Int)) := rfl
    refine ⟨_, rfl, a, _, _, _, rfl, rfl, ha, a0, _, rfl, b, _, _, _, rfl, rfl, hb, b1, _, _, rfl, rfl, cm _ _ pr hr', ?_⟩
    refine ⟨_, rfl, b, _, _, _, rfl, rfl, hb, b0, _, rfl, a, _, _, _, rfl, rfl, ha, a1, _, _, rfl, rfl, cm _ _ pq hq, _, _, rfl, rfl, ?_⟩
    refine ⟨_, rfl, a, _, _, _, rfl, rfl, ha, a1, _, rfl, b, _, _, _, rfl, rfl, hb, b1, _, _, rfl, rfl, cm _ _ pr hr', ?_⟩
    refine ⟨_, _, rfl, Int.mul_pos pq pr, ?_, fun H' p e sh => k H' p e ?_⟩
    · have m := Int.mul_le_mul (Int.le_of_lt hq) (Int.le_of_lt hr') (Int.le_of_lt pr) (by decide)
      have c : (2 : Int) ^ 64 * 2 ^ 64 < 2 ^ 200 := by decide
      omega
    · rw [plus_eq] at sh
      exact sh
theorem scBelow : FnScope ["one", "other"] ["one", "other"] (defScope sBelow) := ⟨rfl, rfl, rfl, by decide +kernel, rfl, by decide +kernel, by decide +kernel⟩
theorem ok_below {f : Addr} {fd : FuncData} (F : Fun K "below" "below" sBelow f fd) : FnOk P w K mg base CX0 1 f fd ["one", "other"] (spBelow K) := by
  refine F.ok scBelow (fun vs H Q E h => ?_) (fun cdv A outer s H vs Q E hr h => ?_)
  · obtain ⟨a, b, q, r, rfl, _⟩ := h
    rfl
  · obtain ⟨a, b, q, r, rfl, ha, hb, hq, hr', k⟩ := h
    have pq := den_pos q
    have pr := den_pos r
    have cm : ∀ i j : Int, 0 < j → j < 2 ^ 64 → CMul i j := fun i j h1 h2 => .inr ⟨by omega, h2⟩
    refine ⟨_, pss_one (ps_ret (pe_cmpR op_lt (pe_op op_mul (pe_ix ix_tup (pv 0) pe_int (fun _ _ => rfl)) (pe_ix ix_tup (pv 1) pe_int (fun _ _ => rfl)))
      (pe_op op_mul (pe_ix ix_tup (pv 1) pe_int (fun _ _ => rfl)) (pe_ix ix_tup (pv 0) pe_int (fun _ _ => rfl))) (nomark _))), ?_⟩
    have a0 : atI [V.int q.num, V.int (q.den : Int)] 0 = some (.int q.num) := rfl
    have a1 : atI [V.int q.num, V.int (q.den : Int)] 1 = some (.int (q.den : Int)) := rfl
    have b0 : atI [V.int r.num, V.int (r.den : Int)] 0 = some (.int r.num) := rfl
    have b1 : atI [V.int r.num, V.int (r.den : Int)] 1 = some (.int (r.den : Int)) := rfl
    refine ⟨_, rfl, a, _, _, _, rfl, rfl, ha, a0, _, rfl, b, _, _, _, rfl, rfl, hb, b1, _, _, rfl, rfl, cm _ _ pr hr', ?_⟩
    refine ⟨_, rfl, b, _, _, _, rfl, rfl, hb, b0, _, rfl, a, _, _, _, rfl, rfl, ha, a1, _, _, rfl, rfl, cm _ _ pq hq, _, _, rfl, rfl, ?_⟩
    have e : decide (q.num * (r.den : Int) < r.num * (q.den : Int)) = decide (q < r) := by
      by_cases z : q < r
      · rw [decide_eq_true z, decide_eq_true ((below_iff q r).mpr z)]
      · rw [decide_eq_false z, decide_eq_false fun y => z ((below_iff q r).mp y)]
    show Q (.bl (decide (q.num * (r.den : Int) < r.num * (q.den : Int)))) H
    rw [e]
    exact k
end
end TW
/-! prices: order_cost, next_stock, day_cost, end_cost, and the law's own -/
namespace TW
open PySem PySem.Spec PyProof.Rows L2 TM
abbrev sOrder : Stmt := topS 10
abbrev sNext : Stmt := topS 11
abbrev sDay : Stmt := topS 12
abbrev sEnd : Stmt := topS 13
abbrev sLOrder : Stmt := topS 34
abbrev sLRest : Stmt := topS 35
abbrev sLEnd : Stmt := topS 36
def spOrder (K : PySem.W.Frag) : Sp := fun vs H Q _ => ∃ (a : Addr) (S : Shop) (st lv : Int), vs = [.ref a, .int st, .int lv] ∧ ShopAt K H a S ∧ SB S ∧ st ≤ lv ∧ Q (.int (od S (lv - st))) H
def spNext (K : PySem.W.Frag) : Sp := fun vs H Q _ => ∃ (a : Addr) (S : Shop) (lv fl : Int), vs = [.ref a, .int lv, .int fl] ∧ ShopAt K H a S ∧ Q (.int (nst S lv fl)) H
def spDay (K : PySem.W.Frag) : Sp := fun vs H Q _ => ∃ (a : Addr) (S : Shop) (lv fl : Int), vs = [.ref a, .int lv, .int fl] ∧ ShopAt K H a S ∧ SB S ∧ Q (.int (dc S lv fl)) H
def spEnd (K : PySem.W.Frag) : Sp := fun vs H Q _ => ∃ (a : Addr) (S : Shop) (x : Int), vs = [.ref a, .int x] ∧ ShopAt K H a S ∧ SB S ∧ Q (.int (ec S x)) H
def spLOrder (K : PySem.W.Frag) : Sp := fun vs H Q _ => ∃ (a : Addr) (S : Shop) (z : Int), vs = [.ref a, .int z] ∧ ShopAt K H a S ∧ SB S ∧ Q (.int (od S z)) H
def spLRest (K : PySem.W.Frag) : Sp := fun vs H Q _ => ∃ (a : Addr) (S : Shop) (x : Int), vs = [.ref a, .int x] ∧ ShopAt K H a S ∧ SB S ∧ Q (.int (rc S x)) H
def spLEnd (K : PySem.W.Frag) : Sp := fun vs H Q _ => ∃ (a : Addr) (S : Shop) (x : Int), vs = [.ref a, .int x] ∧ ShopAt K H a S ∧ SB S ∧ Q (.int (en S x)) H
theorem max_if (a b : Int) : (if b > a then b else a) = max a b := by
  split <;> omega
theorem cmul {i j : Int} (h : 0 ≤ i ∧ i ≤ 1000000) : CMul i j := .inl ⟨by omega, by omega⟩
section
variable {P : Program} {w : World} {K : PySem.W.Frag} {mg : Str → Option Value} {base : Heap}
theorem scOrder : FnScope ["shop", "stock", "level"] ["shop", "stock", "level"] (defScope sOrder) := ⟨rfl, rfl, rfl, by decide +kernel, rfl, by decide +kernel, by decide +kernel⟩
theorem ok_order {f : Addr} {fd : FuncData} (F : Fun K "order_cost" "order_cost" sOrder f fd) : FnOk P w K mg base CX0 1 f fd ["shop", "stock", "level"] (spOrder K) := by
  refine F.ok scOrder (fun vs H Q E h => ?_) (fun cdv A outer s H vs Q E hr h => ?_)
  · obtain ⟨a, S, st, lv, rfl, _⟩ := h
    rfl
  · obtain ⟨a, S, st, lv, rfl, ha, B, hle, q⟩ := h
    refine ⟨_, pss_cons (ps_if (pt_cmpR op_eq (pv 2) (pv 1) (nomark _)) (pss_one (ps_ret pe_int)) pss_nil)
      (pss_one (ps_ret (pe_op op_add (pe_ix ix_tup (pv 0) pe_int (fun _ _ => rfl)) (pe_op op_mul (pe_ix ix_tup (pv 0) pe_int (fun _ _ => rfl)) (pe_op op_sub (pv 2) (pv 1)))))), ?_⟩
    refine ⟨_, rfl, _, rfl, rfl, _, rfl, ite2 (fun e => ?_) (fun e => ?_)⟩
    · have e1 : lv = st := V.int.inj (of_decide_eq_true e)
      have e2 : od S (lv - st) = 0 := by unfold od; rw [if_neg (by omega)]
      rw [e2] at q
      exact q
    · have e1 : ¬ lv = st := fun z => e (decide_eq_true (by rw [z]))
      have e2 : od S (lv - st) = S.start + S.piece * (lv - st) := by unfold od; rw [if_pos (by omega)]
      rw [e2] at q
      refine ⟨_, rfl, a, _, 2, .int S.start, rfl, rfl, ha, rfl, _, rfl, a, _, 3, .int S.piece, rfl, rfl, ha, rfl, _, rfl, _, rfl, _, _, rfl, rfl, _, _, rfl, rfl, cmul B.piece, _, _, rfl, rfl, q⟩
theorem scNext : FnScope ["shop", "level", "fall"] ["shop", "level", "fall"] (defScope sNext) := ⟨rfl, rfl, rfl, by decide +kernel, rfl, by decide +kernel, by decide +kernel⟩
theorem ok_next {f : Addr} {fd : FuncData} (F : Fun K "next_stock" "next_stock" sNext f fd) (T : Blt mg) : FnOk P w K mg base CX0 1 f fd ["shop", "level", "fall"] (spNext K) := by
  refine F.ok scNext (fun vs H Q E h => ?_) (fun cdv A outer s H vs Q E hr h => ?_)
  · obtain ⟨a, S, lv, fl, rfl, _⟩ := h
    rfl
  · obtain ⟨a, S, lv, fl, rfl, ha, q⟩ := h
    refine ⟨_, pss_one (ps_ret (pe_callB (call_max2 rfl) (by rfl) T.max boot_max' (pa_cons (pe_op op_sub (pv 1) (pv 2)) (pa_cons (pe_op op_sub pe_int (pe_ix ix_tup (pv 0) pe_int (fun _ _ => rfl))) pa_nil)))), ?_⟩
    refine ⟨_, rfl, _, rfl, _, _, rfl, rfl, _, rfl, a, _, 1, .int S.depth, rfl, rfl, ha, rfl, _, _, rfl, rfl, _, _, rfl, ?_⟩
    rw [max_if]
    exact q
theorem scDay : FnScope ["shop", "level", "fall", "stock", "never"] ["shop", "level", "fall"] (defScope sDay) := ⟨rfl, rfl, rfl, by decide +kernel, rfl, by decide +kernel, by decide +kernel⟩
theorem ok_day {f : Addr} {fd : FuncData} (F : Fun K "day_cost" "day_cost" sDay f fd) (T : Blt mg) (C : Cal P w K mg base 1 "next_stock" ["shop", "level", "fall"] (spNext K)) : FnOk P w K mg base CX0 2 f fd ["shop", "level", "fall"] (spDay K) := by
  refine F.ok scDay (fun vs H Q E h => ?_) (fun cdv A outer s H vs Q E hr h => ?_)
  · obtain ⟨a, S, lv, fl, rfl, _⟩ := h
    rfl
  · obtain ⟨a, S, lv, fl, rfl, ha, B, q⟩ := h
    refine ⟨_, pss_cons (ps_set (i := 3) scDay.nd rfl (.inl rfl) (pe_cal C hr (Nat.le_refl _) rfl (pa_cons (pv 0) (pa_cons (pv 1) (pa_cons (pv 2) pa_nil)))))
      (pss_cons (ps_set (i := 4) scDay.nd rfl (.inl rfl) (pe_op op_sub (pv 3) (pe_op op_sub (pv 1) (pv 2))))
      (pss_one (ps_ret (pe_op op_add (pe_op op_add (pe_op op_mul (pe_ix ix_tup (pv 0) pe_int (fun _ _ => rfl)) (pe_callB (call_max2 rfl) (by rfl) T.max boot_max' (pa_cons (pv 3) (pa_cons pe_int pa_nil))))
        (pe_op op_mul (pe_ix ix_tup (pv 0) pe_int (fun _ _ => rfl)) (pe_callB (call_max2 rfl) (by rfl) T.max boot_max' (pa_cons (pe_op op_sub pe_int (pv 3)) (pa_cons pe_int pa_nil)))))
        (pe_op op_mul (pe_ix ix_tup (pv 0) pe_int (fun _ _ => rfl)) (pv 4)))))), ?_⟩
    refine ⟨_, rfl, _, rfl, _, rfl, a, S, lv, fl, rfl, ha, ?_⟩
    refine ⟨_, rfl, _, rfl, _, rfl, _, _, rfl, rfl, _, _, rfl, rfl, ?_⟩
    refine ⟨_, rfl, a, _, 4, .int S.keep, rfl, rfl, ha, rfl, _, rfl, _, _, rfl, _, _, rfl, rfl, cmul B.keep, ?_⟩
    refine ⟨_, rfl, a, _, 5, .int S.lack, rfl, rfl, ha, rfl, _, rfl, _, _, rfl, rfl, _, _, rfl, _, _, rfl, rfl, cmul B.lack, _, _, rfl, rfl, ?_⟩
    refine ⟨_, rfl, a, _, 6, .int S.lost, rfl, rfl, ha, rfl, _, rfl, _, _, rfl, rfl, cmul B.lost, _, _, rfl, rfl, ?_⟩
    rw [max_if, max_if]
    exact q
theorem scEnd : FnScope ["shop", "stock"] ["shop", "stock"] (defScope sEnd) := ⟨rfl, rfl, rfl, by decide +kernel, rfl, by decide +kernel, by decide +kernel⟩
theorem ok_end {f : Addr} {fd : FuncData} (F : Fun K "end_cost" "end_cost" sEnd f fd) : FnOk P w K mg base CX0 1 f fd ["shop", "stock"] (spEnd K) := by
  refine F.ok scEnd (fun vs H Q E h => ?_) (fun cdv A outer s H vs Q E hr h => ?_)
  · obtain ⟨a, S, x, rfl, _⟩ := h
    rfl
  · obtain ⟨a, S, x, rfl, ha, B, q⟩ := h
    refine ⟨_, pss_cons (ps_if (pt_cmpR op_gt (pv 1) pe_int (nomark _)) (pss_one (ps_ret (pe_op op_sub pe_int (pe_op op_mul (pe_ix ix_tup (pv 0) pe_int (fun _ _ => rfl)) (pv 1))))) pss_nil)
      (pss_one (ps_ret (pe_op op_sub pe_int (pe_op op_mul (pe_ix ix_tup (pv 0) pe_int (fun _ _ => rfl)) (pv 1))))), ?_⟩
    refine ⟨_, rfl, _, _, rfl, rfl, _, rfl, ite2 (fun e => ?_) (fun e => ?_)⟩
    · have e1 : 0 < x := of_decide_eq_true e
      have e2 : ec S x = 0 - S.back * x := by unfold ec; rw [if_pos e1]
      rw [e2] at q
      exact ⟨_, rfl, a, _, 7, .int S.back, rfl, rfl, ha, rfl, _, rfl, _, _, rfl, rfl, cmul B.back, _, _, rfl, rfl, q⟩
    · have e1 : ¬ 0 < x := fun z => e (decide_eq_true z)
      have e2 : ec S x = 0 - S.late * x := by unfold ec; rw [if_neg e1]
      rw [e2] at q
      exact ⟨_, rfl, a, _, 8, .int S.late, rfl, rfl, ha, rfl, _, rfl, _, _, rfl, rfl, cmul B.late, _, _, rfl, rfl, q⟩
theorem scLOrder : FnScope ["_law_shop", "_law_pieces"] ["_law_shop", "_law_pieces"] (defScope sLOrder) := ⟨rfl, rfl, rfl, by decide +kernel, rfl, by decide +kernel, by decide +kernel⟩
theorem ok_lorder {f : Addr} {fd : FuncData} (F : Fun K "_law_order" "_law_order" sLOrder f fd) (T : Blt mg) : FnOk P w K mg base CX0 1 f fd ["_law_shop", "_law_pieces"] (spLOrder K) := by
  refine F.ok scLOrder (fun vs H Q E h => ?_) (fun cdv A outer s H vs Q E hr h => ?_)
  · obtain ⟨a, S, z, rfl, _⟩ := h
    rfl
  · obtain ⟨a, S, z, rfl, ha, B, q⟩ := h
    refine ⟨_, pss_one (ps_ret (pe_op op_mul (pe_op op_add (pe_ix ix_tup (pv 0) pe_int (fun _ _ => rfl)) (pe_op op_mul (pe_ix ix_tup (pv 0) pe_int (fun _ _ => rfl)) (pv 1)))
      (pe_callTy call_int1 (by rfl) T.int boot_int' (pa_cons (pe_cmpR op_gt (pv 1) pe_int (nomark _)) pa_nil)))), ?_⟩
    refine ⟨_, rfl, a, _, 2, .int S.start, rfl, rfl, ha, rfl, _, rfl, a, _, 3, .int S.piece, rfl, rfl, ha, rfl, _, rfl, _, _, rfl, rfl, cmul B.piece, _, _, rfl, rfl, ?_⟩
    refine ⟨_, rfl, _, _, rfl, rfl, .inr ⟨_, rfl, ?_⟩⟩
    refine ⟨_, _, rfl, rfl, .inr (by split <;> exact ⟨by decide, by decide⟩), ?_⟩
    have e : (S.start + S.piece * z) * (if decide (0 < z) = true then 1 else 0) = od S z := by
      unfold od
      by_cases h : 0 < z
      · rw [if_pos h, if_pos (decide_eq_true h), Int.mul_one]
      · rw [if_neg h, if_neg (by rw [decide_eq_false h]; decide), Int.mul_zero]
    show Q (.int ((S.start + S.piece * z) * (if decide (0 < z) = true then 1 else 0))) H
    rw [e]
    exact q
theorem scLRest : FnScope ["_law_shop", "_law_rest"] ["_law_shop", "_law_rest"] (defScope sLRest) := ⟨rfl, rfl, rfl, by decide +kernel, rfl, by decide +kernel, by decide +kernel⟩
theorem ok_lrest {f : Addr} {fd : FuncData} (F : Fun K "_law_rest_cost" "_law_rest_cost" sLRest f fd) (T : Blt mg) : FnOk P w K mg base CX0 1 f fd ["_law_shop", "_law_rest"] (spLRest K) := by
  refine F.ok scLRest (fun vs H Q E h => ?_) (fun cdv A outer s H vs Q E hr h => ?_)
  · obtain ⟨a, S, z, rfl, _⟩ := h
    rfl
  · obtain ⟨a, S, z, rfl, ha, B, q⟩ := h
    refine ⟨_, pss_one (ps_ret (pe_op op_add (pe_op op_mul (pe_ix ix_tup (pv 0) pe_int (fun _ _ => rfl)) (pe_callB (call_max2 rfl) (by rfl) T.max boot_max' (pa_cons (pv 1) (pa_cons pe_int pa_nil))))
      (pe_op op_mul (pe_ix ix_tup (pv 0) pe_int (fun _ _ => rfl)) (pe_callB (call_max2 rfl) (by rfl) T.max boot_max' (pa_cons (pe_op op_sub pe_int (pv 1)) (pa_cons pe_int pa_nil)))))), ?_⟩
    refine ⟨_, rfl, a, _, 4, .int S.keep, rfl, rfl, ha, rfl, _, rfl, _, _, rfl, _, _, rfl, rfl, cmul B.keep, ?_⟩
    refine ⟨_, rfl, a, _, 5, .int S.lack, rfl, rfl, ha, rfl, _, rfl, _, _, rfl, rfl, _, _, rfl, _, _, rfl, rfl, cmul B.lack, _, _, rfl, rfl, ?_⟩
    rw [max_if, max_if]
    exact q
theorem scLEnd : FnScope ["_law_shop", "_law_rest"] ["_law_shop", "_law_rest"] (defScope sLEnd) := ⟨rfl, rfl, rfl, by decide +kernel, rfl, by decide +kernel, by decide +kernel⟩
theorem ok_lend {f : Addr} {fd : FuncData} (F : Fun K "_law_end" "_law_end" sLEnd f fd) (T : Blt mg) : FnOk P w K mg base CX0 1 f fd ["_law_shop", "_law_rest"] (spLEnd K) := by
  refine F.ok scLEnd (fun vs H Q E h => ?_) (fun cdv A outer s H vs Q E hr h => ?_)
  · obtain ⟨a, S, z, rfl, _⟩ := h
    rfl
  · obtain ⟨a, S, z, rfl, ha, B, q⟩ := h
    refine ⟨_, pss_one (ps_ret (pe_op op_sub (pe_op op_mul (pe_ix ix_tup (pv 0) pe_int (fun _ _ => rfl)) (pe_callB (call_max2 rfl) (by rfl) T.max boot_max' (pa_cons (pe_op op_sub pe_int (pv 1)) (pa_cons pe_int pa_nil))))
      (pe_op op_mul (pe_ix ix_tup (pv 0) pe_int (fun _ _ => rfl)) (pe_callB (call_max2 rfl) (by rfl) T.max boot_max' (pa_cons (pv 1) (pa_cons pe_int pa_nil)))))), ?_⟩
    refine ⟨_, rfl, a, _, 8, .int S.late, rfl, rfl, ha, rfl, _, rfl, _, _, rfl, rfl, _, _, rfl, _, _, rfl, rfl, cmul B.late, ?_⟩
    refine ⟨_, rfl, a, _, 7, .int S.back, rfl, rfl, ha, rfl, _, rfl, _, _, rfl, _, _, rfl, rfl, cmul B.back, _, _, rfl, rfl, ?_⟩
    rw [max_if, max_if]
    exact q
end
end TW
/-! greatest falls, free_from, need_free, the law's own greatest -/
namespace TW
open PySem PySem.Spec PyProof.Rows L2 TM
abbrev sGseen : Stmt := topS 15
abbrev sFree : Stmt := topS 16
abbrev sGfall : Stmt := topS 19
abbrev sNeed : Stmt := topS 24
abbrev sLGreat : Stmt := topS 31
theorem sPut {H H' : Hp} {D : Addr} {o : HO} (e : Same H H') (h : H D = none) : Same H (upd H' D o) := fun b x q => by
  rw [upd_ne (ne_of_none q h)]
  exact e b x q
/-- a, b = .. as a target: places i, j -/
abbrev gPair (K : PySem.W.Frag) (i j : Nat) : TG := gTup K 2 (gCons (gName i) (gCons (gName j) gNil))
theorem pg_pair {X : Cx} {i j k : Nat} {x y : Str} {p1 p2 p3 : Pos} (hc : X.calm = true) (hN : X.N.Nodup) (hi : X.N[i]? = some x) (hj : X.N[j]? = some y) (hx : Loc X.env.scope x) (hy : Loc X.env.scope y)
    (fx : X.fn x = true ∨ X.env.scope.names.lookup x = some .local) (fy : X.fn y = true ∨ X.env.scope.names.lookup y = some .local) : PG X (.Tuple [.Name x p1, .Name y p2] k p3) (gPair X.K i j) :=
  pg_tup hc (pgs_cons (pg_name hN hi hx fx) (pgs_cons (pg_name hN hj hy fy) pgs_nil))
/-- what len of a list or a tuple asks -/
def rLenSeq (K : PySem.W.Frag) : List V → Hp → VK → Prop := fun xs H Q => ∃ p ys, xs = [.ref p] ∧ (SqL K H p ys ∨ SqT K H p ys) ∧ Q (.int ys.length) H
/-- a comprehension without a test -/
theorem tyes {σ : L2.St} {H : Hp} {A' B' : Bool → Hp → Prop} (h : A' true H) : tYes σ H (fun b H3 => if b = true then A' b H3 else B' b H3) := by
  show if true = true then A' true H else B' true H
  rw [if_pos rfl]
  exact h
def spGreat (K : PySem.W.Frag) : Sp := fun vs H Q _ => ∃ (a : Addr) (one : List Int), vs = [.ref a] ∧ IntT K H a one ∧ DayB one ∧ ∀ H', Same H H' → Q (.int (gr1 0 one)) H'
def spFree (K : PySem.W.Frag) : Sp := fun vs H Q _ => ∃ (a b : Addr) (S : Shop) (F : List (List Int)), vs = [.ref a, .ref b, .int 0] ∧ ShopAt K H a S ∧ Fls K H b F ∧ FB F ∧ ∀ H', Same H H' → Q (.int (gr F - S.depth)) H'
def spNeed (K : PySem.W.Frag) : Sp := fun vs H Q _ => ∃ (a b : Addr) (S : Shop) (F : List (List Int)) (x : Int), vs = [.ref a, .ref b, .int x] ∧ ShopAt K H a S ∧ Fls K H b F ∧ FB F ∧ gr F - S.depth ≤ x ∧ ∀ H', Same H H' → Q .non H'
def spLGreat (K : PySem.W.Frag) : Sp := fun vs H Q _ => ∃ (b : Addr) (F : List (List Int)), vs = [.ref b] ∧ Fls K H b F ∧ FB F ∧ ∀ H', Same H H' → Q (.int (gr F)) H'
theorem gr_snoc (F : List (List Int)) (one : List Int) : gr (F ++ [one]) = gr F + gr1 0 one := by
  unfold gr; rw [List.map_append, List.sum_append]; simp
theorem small8 {n : Nat} (h : n ≤ 8) : n < sizeLine := Nat.lt_of_le_of_lt h (by decide)
section
variable {P : Program} {w : World} {K : PySem.W.Frag} {mg : Str → Option Value} {base : Heap}
theorem scGseen : FnScope ["one", "fall", "weight"] ["one"] (defScope sGseen) := ⟨rfl, rfl, rfl, by decide +kernel, rfl, by decide +kernel, by decide +kernel⟩
theorem ok_gseen {f : Addr} {fd : FuncData} (F : Fun K "greatest_seen" "greatest_seen" sGseen f fd) (T : Blt mg) : FnOk P w K mg base CX0 1 f fd ["one"] (spGreat K) := by
  refine F.ok scGseen (fun vs H Q E h => ?_) (fun cdv A outer s H vs Q E hr h => ?_)
  · obtain ⟨a, one, rfl, _⟩ := h
    rfl
  · obtain ⟨a, one, rfl, ha, B, q⟩ := h
    refine ⟨_, pss_one (ps_ret (pe_callB (cr_max rfl) (by rfl) T.max boot_max' (pa_cons (pe_lc (own := [("fall", 1), ("weight", 2)]) (g := gPair K 1 2) rfl scGseen.nd (pi_enumT (by rfl) T.enum (pa_cons (pv 0) pa_nil))
      (blkOk_by (N := ["one", "fall", "weight"]) (sc := defScope sGseen) (by decide +kernel))
      (fun _ _ _ _ _ => pg_pair (i := 1) (j := 2) rfl scGseen.nd rfl rfl (Or.inl rfl) (Or.inl rfl) (Or.inr rfl) (Or.inr rfl))
      (fun _ _ _ _ _ => pts_one (pt_cmpR op_gt (pv 2) pe_int (nomark _))) (fun _ _ _ _ _ => pv 1)) pa_nil))), ?_⟩
    refine ⟨.ref a, rfl, a, _, rfl, ha, fun D nD => ?_⟩
    refine lc_it walk_enumT (fun i H' => Same H H' ∧ H' D = some (.lst ((seen 0 (one.take i)).map V.int))) ⟨same_upd nD, upd_same⟩ (fun i H' _ h => sameT h.1 ha) ?_ ?_
    · rintro i x H1 H2 hi ⟨e1, hD⟩ ⟨t, x1, x2, rfl, nt, rfl, g1, g2⟩
      obtain ⟨z, hz, rfl⟩ := map_get g2
      obtain rfl : V.int (i : Nat) = x1 := Option.some.inj g1
      refine ⟨t, _, rfl, SqT.of upd_same, rfl, _, _, rfl, _, _, rfl, rfl, rfl, ?_⟩
      refine ⟨_, rfl, _, _, rfl, rfl, _, rfl, ?_⟩
      have nDt : D ≠ t := ne_of_none hD nt
      have e2 : Same H (upd H1 t (.tup [V.int (i : Nat), V.int z])) := sThen e1 nt
      have sn := seen_snoc z (one.take i) 0
      rw [← take_more hz, List.length_take, Nat.min_eq_left (Nat.le_of_lt (len_of hz)), Int.zero_add] at sn
      refine ite2 (fun c => ?_) (fun c => ?_)
      · rw [if_pos (of_decide_eq_true c)] at sn
        refine ⟨_, rfl, _, by rw [upd_ne nDt]; exact hD, ?_, sPut e2 nD, ?_⟩
        · have l1 := seen_len (one.take i) 0
          have l2 := B.len
          rw [List.length_map]
          rw [List.length_take] at l1
          exact small8 (by omega)
        · rw [upd_same, sn, List.map_append]
          rfl
      · rw [if_neg fun y => c (decide_eq_true y)] at sn
        refine ⟨e2, ?_⟩
        rw [upd_ne nDt, sn]
        exact hD
    · rintro H1 ⟨e1, hD⟩
      rw [List.length_map, List.take_length] at hD
      refine ⟨D, _, rfl, SqL.of hD, ?_, fun m hm hle => ?_⟩
      · exact List.length_pos_iff.mpr (seen_ne B.pos)
      · have e : m = gr1 0 one := gr1_max B.pos hm hle
        rw [e]
        exact q H1 e1
theorem scGfall : FnScope ["one", "fall", "weight"] ["one"] (defScope sGfall) := ⟨rfl, rfl, rfl, by decide +kernel, rfl, by decide +kernel, by decide +kernel⟩
theorem ok_gfall {f : Addr} {fd : FuncData} (F : Fun K "greatest_fall" "greatest_fall" sGfall f fd) (T : Blt mg) : FnOk P w K mg base CX0 1 f fd ["one"] (spGreat K) := by
  refine F.ok scGfall (fun vs H Q E h => ?_) (fun cdv A outer s H vs Q E hr h => ?_)
  · obtain ⟨a, one, rfl, _⟩ := h
    rfl
  · obtain ⟨a, one, rfl, ha, B, q⟩ := h
    refine ⟨_, pss_one (ps_ret (pe_callB (cr_max rfl) (by rfl) T.max boot_max' (pa_cons (pe_lc (own := [("fall", 1), ("weight", 2)]) (g := gPair K 1 2) rfl scGfall.nd (pi_enumT (by rfl) T.enum (pa_cons (pv 0) pa_nil))
      (blkOk_by (N := ["one", "fall", "weight"]) (sc := defScope sGfall) (by decide +kernel))
      (fun _ _ _ _ _ => pg_pair (i := 1) (j := 2) rfl scGfall.nd rfl rfl (Or.inl rfl) (Or.inl rfl) (Or.inr rfl) (Or.inr rfl))
      (fun _ _ _ _ _ => pts_one (pt_cmpR op_gt (pv 2) pe_int (nomark _))) (fun _ _ _ _ _ => pv 1)) pa_nil))), ?_⟩
    refine ⟨.ref a, rfl, a, _, rfl, ha, fun D nD => ?_⟩
    refine lc_it walk_enumT (fun i H' => Same H H' ∧ H' D = some (.lst ((seen 0 (one.take i)).map V.int))) ⟨same_upd nD, upd_same⟩ (fun i H' _ h => sameT h.1 ha) ?_ ?_
    · rintro i x H1 H2 hi ⟨e1, hD⟩ ⟨t, x1, x2, rfl, nt, rfl, g1, g2⟩
      obtain ⟨z, hz, rfl⟩ := map_get g2
      obtain rfl : V.int (i : Nat) = x1 := Option.some.inj g1
      refine ⟨t, _, rfl, SqT.of upd_same, rfl, _, _, rfl, _, _, rfl, rfl, rfl, ?_⟩
      refine ⟨_, rfl, _, _, rfl, rfl, _, rfl, ?_⟩
      have nDt : D ≠ t := ne_of_none hD nt
      have e2 : Same H (upd H1 t (.tup [V.int (i : Nat), V.int z])) := sThen e1 nt
      have sn := seen_snoc z (one.take i) 0
      rw [← take_more hz, List.length_take, Nat.min_eq_left (Nat.le_of_lt (len_of hz)), Int.zero_add] at sn
      refine ite2 (fun c => ?_) (fun c => ?_)
      · rw [if_pos (of_decide_eq_true c)] at sn
        refine ⟨_, rfl, _, by rw [upd_ne nDt]; exact hD, ?_, sPut e2 nD, ?_⟩
        · have l1 := seen_len (one.take i) 0
          have l2 := B.len
          rw [List.length_map]
          rw [List.length_take] at l1
          exact small8 (by omega)
        · rw [upd_same, sn, List.map_append]
          rfl
      · rw [if_neg fun y => c (decide_eq_true y)] at sn
        refine ⟨e2, ?_⟩
        rw [upd_ne nDt, sn]
        exact hD
    · rintro H1 ⟨e1, hD⟩
      rw [List.length_map, List.take_length] at hD
      refine ⟨D, _, rfl, SqL.of hD, ?_, fun m hm hle => ?_⟩
      · exact List.length_pos_iff.mpr (seen_ne B.pos)
      · have e : m = gr1 0 one := gr1_max B.pos hm hle
        rw [e]
        exact q H1 e1
theorem scFree : FnScope ["shop", "falls", "t", "one"] ["shop", "falls", "t"] (defScope sFree) := ⟨rfl, rfl, rfl, by decide +kernel, rfl, by decide +kernel, by decide +kernel⟩
theorem ok_free {f : Addr} {fd : FuncData} (F : Fun K "free_from" "free_from" sFree f fd) (T : Blt mg) (C : Cal P w K mg base 1 "greatest_seen" ["one"] (spGreat K)) : FnOk P w K mg base CX0 2 f fd ["shop", "falls", "t"] (spFree K) := by
  refine F.ok scFree (fun vs H Q E h => ?_) (fun cdv A outer s H vs Q E hr h => ?_)
  · obtain ⟨a, b, S, F, rfl, _⟩ := h
    rfl
  · obtain ⟨a, b, S, F, rfl, ha, ⟨ps, hb, pr⟩, B, q⟩ := h
    refine ⟨_, pss_one (ps_ret (pe_op op_sub (pe_callB (cr_sum rfl) (by rfl) T.sum boot_sum' (pa_cons (pe_lc (own := [("one", 3)]) (g := gName 3) (tt := tYes) rfl scFree.nd (pi_tup (pe_slice sl_tupA (pv 1) (po_some (pv 2)) po_none))
      (blkOk_by (N := ["shop", "falls", "t", "one"]) (sc := defScope sFree) (by decide +kernel)) (fun _ _ _ _ _ => pg_name (i := 3) scFree.nd rfl (Or.inl rfl) (Or.inr rfl)) (fun _ _ _ _ _ => pts_nil)
      (fun _ _ _ _ _ => pe_cal C hr (Nat.le_refl _) rfl (pa_cons (pv 3) pa_nil))) pa_nil)) (pe_ix ix_tup (pv 0) pe_int (fun _ _ => rfl)))), ?_⟩
    have z0 : HT.sIx (ps.map V.ref).length 0 (some 0) = 0 := HT.sIx_nat _ 0 0
    refine ⟨.ref b, rfl, _, rfl, 0, rfl, b, ps.map V.ref, rfl, hb, fun _ => ?_, fun n => absurd ⟨z0, rfl⟩ n⟩
    refine ⟨b, rfl, ⟨_, hb⟩, fun D nD => ?_⟩
    refine lc_it (walk_tup (xs := ps.map V.ref)) (fun i H' => Same H H' ∧ H' D = some (.lst (((F.map (gr1 0)).take i).map V.int))) ⟨same_upd nD, upd_same⟩ (fun i H' _ h => sameT h.1 hb) ?_ ?_
    · rintro i x H1 H2 hi ⟨e1, hD⟩ ⟨rfl, g1⟩
      obtain ⟨p, hp, rfl⟩ := mapr_get g1
      obtain ⟨one, ho, h1⟩ := pAt2 pr hp
      refine ⟨rfl, tyes ?_⟩
      refine ⟨_, rfl, p, one, rfl, sameT e1 h1, B.day one (List.mem_of_getElem? ho), fun H3 e3 => ?_⟩
      refine ⟨_, e3 _ _ hD, ?_, sPut (e1.trans e3) nD, ?_⟩
      · have l := len_of ho
        have := B.len
        rw [List.length_map, List.length_take, List.length_map]
        exact small8 (by omega)
      · rw [upd_same, take_more (show (F.map (gr1 0))[i]? = some (gr1 0 one) by rw [List.getElem?_map, ho]; rfl), List.map_append]
        rfl
    · rintro H1 ⟨e1, hD⟩
      have el : (ps.map V.ref).length = (F.map (gr1 0)).length := by rw [List.length_map, List.length_map]; exact pLen pr
      rw [el, List.take_length] at hD
      refine ⟨D, _, rfl, SqL.of hD, _, rfl, a, _, 1, .int S.depth, rfl, rfl, sameT e1 ha, rfl, _, _, rfl, rfl, q H1 e1⟩
theorem scNeed : FnScope ["shop", "falls", "stock"] ["shop", "falls", "stock"] (defScope sNeed) := ⟨rfl, rfl, rfl, by decide +kernel, rfl, by decide +kernel, by decide +kernel⟩
theorem ok_need {f : Addr} {fd : FuncData} (F : Fun K "need_free" "need_free" sNeed f fd) (C : Cal P w K mg base 2 "free_from" ["shop", "falls", "t"] (spFree K)) : FnOk P w K mg base CX0 3 f fd ["shop", "falls", "stock"] (spNeed K) := by
  refine F.ok scNeed (fun vs H Q E h => ?_) (fun cdv A outer s H vs Q E hr h => ?_)
  · obtain ⟨a, b, S, F, x, rfl, _⟩ := h
    rfl
  · obtain ⟨a, b, S, F, x, rfl, ha, hb, B, hx, q⟩ := h
    refine ⟨_, pss_one (ps_if (pt_cmpR op_lt (pv 2) (pe_cal C hr (Nat.le_refl _) rfl (pa_cons (pv 0) (pa_cons (pv 1) (pa_cons pe_int pa_nil)))) (nomark _)) (pss_one ps_never) pss_nil), ?_⟩
    refine ⟨_, rfl, _, rfl, _, rfl, a, b, S, F, rfl, ha, hb, B, fun H1 e1 => ?_⟩
    refine ⟨_, _, rfl, rfl, _, rfl, ?_⟩
    rw [decide_eq_false (by omega)]
    exact iteF (q H1 e1)
/-- the scope of the comprehension that is a call's only argument in a def's return -/
def lcSc : Expr → Scope
  | .ListComp _ _ sc _ => sc
  | _ => { kind := .function, names := [], isGenerator := false, isCoroutine := false }
def arg0 : Expr → Expr
  | .Call _ (e :: _) _ _ => e
  | e => e
def retE : List Stmt → Expr
  | [.Return (some e) _] => e
  | _ => .Constant .none 0 ⟨0, 0, 0, 0⟩
abbrev scLGo : Scope := lcSc (arg0 (retE (defBody sLGreat)))
theorem scLGreat : FnScope ["_law_falls", "_law_one", "_law_fall"] ["_law_falls"] (defScope sLGreat) := ⟨rfl, rfl, rfl, by decide +kernel, rfl, by decide +kernel, by decide +kernel⟩
theorem ok_lgreat {f : Addr} {fd : FuncData} (F : Fun K "_law_greatest" "_law_greatest" sLGreat f fd) (T : Blt mg) : FnOk P w K mg base CX0 1 f fd ["_law_falls"] (spLGreat K) := by
  refine F.ok scLGreat (fun vs H Q E h => ?_) (fun cdv A outer s H vs Q E hr h => ?_)
  · obtain ⟨b, F, rfl, _⟩ := h
    rfl
  · obtain ⟨b, F, rfl, ⟨ps, hb, pr⟩, B, q⟩ := h
    refine ⟨_, pss_one (ps_ret (pe_callB (cr_sum rfl) (by rfl) T.sum boot_sum' (pa_cons (pe_lc (own := [("_law_one", 1)]) (g := gName 1) (tt := tYes) rfl scLGreat.nd (pi_tup (pv 0))
      (blkOk_by (N := ["_law_falls", "_law_one", "_law_fall"]) (sc := defScope sLGreat) (by decide +kernel)) (fun _ _ _ _ _ => pg_name (i := 1) scLGreat.nd rfl (Or.inr rfl) (Or.inl rfl)) (fun _ _ _ _ _ => pts_nil)
      (fun _ _ _ _ _ => pe_callB (r := rMax K) (cr_max rfl) (by rfl) T.max boot_max' (pa_cons (pe_lc (own := [("_law_fall", 2)]) (g := gName 2) rfl scLGreat.nd (pi_range1 (by rfl) T.range (pa_cons (pe_callB (r := rLenSeq K) call_len_seq (by rfl) T.len PySem.boot_len (pa_cons (pv 1) pa_nil)) pa_nil))
        (blkOk_by (N := ["_law_falls", "_law_one", "_law_fall"]) (sc := relS scLGo (defScope sLGreat)) (by decide +kernel)) (fun _ _ _ _ _ => pg_name (i := 2) scLGreat.nd rfl (Or.inl rfl) (Or.inr rfl))
        (fun _ _ _ _ _ => pts_one (pt_cmpR op_gt (pe_ix (r := rIxT K) ix_tup (pv 1) (pv 2) (fun _ _ => rfl)) pe_int (nomark _))) (fun _ _ _ _ _ => pv 2)) pa_nil))) pa_nil))), ?_⟩
    refine ⟨.ref b, rfl, b, rfl, ⟨_, hb⟩, fun D nD => ?_⟩
    refine lc_it (walk_tup (xs := ps.map V.ref)) (fun i H' => Same H H' ∧ H' D = some (.lst (((F.map (gr1 0)).take i).map V.int))) ⟨same_upd nD, upd_same⟩ (fun i H' _ h => sameT h.1 hb) ?_ ?_
    · rintro i x H1 H2 hi ⟨e1, hD⟩ ⟨rfl, g1⟩
      obtain ⟨p, hp, rfl⟩ := mapr_get g1
      obtain ⟨one, ho, h1⟩ := pAt2 pr hp
      have h1' := sameT e1 h1
      have O := B.day one (List.mem_of_getElem? ho)
      have ol : (one.map V.int).length ≤ 8 := by rw [List.length_map]; exact O.len
      refine ⟨rfl, tyes ?_⟩
      refine ⟨_, rfl, p, _, rfl, .inr h1', _, rfl, by omega, by omega, fun D2 nD2 => ?_⟩
      rw [Int.toNat_natCast]
      refine lc_it (walk_range (lo := 0) (n := (one.map V.int).length)) (fun k H' => Same H2 H' ∧ H' D2 = some (.lst ((seen 0 (one.take k)).map V.int))) ⟨same_upd nD2, upd_same⟩ (fun _ _ _ _ => trivial) ?_ ?_
      · rintro k x H3 H4 hk ⟨e3, hD2⟩ ⟨rfl, rfl⟩
        rw [List.length_map] at hk
        obtain ⟨z, hz⟩ : ∃ z, one[k]? = some z := ⟨one[k], List.getElem?_eq_getElem hk⟩
        have gz : atI (one.map V.int) (0 + (k : Int)) = some (.int z) := by
          rw [Int.zero_add]
          exact atI_nat (by rw [List.getElem?_map, hz]; rfl)
        have sn := seen_snoc z (one.take k) 0
        rw [← take_more hz, List.length_take, Nat.min_eq_left (Nat.le_of_lt hk)] at sn
        refine ⟨rfl, ?_⟩
        refine ⟨_, rfl, _, rfl, p, _, _, _, rfl, rfl, sameT e3 h1', gz, _, _, rfl, rfl, _, rfl, ite2 (fun c => ?_) (fun c => ?_)⟩
        · rw [if_pos (of_decide_eq_true c)] at sn
          refine ⟨_, rfl, _, hD2, ?_, sPut e3 nD2, ?_⟩
          · have l1 := seen_len (one.take k) 0
            rw [List.length_map]
            rw [List.length_take] at l1
            have := O.len
            exact small8 (by omega)
          · rw [upd_same, sn, List.map_append]
            rfl
        · rw [if_neg fun y => c (decide_eq_true y)] at sn
          exact ⟨e3, by rw [sn]; exact hD2⟩
      · rintro H3 ⟨e3, hD2⟩
        rw [List.length_map, List.take_length] at hD2
        refine ⟨D2, _, rfl, SqL.of hD2, List.length_pos_iff.mpr (seen_ne O.pos), fun m hm hle => ?_⟩
        obtain rfl : m = gr1 0 one := gr1_max O.pos hm hle
        refine ⟨_, e3 _ _ hD, ?_, sPut (e1.trans e3) nD, ?_⟩
        · have l := len_of ho
          have := B.len
          rw [List.length_map, List.length_take, List.length_map]
          exact small8 (by omega)
        · rw [upd_same, take_more (show (F.map (gr1 0))[i]? = some (gr1 0 one) by rw [List.getElem?_map, ho]; rfl), List.map_append]
          rfl
    · rintro H1 ⟨e1, hD⟩
      have el : (ps.map V.ref).length = (F.map (gr1 0)).length := by rw [List.length_map, List.length_map]; exact pLen pr
      rw [el, List.take_length] at hD
      exact ⟨D, _, rfl, SqL.of hD, q H1 e1⟩
end
end TW
/-! together -/
namespace TW
open PySem PySem.Spec PyProof.Rows L2 TM
abbrev sTog : Stmt := topS 18
def spTog (K : PySem.W.Frag) : Sp := fun vs H Q _ => ∃ (b : Addr) (F : List (List Int)), vs = [.ref b] ∧ Fls K H b F ∧ FB F ∧ ∀ H' p W, Same H H' → H' p = some (.lst (W.map V.int)) → Cv F W → Q (.ref p) H'
theorem len_map {xs : List Int} : (xs.map V.int).length = xs.length := List.length_map ..
theorem flat0 (n : Nat) : (List.replicate n [V.int 0]).flatten = (List.replicate n (0 : Int)).map V.int := by
  rw [List.map_replicate]
  induction n with
  | zero => rfl
  | succ n ih => rw [List.replicate_succ, List.replicate_succ, List.flatten_cons, ih]; rfl
section
variable {P : Program} {w : World} {K : PySem.W.Frag} {mg : Str → Option Value} {base : Heap}
theorem scTog : FnScope ["falls", "found", "one", "more", "ahead", "weight", "fall", "other"] ["falls"] (defScope sTog) := ⟨rfl, rfl, rfl, by decide +kernel, rfl, by decide +kernel, by decide +kernel⟩
theorem ok_tog {f : Addr} {fd : FuncData} (F : Fun K "together" "together" sTog f fd) (T : Blt mg) : FnOk P w K mg base CX0 1 f fd ["falls"] (spTog K) := by
  refine F.ok scTog (fun vs H Q E h => ?_) (fun cdv A outer s H vs Q E hr h => ?_)
  · obtain ⟨b, F, rfl, _⟩ := h
    rfl
  · obtain ⟨b, F, rfl, ⟨ps, hb, pr⟩, B, q⟩ := h
    refine ⟨_, pss_cons (ps_set (i := 1) scTog.nd rfl (.inl rfl) (pe_lst (pa_cons pe_int pa_nil)))
      (pss_cons (ps_for PassesOwn.never rfl (pi_tup (pv 0)) (pg_name (i := 2) scTog.nd rfl (.inl rfl))
        (pss_cons (ps_set (i := 3) scTog.nd rfl (.inl rfl) (pe_op op_rep (pe_lst (pa_cons pe_int pa_nil)) (pe_op op_sub (pe_op op_add (pe_callB (r := rLenSeq K) call_len_seq (by rfl) T.len PySem.boot_len (pa_cons (pv 1) pa_nil)) (pe_callB (r := rLenSeq K) call_len_seq (by rfl) T.len PySem.boot_len (pa_cons (pv 2) pa_nil))) pe_int)))
        (pss_cons (ps_for PassesOwn.never rfl (pi_enum (by rfl) T.enum (pa_cons (pv 1) pa_nil)) (pg_pair (i := 4) (j := 5) rfl scTog.nd rfl rfl (Or.inl rfl) (Or.inl rfl) (Or.inl rfl) (Or.inl rfl))
          (pss_one (ps_for PassesOwn.never rfl (pi_enumT (by rfl) T.enum (pa_cons (pv 2) pa_nil)) (pg_pair (i := 6) (j := 7) rfl scTog.nd rfl rfl (Or.inl rfl) (Or.inl rfl) (Or.inl rfl) (Or.inl rfl))
            (pss_one (ps_asg (pe_op op_add (pe_ix ix_list (pv 3) (pe_op op_add (pv 4) (pv 6)) (fun _ _ => rfl)) (pe_op op_mul (pv 5) (pv 7))) (pg_sub (pv 3) (pe_op op_add (pv 4) (pv 6)) set_list))))))
        (pss_one (ps_set (i := 1) scTog.nd rfl (.inl rfl) (pv 3))))))
      (pss_one (ps_ret (pv 1)))), ?_⟩
    refine ⟨(by show 1 ≤ sizeLine; decide), fun p0 n0 => ?_⟩
    refine ⟨_, rfl, b, rfl, ⟨_, sameT (same_upd n0) hb⟩, ?_⟩
    refine for_it (walk_tup (xs := ps.map V.ref)) (fun i σ H' => ∃ (pf : Addr) (W : List Int) (y2 y3 y4 y5 y6 y7 : Option V), σ = [some (.ref b), some (.ref pf), y2, y3, y4, y5, y6, y7] ∧ Same H H' ∧ H pf = none ∧ H' pf = some (.lst (W.map V.int)) ∧ Cv (F.take i) W)
      ⟨p0, [1], none, none, none, none, none, none, rfl, same_upd n0, n0, upd_same, cv_start⟩ (fun i σ H' _ ⟨_, _, _, _, _, _, _, _, _, e, _⟩ => sameT e hb) ?_ ?_
    · rintro i x σ H1 H2 hi ⟨pf, W, y2, y3, y4, y5, y6, y7, rfl, e1, nf, hf, cv⟩ ⟨rfl, g1⟩
      obtain ⟨p, hp, rfl⟩ := mapr_get g1
      obtain ⟨one, ho, h1⟩ := pAt2 pr hp
      have h1' := sameT e1 h1
      have O := B.day one (List.mem_of_getElem? ho)
      have ol := O.len
      have ol1 : 0 < one.length := by
        obtain ⟨z, hz, _⟩ := O.pos
        exact List.length_pos_of_mem hz
      have Fl := B.len
      have il : i < F.length := len_of ho
      have Wl := cv.len
      rw [List.length_take] at Wl
      -- more = [0] * (len(found) + len(one) - 1)
      refine ⟨(by show 1 ≤ sizeLine; decide), fun q0 m0 => ?_⟩
      have e2 := sThen (o := .lst [.int 0]) e1 m0
      have hf2 : upd H2 q0 (.lst [.int 0]) pf = some (.lst (W.map V.int)) := by rw [upd_ne (ne_of_none hf m0)]; exact hf
      refine ⟨_, rfl, pf, _, rfl, .inl (SqL.of hf2), _, rfl, p, _, rfl, .inr (sameT (same_upd m0) h1'), _, _, rfl, rfl, _, _, rfl, rfl, ?_⟩
      refine ⟨q0, _, _, rfl, rfl, upd_same, by rw [len_map, len_map]; omega, by rw [len_map, len_map]; omega, ?_, fun pm nm => ?_⟩
      · have z : sizeLine = 16777216 := by decide
        rw [len_map, len_map, z]
        show 1 * _ ≤ 16777216
        omega
      rw [flat0, len_map, len_map]
      have ez : (((((W.length : Int) + (one.length : Int) - 1).toNat : Nat)) : Int) = (W.length : Int) + one.length - 1 := by omega
      have mo0 := mo_start ez
      generalize List.replicate ((W.length : Int) + (one.length : Int) - 1).toNat (0 : Int) = M0 at mo0
      have nmH : H pm = none := Same.free e2 nm
      have e3 := sThen (o := .lst (M0.map V.int)) e2 nm
      have nfm : pf ≠ pm := ne_of_none hf2 nm
      generalize hH3 : upd (upd H2 q0 (.lst [.int 0])) pm (.lst (M0.map V.int)) = H3 at e3
      have hf3 : H3 pf = some (.lst (W.map V.int)) := by rw [← hH3, upd_ne nfm]; exact hf2
      have hm3 : H3 pm = some (.lst (M0.map V.int)) := by rw [← hH3]; exact upd_same
      -- for ahead, weight in enumerate(found)
      refine ⟨_, rfl, pf, _, rfl, SqL.of hf3, ?_⟩
      refine for_it (walk_enum (xs := W.map V.int)) (fun a σ H' => ∃ (M : List Int) (y4 y5 y6 y7 : Option V), σ = [some (.ref b), some (.ref pf), some (.ref p), some (.ref pm), y4, y5, y6, y7] ∧ Same H H' ∧ H' pf = some (.lst (W.map V.int)) ∧ H' pm = some (.lst (M.map V.int)) ∧ Mo W one a 0 0 M)
        ⟨M0, _, _, _, _, rfl, e3, hf3, hm3, mo0⟩ (fun a σ H' _ ⟨_, _, _, _, _, _, _, hf', _⟩ => SqL.of hf') ?_ ?_
      · rintro a x σ H4 H5 ha ⟨M, y4, y5, y6, y7, rfl, e4, hf4, hm4, mo⟩ ⟨t, x1, x2, rfl, nt, rfl, g1, g2⟩
        obtain ⟨u, hu, rfl⟩ := map_get g2
        obtain rfl : V.int (a : Nat) = x1 := Option.some.inj g1
        have u0 := cv.nn u (List.mem_of_getElem? hu)
        refine ⟨t, _, rfl, SqT.of upd_same, rfl, _, _, rfl, _, _, rfl, rfl, ?_⟩
        have e5 := sThen (o := .tup [V.int (a : Nat), V.int u]) e4 nt
        generalize hH5 : upd H4 t (.tup [V.int (a : Nat), V.int u]) = H5 at e5
        have hf5 : H5 pf = some (.lst (W.map V.int)) := by rw [← hH5, upd_ne (ne_of_none hf4 nt)]; exact hf4
        have hm5 : H5 pm = some (.lst (M.map V.int)) := by rw [← hH5, upd_ne (ne_of_none hm4 nt)]; exact hm4
        -- for fall, other in enumerate(one)
        refine ⟨_, rfl, p, _, rfl, sameT e5 h1, ?_⟩
        refine for_it (walk_enumT (xs := one.map V.int)) (fun c σ H' => ∃ (M : List Int) (y6 y7 : Option V), σ = [some (.ref b), some (.ref pf), some (.ref p), some (.ref pm), some (.int (a : Nat)), some (.int u), y6, y7] ∧ Same H H' ∧ H' pf = some (.lst (W.map V.int)) ∧ H' pm = some (.lst (M.map V.int)) ∧ Mo W one a c u M)
          ⟨M, _, _, rfl, e5, hf5, hm5, mo_begin mo⟩ (fun c σ H' _ ⟨_, _, _, _, e', _⟩ => sameT e' h1) ?_ ?_
        · rintro c x σ H6 H7 hc ⟨N, y6, y7, rfl, e6, hf6, hm6, mo'⟩ ⟨t', x1, x2, rfl, nt', rfl, g1, g2⟩
          obtain ⟨o, hoo, rfl⟩ := map_get g2
          obtain rfl : V.int (c : Nat) = x1 := Option.some.inj g1
          have oB := O.w o (List.mem_of_getElem? hoo)
          refine ⟨t', _, rfl, SqT.of upd_same, rfl, _, _, rfl, _, _, rfl, rfl, ?_⟩
          have e7 := sThen (o := .tup [V.int (c : Nat), V.int o]) e6 nt'
          have hm7 : upd H6 t' (.tup [V.int (c : Nat), V.int o]) pm = some (.lst (N.map V.int)) := by rw [upd_ne (ne_of_none hm6 nt')]; exact hm6
          have hf7 : upd H6 t' (.tup [V.int (c : Nat), V.int o]) pf = some (.lst (W.map V.int)) := by rw [upd_ne (ne_of_none hf6 nt')]; exact hf6
          have la := len_of hu
          have lc := len_of hoo
          have lN := mo'.len
          have ln : a + c < N.length := by omega
          obtain ⟨y, hy⟩ : ∃ y, N[a + c]? = some y := ⟨N[a + c], List.getElem?_eq_getElem ln⟩
          have ia : ((a : Int) + (c : Int)) = ((a + c : Nat) : Int) := by omega
          have gy : atI (N.map V.int) ((a : Int) + (c : Int)) = some (.int y) := by
            rw [ia]
            exact atI_nat (by rw [List.getElem?_map, hy]; rfl)
          refine ⟨_, rfl, _, rfl, _, rfl, _, _, rfl, rfl, pm, _, _, _, rfl, rfl, SqL.of hm7, gy, _, rfl, _, rfl, _, _, rfl, rfl, .inr ⟨by omega, by omega⟩, _, _, rfl, rfl, ?_⟩
          refine ⟨_, rfl, _, rfl, _, rfl, _, _, rfl, rfl, pm, _, _, a + c, rfl, rfl, hm7, ?_, ?_⟩
          · rw [ia, len_map]
            unfold ixN
            rw [if_pos (by omega), if_pos (by omega), Int.toNat_natCast]
          · refine ⟨N.set (a + c) (y + u * o), _, _, rfl, sPut e7 nmH, ?_, ?_, mo_turn mo' hoo hy u0 oB.1⟩
            · rw [upd_ne nfm]; exact hf7
            · rw [upd_same, List.map_set]
        · rintro σ H6 ⟨N, y6, y7, rfl, e6, hf6, hm6, mo'⟩
          rw [len_map] at mo'
          exact ⟨N, _, _, _, _, rfl, e6, hf6, hm6, mo_end mo' hu⟩
      · rintro σ H4 ⟨M, y4, y5, y6, y7, rfl, e4, hf4, hm4, mo⟩
        rw [len_map] at mo
        refine ⟨_, rfl, pm, M, _, _, _, _, _, _, rfl, e4, nmH, hm4, ?_⟩
        rw [take_more ho]
        exact cv_turn cv mo ol
    · rintro σ H1 ⟨pf, W, y2, y3, y4, y5, y6, y7, rfl, e1, nf, hf, cv⟩
      have el : (ps.map V.ref).length = F.length := by rw [List.length_map]; exact pLen pr
      rw [el, List.take_length] at cv
      exact ⟨_, rfl, q H1 pf W e1 hf cv⟩
end
end TW
/-! mean_day, mean_end, mean_next, cheapest -/
namespace TW
open PySem PySem.Spec PyProof.Rows L2 TM
abbrev sMday : Stmt := topS 20
abbrev sMend : Stmt := topS 21
abbrev sMnext : Stmt := topS 22
abbrev sCheap : Stmt := topS 23
def spMday (K : PySem.W.Frag) : Sp := fun vs H Q _ => ∃ (a b : Addr) (S : Shop) (F : List (List Int)) (l : Int), vs = [.ref a, .ref b, .int l] ∧ ShopAt K H a S ∧ SB S ∧ Fls K H b F ∧ FB F ∧ ∀ H' p, Same H H' → Sh K H' p (mday S F l) → Q (.ref p) H'
def spMend (K : PySem.W.Frag) : Sp := fun vs H Q _ => ∃ (a b : Addr) (S : Shop) (F : List (List Int)) (l : Int), vs = [.ref a, .ref b, .int l] ∧ ShopAt K H a S ∧ SB S ∧ Fls K H b F ∧ FB F ∧ ∀ H' p, Same H H' → Sh K H' p (mend S F l) → Q (.ref p) H'
/-- at d a dict whose whole numbers l have a share that val tells, where ok -/
structure DictA (K : PySem.W.Frag) (H : Hp) (d : Addr) (val : Int → Rat) (D : Int) (ok : Int → Prop) : Prop where
  ex : ∃ kvs : List (Key × V), H d = some (.dK kvs) ∧ ∀ l, ok l → ∃ c, valV kvs (Sum.inl l : Key) = some (.ref c) ∧ Sh K H c (val l) ∧ Fits D (val l)
theorem DictA.same {K : PySem.W.Frag} {H H' : Hp} {d : Addr} {val : Int → Rat} {D : Int} {ok : Int → Prop} (h : DictA K H d val D ok) (e : Same H H') : DictA K H' d val D ok := by
  obtain ⟨kvs, h1, h2⟩ := h.ex
  refine ⟨kvs, e _ _ h1, fun l hl => ?_⟩
  obtain ⟨c, a, b, z⟩ := h2 l hl
  exact ⟨c, a, b.same e, z⟩
def spMnext (K : PySem.W.Frag) : Sp := fun vs H Q _ => ∃ (a d : Addr) (one : List Int) (cost : Int → Rat) (D l : Int), vs = [.ref a, .ref d, .int l] ∧ IntT K H a one ∧ DayB one ∧ 0 < D ∧ D * one.sum < 2 ^ 64 ∧
  DictA K H d cost D (fun x => ∃ (j : Nat) (w : Int), one[j]? = some w ∧ 0 < w ∧ x = l - j) ∧ ∀ H' p, Same H H' → Sh K H' p (mnext one cost l) → Q (.ref p) H'
def spCheap (K : PySem.W.Frag) : Sp := fun vs H Q _ => ∃ (a d : Addr) (S : Shop) (own : Int → Rat) (D st : Int), vs = [.ref a, .ref d, .int st] ∧ ShopAt K H a S ∧ SB S ∧ st ≤ S.top ∧ -1000 ≤ st ∧ 0 < D ∧ D < 2 ^ 64 ∧
  DictA K H d own D (fun l => st ≤ l ∧ l ≤ S.top) ∧ ∀ H' p, Same H H' → Pr K H' p (bestTo (fun l => ((od S (l - st) : Int) : Rat) + own l) st (S.top - st).toNat) → Q (.ref p) H'
theorem share_mul {q : Rat} {w n : Int} (h : 0 < n) : ((q.num * w : Int) : Rat) / (((q.den : Int) * n : Int) : Rat) = q * (w : Rat) / (n : Rat) := by
  have h1 := rcast_ne (den_pos q)
  have h2 := rcast_ne h
  have e := rat_eq q
  rw [Rat.intCast_mul, Rat.intCast_mul]
  generalize (q.num : Rat) = a at *
  generalize ((q.den : Int) : Rat) = c at *
  rw [← e]
  grind
theorem fits_mul {q : Rat} {w n D : Int} (h : Fits D q) (hn : 0 < n) : Fits (D * n) (q * (w : Rat) / (n : Rat)) := by
  obtain ⟨N, hN⟩ := h
  have h2 := rcast_ne hn
  refine ⟨N * w, ?_⟩
  rw [Rat.intCast_mul, Rat.intCast_mul, ← hN]
  grind
theorem over1 (n : Int) : ((n : Int) : Rat) / (((1 : Int) : Int) : Rat) = (n : Rat) := by
  show (n : Rat) / (1 : Rat) = (n : Rat)
  grind
section
variable {P : Program} {w : World} {K : PySem.W.Frag} {mg : Str → Option Value} {base : Heap}
theorem scMday : FnScope ["shop", "falls", "level", "weights", "costs", "fall", "weight"] ["shop", "falls", "level"] (defScope sMday) := ⟨rfl, rfl, rfl, by decide +kernel, rfl, by decide +kernel, by decide +kernel⟩
theorem ok_mday {f : Addr} {fd : FuncData} (F : Fun K "mean_day" "mean_day" sMday f fd) (T : Blt mg) (C1 : Cal P w K mg base 1 "together" ["falls"] (spTog K)) (C2 : Cal P w K mg base 2 "day_cost" ["shop", "level", "fall"] (spDay K))
    (C3 : Cal P w K mg base 2 "share" ["top", "bottom"] (spShare K)) : FnOk P w K mg base CX0 3 f fd ["shop", "falls", "level"] (spMday K) := by
  refine F.ok scMday (fun vs H Q E h => ?_) (fun cdv A outer s H vs Q E hr h => ?_)
  · obtain ⟨a, b, S, F, l, rfl, _⟩ := h
    rfl
  · obtain ⟨a, b, S, F, l, rfl, ha, B, hb, FB', q⟩ := h
    refine ⟨_, pss_cons (ps_set (i := 3) scMday.nd rfl (.inl rfl) (pe_cal C1 hr (by decide) rfl (pa_cons (pv 1) pa_nil)))
      (pss_cons (ps_setLc (i := 4) (own := [("fall", 5), ("weight", 6)]) (g := gPair K 5 6) rfl scMday.nd rfl rfl (sw_true rfl rfl rfl (by decide +kernel)) (pi_enum (by rfl) T.enum (pa_cons (pv 3) pa_nil))
        (blkOk_by (N := ["shop", "falls", "level", "weights", "costs", "fall", "weight"]) (sc := defScope sMday) (by decide +kernel))
        (fun _ _ _ _ _ => pg_pair (i := 5) (j := 6) rfl scMday.nd rfl rfl (Or.inl rfl) (Or.inl rfl) (Or.inr rfl) (Or.inr rfl)) (fun _ _ _ _ _ => pts_nil)
        (fun _ _ _ _ _ => pe_op op_mul (pv 6) (pe_cal C2 hr (by decide) rfl (pa_cons (pv 0) (pa_cons (pv 2) (pa_cons (pv 5) pa_nil))))))
      (pss_one (ps_ret (pe_cal C3 hr (by decide) rfl (pa_cons (pe_callB (r := rSum K) (cr_sum rfl) (by rfl) T.sum boot_sum' (pa_cons (pv 4) pa_nil)) (pa_cons (pe_callB (r := rSum K) (cr_sum rfl) (by rfl) T.sum boot_sum' (pa_cons (pv 3) pa_nil)) pa_nil)))))), ?_⟩
    refine ⟨_, rfl, b, F, rfl, hb, FB', fun H1 p W e1 hp cv => ?_⟩
    have le := cv_le cv
    have tb := FB'.TI
    have wl := cv.len
    have fl := FB'.len
    refine ⟨_, rfl, p, _, rfl, SqL.of hp, fun D nD => ?_⟩
    have nDH := Same.free e1 nD
    refine lc_it (walk_enum (xs := W.map V.int)) (fun i H' => Same H H' ∧ H' p = some (.lst (W.map V.int)) ∧ H' D = some (.lst ((mapI (fun k w => w * dc S l k) 0 (W.take i)).map V.int)))
      ⟨sThen e1 nD, by rw [upd_ne (ne_of_none hp nD)]; exact hp, upd_same⟩ (fun i H' _ h => SqL.of h.2.1) ?_ ?_
    · rintro i x H2 H3 hi ⟨e2, hp2, hD⟩ ⟨t, x1, x2, rfl, nt, rfl, g1, g2⟩
      obtain ⟨z, hz, rfl⟩ := map_get g2
      obtain rfl : V.int (i : Nat) = x1 := Option.some.inj g1
      have zB := le z (List.mem_of_getElem? hz)
      refine ⟨t, _, rfl, SqT.of upd_same, rfl, _, _, rfl, _, _, rfl, rfl, rfl, tyes ?_⟩
      have e3 := sThen (o := .tup [V.int (i : Nat), V.int z]) e2 nt
      refine ⟨_, rfl, _, rfl, _, rfl, _, rfl, a, S, l, (i : Int), rfl, ha.same e3, B, _, _, rfl, rfl, .inl ⟨by omega, by omega⟩, ?_⟩
      have pDp : p ≠ D := ne_of_none hp nD
      refine ⟨_, by rw [upd_ne (ne_of_none hD nt)]; exact hD, ?_, sPut e3 nDH, ?_, ?_⟩
      · rw [len_map, mapI_len, List.length_take]
        exact small1000 (by omega)
      · rw [upd_ne pDp, upd_ne (ne_of_none hp2 nt)]
        exact hp2
      · rw [upd_same, take_more hz, mapI_snoc, List.length_take, Nat.min_eq_left (Nat.le_of_lt (len_of hz)), Int.zero_add, List.map_append]
        rfl
    · rintro H2 ⟨e2, hp2, hD⟩
      rw [len_map, List.take_length] at hD
      refine ⟨_, rfl, D, _, rfl, SqL.of hD, _, rfl, p, _, rfl, SqL.of hp2, ?_⟩
      refine ⟨_, _, rfl, by rw [cv_sum cv]; exact tb.1, by rw [cv_sum cv]; omega, fun H3 p3 e3 sh => ?_⟩
      rw [cv_day cv] at sh
      exact q H3 p3 (e2.trans e3) sh
theorem scMend : FnScope ["shop", "falls", "level", "weights", "costs", "fall", "weight"] ["shop", "falls", "level"] (defScope sMend) := ⟨rfl, rfl, rfl, by decide +kernel, rfl, by decide +kernel, by decide +kernel⟩
theorem ok_mend {f : Addr} {fd : FuncData} (F : Fun K "mean_end" "mean_end" sMend f fd) (T : Blt mg) (C1 : Cal P w K mg base 1 "together" ["falls"] (spTog K)) (C2 : Cal P w K mg base 1 "end_cost" ["shop", "stock"] (spEnd K)) (C4 : Cal P w K mg base 1 "next_stock" ["shop", "level", "fall"] (spNext K))
    (C3 : Cal P w K mg base 2 "share" ["top", "bottom"] (spShare K)) : FnOk P w K mg base CX0 3 f fd ["shop", "falls", "level"] (spMend K) := by
  refine F.ok scMend (fun vs H Q E h => ?_) (fun cdv A outer s H vs Q E hr h => ?_)
  · obtain ⟨a, b, S, F, l, rfl, _⟩ := h
    rfl
  · obtain ⟨a, b, S, F, l, rfl, ha, B, hb, FB', q⟩ := h
    refine ⟨_, pss_cons (ps_set (i := 3) scMend.nd rfl (.inl rfl) (pe_cal C1 hr (by decide) rfl (pa_cons (pv 1) pa_nil)))
      (pss_cons (ps_setLc (i := 4) (own := [("fall", 5), ("weight", 6)]) (g := gPair K 5 6) rfl scMend.nd rfl rfl (sw_true rfl rfl rfl (by decide +kernel)) (pi_enum (by rfl) T.enum (pa_cons (pv 3) pa_nil))
        (blkOk_by (N := ["shop", "falls", "level", "weights", "costs", "fall", "weight"]) (sc := defScope sMend) (by decide +kernel))
        (fun _ _ _ _ _ => pg_pair (i := 5) (j := 6) rfl scMend.nd rfl rfl (Or.inl rfl) (Or.inl rfl) (Or.inr rfl) (Or.inr rfl)) (fun _ _ _ _ _ => pts_nil)
        (fun _ _ _ _ _ => pe_op op_mul (pv 6) (pe_cal C2 hr (by decide) rfl (pa_cons (pv 0) (pa_cons (pe_cal C4 hr (by decide) rfl (pa_cons (pv 0) (pa_cons (pv 2) (pa_cons (pv 5) pa_nil)))) pa_nil)))))
      (pss_one (ps_ret (pe_cal C3 hr (by decide) rfl (pa_cons (pe_callB (r := rSum K) (cr_sum rfl) (by rfl) T.sum boot_sum' (pa_cons (pv 4) pa_nil)) (pa_cons (pe_callB (r := rSum K) (cr_sum rfl) (by rfl) T.sum boot_sum' (pa_cons (pv 3) pa_nil)) pa_nil)))))), ?_⟩
    refine ⟨_, rfl, b, F, rfl, hb, FB', fun H1 p W e1 hp cv => ?_⟩
    have le := cv_le cv
    have tb := FB'.TI
    have wl := cv.len
    have fl := FB'.len
    refine ⟨_, rfl, p, _, rfl, SqL.of hp, fun D nD => ?_⟩
    have nDH := Same.free e1 nD
    refine lc_it (walk_enum (xs := W.map V.int)) (fun i H' => Same H H' ∧ H' p = some (.lst (W.map V.int)) ∧ H' D = some (.lst ((mapI (fun k w => w * ec S (nst S l k)) 0 (W.take i)).map V.int)))
      ⟨sThen e1 nD, by rw [upd_ne (ne_of_none hp nD)]; exact hp, upd_same⟩ (fun i H' _ h => SqL.of h.2.1) ?_ ?_
    · rintro i x H2 H3 hi ⟨e2, hp2, hD⟩ ⟨t, x1, x2, rfl, nt, rfl, g1, g2⟩
      obtain ⟨z, hz, rfl⟩ := map_get g2
      obtain rfl : V.int (i : Nat) = x1 := Option.some.inj g1
      have zB := le z (List.mem_of_getElem? hz)
      refine ⟨t, _, rfl, SqT.of upd_same, rfl, _, _, rfl, _, _, rfl, rfl, rfl, tyes ?_⟩
      have e3 := sThen (o := .tup [V.int (i : Nat), V.int z]) e2 nt
      refine ⟨_, rfl, _, rfl, _, rfl, _, rfl, _, rfl, a, S, l, (i : Int), rfl, ha.same e3, a, S, _, rfl, ha.same e3, B, _, _, rfl, rfl, .inl ⟨by omega, by omega⟩, ?_⟩
      have pDp : p ≠ D := ne_of_none hp nD
      refine ⟨_, by rw [upd_ne (ne_of_none hD nt)]; exact hD, ?_, sPut e3 nDH, ?_, ?_⟩
      · rw [len_map, mapI_len, List.length_take]
        exact small1000 (by omega)
      · rw [upd_ne pDp, upd_ne (ne_of_none hp2 nt)]
        exact hp2
      · rw [upd_same, take_more hz, mapI_snoc, List.length_take, Nat.min_eq_left (Nat.le_of_lt (len_of hz)), Int.zero_add, List.map_append]
        rfl
    · rintro H2 ⟨e2, hp2, hD⟩
      rw [len_map, List.take_length] at hD
      refine ⟨_, rfl, D, _, rfl, SqL.of hD, _, rfl, p, _, rfl, SqL.of hp2, ?_⟩
      refine ⟨_, _, rfl, by rw [cv_sum cv]; exact tb.1, by rw [cv_sum cv]; omega, fun H3 p3 e3 sh => ?_⟩
      rw [cv_end cv] at sh
      exact q H3 p3 (e2.trans e3) sh
end
end TW
/-! mean_next, cheapest -/
namespace TW
open PySem PySem.Spec PyProof.Rows L2 TM
abbrev mnx (one : List Int) (cost : Int → Rat) (l : Int) : Int → Int → Rat := fun f w => if 0 < w then cost (l - f) * w / (one.sum : Int) else 0
theorem start_zero : ((0 : Int) : Rat) / (((1 : Int) : Int) : Rat) = 0 := by
  rw [over1]
  rfl
section
variable {P : Program} {w : World} {K : PySem.W.Frag} {mg : Str → Option Value} {base : Heap}
theorem scMnext : FnScope ["one", "costs", "level", "found", "fall", "weight", "top", "bottom"] ["one", "costs", "level"] (defScope sMnext) := ⟨rfl, rfl, rfl, by decide +kernel, rfl, by decide +kernel, by decide +kernel⟩
theorem ok_mnext {f : Addr} {fd : FuncData} (F : Fun K "mean_next" "mean_next" sMnext f fd) (T : Blt mg) (C3 : Cal P w K mg base 2 "share" ["top", "bottom"] (spShare K)) (C4 : Cal P w K mg base 3 "plus" ["one", "other"] (spPlus K)) :
    FnOk P w K mg base CX0 4 f fd ["one", "costs", "level"] (spMnext K) := by
  refine F.ok scMnext (fun vs H Q E h => ?_) (fun cdv A outer s H vs Q E hr h => ?_)
  · obtain ⟨a, d, one, cost, D, l, rfl, _⟩ := h
    rfl
  · obtain ⟨a, d, one, cost, D, l, rfl, ha, O, D0, DB, dict, q⟩ := h
    have hu := hu_of hr
    have sm := O.sum
    refine ⟨_, pss_cons (ps_set (i := 3) scMnext.nd rfl (.inl rfl) (pe_cal C3 hr (by decide) rfl (pa_cons pe_int (pa_cons pe_int pa_nil))))
      (pss_cons (ps_for PassesOwn.never rfl (pi_enumT (by rfl) T.enum (pa_cons (pv 0) pa_nil)) (pg_pair (i := 4) (j := 5) rfl scMnext.nd rfl rfl (Or.inl rfl) (Or.inl rfl) (Or.inl rfl) (Or.inl rfl))
        (pss_one (ps_if (pt_cmpR op_gt (pv 5) pe_int (nomark _))
          (pss_cons (ps_asg (pe_dget hu (pv 1) (pe_op op_sub (pv 2) (pv 4)) (fun _ _ => rfl)) (pg_pair (i := 6) (j := 7) rfl scMnext.nd rfl rfl (Or.inl rfl) (Or.inl rfl) (Or.inl rfl) (Or.inl rfl)))
          (pss_one (ps_set (i := 3) scMnext.nd rfl (.inl rfl) (pe_cal C4 hr (by decide) rfl (pa_cons (pv 3) (pa_cons (pe_cal C3 hr (by decide) rfl (pa_cons (pe_op op_mul (pv 6) (pv 5))
            (pa_cons (pe_op op_mul (pv 7) (pe_callB (r := rSumT K) (cr_sumT rfl) (by rfl) T.sum boot_sum' (pa_cons (pv 0) pa_nil))) pa_nil))) pa_nil)))))) pss_nil)))
      (pss_one (ps_ret (pv 3)))), ?_⟩
    refine ⟨0, 1, rfl, by decide, by decide, fun H1 p1 e1 s1 => ?_⟩
    rw [start_zero] at s1
    refine ⟨_, rfl, a, _, rfl, sameT e1 ha, ?_⟩
    have DS : 0 < D * one.sum := Int.mul_pos D0 sm.1
    have fit : ∀ i : Nat, Fits (D * one.sum) (sI (mnx one cost l) 0 (one.take i)) := fun i => Fits.sI fun j w e => by
      have ej : one[j]? = some w := by
        rw [List.getElem?_take] at e
        split at e
        · exact e
        · cases e
      unfold mnx
      split
      · rename_i hw
        obtain ⟨kvs, _, h2⟩ := dict.ex
        obtain ⟨_, _, _, fz⟩ := h2 (l - (j : Int)) ⟨j, w, ej, hw, rfl⟩
        rw [show (0 : Int) + (j : Int) = (j : Int) by omega]
        exact fits_mul fz sm.1
      · exact Fits.zero _
    refine for_it (walk_enumT (xs := one.map V.int)) (fun i σ H' => ∃ (p : Addr) (y4 y5 y6 y7 : Option V), σ = [some (.ref a), some (.ref d), some (.int l), some (.ref p), y4, y5, y6, y7] ∧ Same H H' ∧ Sh K H' p (sI (mnx one cost l) 0 (one.take i)))
      ⟨p1, _, _, _, _, rfl, e1, s1⟩ (fun i σ H' _ ⟨_, _, _, _, _, _, e, _⟩ => sameT e ha) ?_ ?_
    · rintro i x σ H2 H3 hi ⟨p, y4, y5, y6, y7, rfl, e2, sh⟩ ⟨t, x1, x2, rfl, nt, rfl, g1, g2⟩
      obtain ⟨z, hz, rfl⟩ := map_get g2
      obtain rfl : V.int (i : Nat) = x1 := Option.some.inj g1
      have zB := O.w z (List.mem_of_getElem? hz)
      have e3 := sThen (o := .tup [V.int (i : Nat), V.int z]) e2 nt
      have sh3 := sh.same (same_upd (o := .tup [V.int (i : Nat), V.int z]) nt)
      refine ⟨t, _, rfl, SqT.of upd_same, rfl, _, _, rfl, _, _, rfl, rfl, ?_⟩
      generalize upd H2 t (.tup [V.int (i : Nat), V.int z]) = H3 at e3 sh3
      have fi := fit (i + 1)
      rw [take_more hz, sI_snoc, List.length_take, Nat.min_eq_left (Nat.le_of_lt (len_of hz)), Int.zero_add] at fi
      have nxt : sI (mnx one cost l) 0 (one.take (i + 1)) = sI (mnx one cost l) 0 (one.take i) + mnx one cost l i z := by
        rw [take_more hz, sI_snoc, List.length_take, Nat.min_eq_left (Nat.le_of_lt (len_of hz)), Int.zero_add]
      refine ⟨_, rfl, _, _, rfl, rfl, _, rfl, ite2 (fun c => ?_) (fun c => ?_)⟩
      · have hp : 0 < z := of_decide_eq_true c
        obtain ⟨kvs, hk, h2⟩ := (dict.same e3).ex
        obtain ⟨cc, v1, v2, v3⟩ := h2 (l - (i : Int)) ⟨i, z, hz, hp, rfl⟩
        have pd := den_pos (cost (l - (i : Int)))
        have pB := v3.den D0
        have DD : D < 2 ^ 64 := by
          have := Int.mul_le_mul_of_nonneg_left (show (1 : Int) ≤ one.sum by omega) (Int.le_of_lt D0)
          omega
        refine ⟨_, rfl, _, rfl, _, rfl, _, _, rfl, rfl, d, .ref cc, rfl, by rw [← v1]; exact DGet.k (k := Sum.inl (l - (i : Int))) hk, ?_⟩
        refine ⟨cc, _, rfl, v2, rfl, _, _, rfl, _, _, rfl, rfl, ?_⟩
        refine ⟨_, rfl, _, rfl, _, rfl, _, _, rfl, rfl, .inr ⟨by omega, by omega⟩, _, rfl, _, rfl, a, one, rfl, sameT e3 ha, _, _, rfl, rfl, .inr ⟨by omega, by omega⟩, ?_⟩
        refine ⟨_, _, rfl, Int.mul_pos pd sm.1, ?_, fun H4 p4 e4 sh4 => ?_⟩
        · have m := Int.mul_le_mul (show ((cost (l - (i : Int))).den : Int) ≤ 2 ^ 64 by omega) (show one.sum ≤ 8000 by omega) (by omega) (by decide)
          have m2 : (2 : Int) ^ 64 * 8000 < 2 ^ 200 := by decide
          omega
        · rw [share_mul sm.1] at sh4
          have f4 := fits_mul (w := z) (n := one.sum) v3 sm.1
          refine ⟨p, p4, _, _, rfl, sh3.same e4, sh4, ?_, ?_, fun H5 p5 e5 sh5 => ?_⟩
          · have := (fit i).den DS; omega
          · have := f4.den DS; omega
          · refine ⟨p5, _, _, _, _, rfl, (e3.trans e4).trans e5, ?_⟩
            rw [nxt]
            have ez : mnx one cost l i z = cost (l - (i : Int)) * (z : Rat) / (one.sum : Int) := if_pos hp
            rw [ez]
            exact sh5
      · refine ⟨p, _, _, _, _, rfl, e3, ?_⟩
        have ez : mnx one cost l i z = 0 := if_neg fun y => c (decide_eq_true y)
        rw [nxt, ez, Rat.add_zero]
        exact sh3
    · rintro σ H2 ⟨p, y4, y5, y6, y7, rfl, e2, sh⟩
      rw [len_map, List.take_length] at sh
      exact ⟨_, rfl, q H2 p e2 sh⟩
theorem scCheap : FnScope ["shop", "own", "stock", "best", "level", "cost"] ["shop", "own", "stock"] (defScope sCheap) := ⟨rfl, rfl, rfl, by decide +kernel, rfl, by decide +kernel, by decide +kernel⟩
theorem ok_cheap {f : Addr} {fd : FuncData} (F : Fun K "cheapest" "cheapest" sCheap f fd) (T : Blt mg) (C1 : Cal P w K mg base 1 "order_cost" ["shop", "stock", "level"] (spOrder K)) (C2 : Cal P w K mg base 1 "below" ["one", "other"] (spBelow K))
    (C3 : Cal P w K mg base 2 "share" ["top", "bottom"] (spShare K)) (C4 : Cal P w K mg base 3 "plus" ["one", "other"] (spPlus K)) : FnOk P w K mg base CX0 4 f fd ["shop", "own", "stock"] (spCheap K) := by
  refine F.ok scCheap (fun vs H Q E h => ?_) (fun cdv A outer s H vs Q E hr h => ?_)
  · obtain ⟨a, d, S, own, D, st, rfl, _⟩ := h
    rfl
  · obtain ⟨a, d, S, own, D, st, rfl, ha, B, hst, hlo, D0, DB, dict, q⟩ := h
    have hu := hu_of hr
    have tB := B.top
    refine ⟨_, pss_cons (ps_set (i := 3) scCheap.nd rfl (.inl rfl) pe_non)
      (pss_cons (ps_for PassesOwn.never rfl (pi_range2 (by rfl) T.range (pa_cons (pv 2) (pa_cons (pe_op op_add (pe_ix ix_tup (pv 0) pe_int (fun _ _ => rfl)) pe_int) pa_nil))) (pg_name (i := 4) scCheap.nd rfl (.inl rfl))
        (pss_cons (ps_set (i := 5) scCheap.nd rfl (.inl rfl) (pe_cal C4 hr (by decide) rfl (pa_cons (pe_cal C3 hr (by decide) rfl (pa_cons (pe_cal C1 hr (by decide) rfl (pa_cons (pv 0) (pa_cons (pv 2) (pa_cons (pv 4) pa_nil)))) (pa_cons pe_int pa_nil)))
          (pa_cons (pe_dget hu (pv 1) (pv 4) (fun _ _ => rfl)) pa_nil))))
        (pss_one (ps_if (PW.pt (pw_or (pt_cmp (pc_isN (pv 3))) (pw_or1 (pt_val (pe_cal C2 hr (by decide) rfl (pa_cons (pv 5) (pa_cons (pe_ix ix_tup (pv 3) pe_int (fun _ _ => rfl)) pa_nil)))))))
          (pss_one (ps_set (i := 3) scCheap.nd rfl (.inl rfl) (pe_tup (pa_cons (pv 5) (pa_cons (pv 4) pa_nil))))) pss_nil))))
      (pss_one (ps_ret (pv 3)))), ?_⟩
    refine ⟨_, rfl, _, rfl, a, _, 0, .int S.top, rfl, rfl, ha, rfl, _, _, rfl, rfl, st, S.top + 1, rfl, ⟨by omega, by omega, by omega, by omega⟩, ?_⟩
    generalize hval : (fun l => ((od S (l - st) : Int) : Rat) + own l) = val at q
    have fval : ∀ l, st ≤ l → l ≤ S.top → Fits D (val l) := fun l h1 h2 => by
      obtain ⟨kvs, _, h3⟩ := dict.ex
      obtain ⟨_, _, _, z⟩ := h3 l ⟨h1, h2⟩
      rw [← hval]
      exact (Fits.int D _).add z
    have fbest : ∀ k : Nat, st + (k : Int) ≤ S.top → Fits D (bestTo val st k).1 := fun k hk => by
      obtain ⟨b1, b2, b3, _⟩ := bestTo_spec val st k
      rw [b1]
      exact fval _ b2 (by omega)
    refine for_it (walk_range (lo := st) (n := (S.top + 1 - st).toNat)) (fun i σ H' => ∃ (v : V) (y4 y5 : Option V), σ = [some (.ref a), some (.ref d), some (.int st), some v, y4, y5] ∧ Same H H' ∧ ((i = 0 ∧ v = .non) ∨ ∃ (k : Nat) (p : Addr), i = k + 1 ∧ v = .ref p ∧ Pr K H' p (bestTo val st k)))
      ⟨.non, _, _, rfl, .refl H, .inl ⟨rfl, rfl⟩⟩ (fun _ _ _ _ _ => trivial) ?_ ?_
    · rintro i x σ H2 H3 hi ⟨v, y4, y5, rfl, e2, hv⟩ ⟨rfl, rfl⟩
      have il : st + (i : Int) ≤ S.top := by omega
      obtain ⟨kvs, hk, h2⟩ := (dict.same e2).ex
      obtain ⟨cc, v1, v2, v3⟩ := h2 (st + (i : Int)) ⟨by omega, il⟩
      refine ⟨_, rfl, _, rfl, _, rfl, a, S, st, st + (i : Int), rfl, ha.same e2, B, by omega, ?_⟩
      refine ⟨_, _, rfl, by decide, by decide, fun H4 p4 e4 sh4 => ?_⟩
      rw [over1] at sh4
      have hk4 := e4 _ _ hk
      refine ⟨_, rfl, _, rfl, d, .ref cc, rfl, by rw [← v1]; exact DGet.k (k := Sum.inl (st + (i : Int))) hk4, ?_⟩
      have ov : ((od S (st + (i : Int) - st) : Int) : Rat) + own (st + (i : Int)) = val (st + (i : Int)) := by rw [← hval]
      refine ⟨p4, cc, _, _, rfl, sh4, v2.same e4, ?_, ?_, fun H5 p5 e5 sh5 => ?_⟩
      · have := (Fits.int 1 (od S (st + (i : Int) - st))).den (by decide); omega
      · have := v3.den D0; omega
      rw [ov] at sh5
      have e25 := (e2.trans e4).trans e5
      have fv := fval _ (by omega) il
      have put : ∀ k : Nat, i = k → bestTo val st k = (val (st + (i : Int)), st + (i : Int)) → ∀ p, H5 p = none → ∃ (v : V) (y4 y5 : Option V), [some (V.ref a), some (.ref d), some (.int st), some (.ref p), some (.int (st + (i : Int))), some (.ref p5)] = [some (.ref a), some (.ref d), some (.int st), some v, y4, y5] ∧
          Same H (upd H5 p (.tup [.ref p5, .int (st + (i : Int))])) ∧ ((i + 1 = 0 ∧ v = .non) ∨ ∃ (k : Nat) (p' : Addr), i + 1 = k + 1 ∧ v = .ref p' ∧ Pr K (upd H5 p (.tup [.ref p5, .int (st + (i : Int))])) p' (bestTo val st k)) := fun k ek eb p np => by
        refine ⟨_, _, _, rfl, sThen e25 np, .inr ⟨k, p, by omega, rfl, ?_⟩⟩
        rw [eb]
        exact ⟨p5, SqT.of upd_same, sh5.same (same_upd np)⟩
      refine ⟨_, rfl, _, rfl, ?_⟩
      rcases hv with ⟨rfl, rfl⟩ | ⟨k, p, rfl, rfl, c, b1, b2⟩
      · rw [decide_eq_true rfl]
        refine iteT (iteT ?_)
        refine ⟨_, rfl, _, rfl, (by show 2 ≤ sizeLine; decide), fun p np => ?_⟩
        exact put 0 rfl (by simp only [bestTo]; rw [show st + ((0 : Nat) : Int) = st by omega]) p np
      · rw [decide_eq_false (fun z => by cases z)]
        refine iteF ?_
        have e45 := e4.trans e5
        refine ⟨_, rfl, _, rfl, p, _, _, _, rfl, rfl, sameT e45 b1, (show atI [V.ref c, V.int _] 0 = some (.ref c) from rfl), p5, c, _, _, rfl, sh5, b2.same e45, ?_, ?_, ?_⟩
        · have := fv.den D0; omega
        · have := (fbest k (by omega)).den D0; omega
        refine ⟨_, rfl, ite2 (fun z => ?_) (fun z => ?_)⟩
        · have lt := of_decide_eq_true z
          refine ⟨_, rfl, _, rfl, (by show 2 ≤ sizeLine; decide), fun p' np => ?_⟩
          exact put (k + 1) rfl (by
            simp only [bestTo]
            rw [if_pos lt]) p' np
        · have nlt : ¬ val (st + ((k + 1 : Nat) : Int)) < (bestTo val st k).1 := fun y => z (decide_eq_true y)
          refine ⟨_, _, _, rfl, e25, .inr ⟨k + 1, p, rfl, rfl, ?_⟩⟩
          have eb : bestTo val st (k + 1) = bestTo val st k := by
            simp only [bestTo]
            rw [if_neg nlt]
          rw [eb]
          exact ⟨c, sameT e45 b1, b2.same e45⟩
    · rintro σ H2 ⟨v, y4, y5, rfl, e2, hv⟩
      rcases hv with ⟨z, _⟩ | ⟨k, p, ek, rfl, pr⟩
      · omega
      · obtain rfl : k = (S.top - st).toNat := by omega
        exact ⟨_, rfl, q H2 p e2 pr⟩
end
end TW
/-! short_table, least_late -/
namespace TW
open PySem PySem.Spec PyProof.Rows L2 TM
abbrev sShort : Stmt := topS 25
abbrev sLate : Stmt := topS 26
/-- what the program is asked with -/
structure Ask (S : Shop) (F : List (List Int)) (L : Nat) (stock : Int) : Prop where
  SB : SB S
  FB : FB F
  L : 0 < L ∧ L < F.length
  top : stock ≤ S.top
  free : gr F - S.depth ≤ stock
def spShort (K : PySem.W.Frag) : Sp := fun vs H Q _ => ∃ (a b : Addr) (S : Shop) (F : List (List Int)) (L : Nat) (stock : Int), vs = [.ref a, .ref b, .int (L : Int), .int stock] ∧ ShopAt K H a S ∧ Fls K H b F ∧ Ask S F L stock ∧
  ∀ H' p, Same H H' → TabA K H' p (tabOf S L F stock) → Q (.ref p) H'
def spLate (K : PySem.W.Frag) : Sp := fun vs H Q _ => ∃ (a b : Addr) (S : Shop) (F : List (List Int)) (L : Nat) (stock : Int), vs = [.ref a, .ref b, .int (L : Int), .int stock] ∧ ShopAt K H a S ∧ Fls K H b F ∧ Ask S F L stock ∧
  ∀ H' p, Same H H' → Sh K H' p (late S L F stock) → Q (.ref p) H'
/-! ### slices -/
theorem cutV_of {xs : List V} {lo hi : Option Int} {i j : Nat} (h1 : HT.sIx xs.length 0 lo = i) (h2 : HT.sIx xs.length xs.length hi = j) : cutV xs lo hi = (xs.drop i).take (j - i) := by
  unfold cutV
  rw [h1, h2]
theorem sl_tup_any {K : PySem.W.Frag} {H : Hp} {b : Addr} {xs : List V} {lo hi : Option Int} {Q : VK} (h : SqT K H b xs) {i j : Nat} (h1 : HT.sIx xs.length 0 lo = i) (h2 : HT.sIx xs.length xs.length hi = j)
    (k : ∀ H' p, Same H H' → SqT K H' p ((xs.drop i).take (j - i)) → Q (.ref p) H') : rSlA K (.ref b) lo hi H Q := by
  refine ⟨b, xs, rfl, h, fun ⟨e1, e2⟩ => k H b (.refl H) ?_, fun _ p np => k _ p (same_upd np) ?_⟩
  · rw [← h1, ← h2, e1, e2, List.drop_zero, Nat.sub_zero, List.take_length]
    exact h
  · rw [cutV_of h1 h2]
    exact SqT.of upd_same
theorem sl_fls {K : PySem.W.Frag} {H : Hp} {b : Addr} {F : List (List Int)} {lo hi : Option Int} {Q : VK} (h : Fls K H b F) {i j : Nat} (h1 : HT.sIx F.length 0 lo = i) (h2 : HT.sIx F.length F.length hi = j)
    (k : ∀ H' p, Same H H' → Fls K H' p ((F.drop i).take (j - i)) → Q (.ref p) H') : rSlA K (.ref b) lo hi H Q := by
  obtain ⟨ps, hb, pr⟩ := h
  have el : (ps.map V.ref).length = F.length := by rw [List.length_map]; exact pLen pr
  refine sl_tup_any hb (i := i) (j := j) (by rw [el]; exact h1) (by rw [el]; exact h2) fun H' p e hp => k H' p e ⟨(ps.drop i).take (j - i), ?_, pImp (pTake _ (pDrop _ pr)) fun _ _ q => sameT e q⟩
  rw [List.map_take, List.map_drop]
  exact hp
theorem sIx_lo {n k : Nat} (h : k ≤ n) : HT.sIx n 0 (some (k : Int)) = k := by
  rw [HT.sIx_nat]
  omega
theorem sIx_hi {n m : Nat} {k : Int} (h : k = (m : Int)) (hm : m ≤ n) : HT.sIx n n (some k) = m := by
  rw [h, HT.sIx_nat]
  omega
theorem fls_at {K : PySem.W.Frag} {H : Hp} {b : Addr} {F : List (List Int)} {t : Nat} {one : List Int} (h : Fls K H b F) (e : F[t]? = some one) : ∃ (xs : List V) (p : Addr), SqT K H b xs ∧ atI xs (t : Int) = some (.ref p) ∧ IntT K H p one := by
  obtain ⟨ps, hb, pr⟩ := h
  obtain ⟨p, hp, h1⟩ := pAt pr e
  exact ⟨_, p, hb, atI_nat (by rw [List.getElem?_map, hp]; rfl), h1⟩
theorem Fits.comm {a b : Int} {q : Rat} (h : Fits (a * b) q) : Fits (b * a) q := by rw [Int.mul_comm]; exact h
/-- put into a dict -/
theorem dict_put {K : PySem.W.Frag} {H H' : Hp} {d c : Addr} {kvs : List (Key × V)} {val : Int → Rat} {D l : Int} {ok : Int → Prop} (e : ∀ b o, H b = some o → b ≠ d → H' b = some o) (hd : H d = some (.dK kvs)) (hd' : H' d = some (.dK (putK kvs (Sum.inl l : Key) (.ref c))))
    (h : ∀ x, ok x → ∃ c, valV kvs (Sum.inl x : Key) = some (.ref c) ∧ Sh K H' c (val x) ∧ Fits D (val x)) (hc : Sh K H' c (val l)) (hf : Fits D (val l)) : DictA K H' d val D (fun x => ok x ∨ x = l) := by
  refine ⟨_, hd', fun x hx => ?_⟩
  rw [valV_put]
  by_cases z : x = l
  · subst z
    exact ⟨c, if_pos rfl, hc, hf⟩
  · obtain ⟨c', v1, v2, v3⟩ := h x (hx.resolve_right z)
    exact ⟨c', by rw [if_neg (fun y => z (Sum.inl.inj y)), v1], v2, v3⟩
/-- a dict is changed: the tuples stand -/
theorem sqT_put {K : PySem.W.Frag} {H : Hp} {d c : Addr} {kvs : List (Key × V)} {o : HO} {xs : List V} (hd : H d = some (.dK kvs)) (h : SqT K H c xs) : SqT K (upd H d o) c xs := by
  have ne : ∀ u, H c = some u → (∀ k, u ≠ .dK k) → c ≠ d := fun u hu k z => by
    rw [z, hd] at hu
    exact k _ (Option.some.inj hu).symm
  rcases h with (h | ⟨ob, h⟩) | h
  · exact .inl (.inl (by rw [upd_ne (ne _ h fun _ z => by cases z)]; exact h))
  · exact .inl (.inr ⟨ob, by rw [upd_ne (ne _ h fun _ z => by cases z)]; exact h⟩)
  · exact .inr h
theorem sqT_putL {K : PySem.W.Frag} {H : Hp} {d c : Addr} {l : List V} {o : HO} {xs : List V} (hd : H d = some (.lst l)) (h : SqT K H c xs) : SqT K (upd H d o) c xs := by
  have ne : ∀ u, H c = some u → (∀ k, u ≠ .lst k) → c ≠ d := fun u hu k z => by
    rw [z, hd] at hu
    exact k _ (Option.some.inj hu).symm
  rcases h with (h | ⟨ob, h⟩) | h
  · exact .inl (.inl (by rw [upd_ne (ne _ h fun _ z => by cases z)]; exact h))
  · exact .inl (.inr ⟨ob, by rw [upd_ne (ne _ h fun _ z => by cases z)]; exact h⟩)
  · exact .inr h
theorem fls_put {K : PySem.W.Frag} {H : Hp} {d c : Addr} {kvs : List (Key × V)} {o : HO} {F : List (List Int)} (hd : H d = some (.dK kvs)) (h : Fls K H c F) : Fls K (upd H d o) c F :=
  let ⟨ps, a, b⟩ := h
  ⟨ps, sqT_put hd a, pImp b fun _ _ q => sqT_put hd q⟩
theorem DictA.imp {K : PySem.W.Frag} {H : Hp} {d : Addr} {val : Int → Rat} {D : Int} {ok ok' : Int → Prop} (h : DictA K H d val D ok) (k : ∀ x, ok' x → ok x) : DictA K H d val D ok' := by
  obtain ⟨kvs, h1, h2⟩ := h.ex
  exact ⟨kvs, h1, fun l hl => h2 l (k l hl)⟩
section
variable {P : Program} {w : World} {K : PySem.W.Frag} {mg : Str → Option Value} {base : Heap}
abbrev nShort : List Str := ["shop", "falls", "days", "stock", "last", "found", "costs", "t", "least", "own", "level", "ahead", "row", "at", "cost", "one", "here"]
theorem scShort : FnScope nShort ["shop", "falls", "days", "stock"] (defScope sShort) := ⟨rfl, rfl, rfl, by decide +kernel, rfl, by decide +kernel, by decide +kernel⟩
theorem ok_short {f : Addr} {fd : FuncData} (F : Fun K "short_table" "short_table" sShort f fd) (T : Blt mg) (C1 : Cal P w K mg base 3 "need_free" ["shop", "falls", "stock"] (spNeed K)) (C2 : Cal P w K mg base 1 "greatest_fall" ["one"] (spGreat K))
    (C3 : Cal P w K mg base 3 "mean_day" ["shop", "falls", "level"] (spMday K)) (C4 : Cal P w K mg base 3 "plus" ["one", "other"] (spPlus K)) (C5 : Cal P w K mg base 3 "mean_end" ["shop", "falls", "level"] (spMend K))
    (C6 : Cal P w K mg base 4 "mean_next" ["one", "costs", "level"] (spMnext K)) (C7 : Cal P w K mg base 4 "cheapest" ["shop", "own", "stock"] (spCheap K)) : FnOk P w K mg base CX0 5 f fd ["shop", "falls", "days", "stock"] (spShort K) := by
  refine F.ok scShort (fun vs H Q E h => ?_) (fun cdv A outer s H vs Q E hr h => ?_)
  · obtain ⟨a, b, S, F, L, stock, rfl, _⟩ := h
    rfl
  · obtain ⟨a, b, S, F, L, stock, rfl, ha, hb, ask, q⟩ := h
    have hu := hu_of hr
    refine ⟨_, pss_cons (ps_expr (pe_cal C1 hr (by decide) rfl (pa_cons (pv 0) (pa_cons (pv 1) (pa_cons (pv 3) pa_nil)))))
      (pss_cons (ps_set (i := 4) scShort.nd rfl (.inl rfl) (pe_op op_sub (pe_op op_sub (pe_callB (r := rLenSeq K) call_len_seq (by rfl) T.len PySem.boot_len (pa_cons (pv 1) pa_nil)) pe_int) (pv 2)))
      (pss_cons (ps_set (i := 5) scShort.nd rfl (.inl rfl) (pe_lst pa_nil))
      (pss_cons (ps_set (i := 6) scShort.nd rfl (.inl rfl) pe_dnewK)
      (pss_cons (ps_for PassesOwn.never rfl (pi_range3 (by rfl) T.range (pa_cons (pv 4) (pa_cons (pe_un un_neg pe_int) (pa_cons (pe_un un_neg pe_int) pa_nil)))) (pg_name (i := 7) scShort.nd rfl (.inl rfl))
        (pss_cons (ps_set (i := 8) scShort.nd rfl (.inl rfl) (pe_op op_sub (pv 3) (pe_callB (r := rSum K) (cr_sum rfl) (by rfl) T.sum boot_sum' (pa_cons (pe_lc (own := [("one", 15)]) (g := gName 15) (tt := tYes) rfl scShort.nd (pi_tup (pe_slice sl_tupA (pv 1) po_none (po_some (pv 7))))
          (blkOk_by (N := nShort) (sc := defScope sShort) (by decide +kernel)) (fun _ _ _ _ _ => pg_name (i := 15) scShort.nd rfl (Or.inl rfl) (Or.inr rfl)) (fun _ _ _ _ _ => pts_nil) (fun _ _ _ _ _ => pe_cal C2 hr (by decide) rfl (pa_cons (pv 15) pa_nil))) pa_nil))))
        (pss_cons (ps_set (i := 9) scShort.nd rfl (.inr rfl) pe_dnewK)
        (pss_cons (ps_for PassesOwn.never rfl (pi_range2 (by rfl) T.range (pa_cons (pv 8) (pa_cons (pe_op op_add (pe_ix ix_tup (pv 0) pe_int (fun _ _ => rfl)) pe_int) pa_nil))) (pg_name (i := 10) scShort.nd rfl (.inl rfl))
          (pss_cons (ps_set (i := 11) scShort.nd rfl (.inl rfl) (pe_slice sl_tupA (pv 1) (po_some (pv 7)) (po_some (pe_op op_add (pe_op op_add (pv 7) (pv 2)) pe_int))))
          (pss_cons (ps_dput hu (pv 9) (pv 10) (pe_cal C3 hr (by decide) rfl (pa_cons (pv 0) (pa_cons (pv 11) (pa_cons (pv 10) pa_nil)))) rfl)
          (pss_one (ps_if (pt_cmpR op_eq (pv 7) (pv 4) (nomark _))
            (pss_one (ps_dput hu (pv 9) (pv 10) (pe_cal C4 hr (by decide) rfl (pa_cons (pe_dget hu (pv 9) (pv 10) (fun _ _ => rfl)) (pa_cons (pe_cal C5 hr (by decide) rfl (pa_cons (pv 0) (pa_cons (pv 11) (pa_cons (pv 10) pa_nil)))) pa_nil))) rfl))
            (pss_one (ps_dput hu (pv 9) (pv 10) (pe_cal C4 hr (by decide) rfl (pa_cons (pe_dget hu (pv 9) (pv 10) (fun _ _ => rfl)) (pa_cons (pe_cal C6 hr (by decide) rfl (pa_cons (pe_ix ix_tup (pv 1) (pv 7) (fun _ _ => rfl)) (pa_cons (pv 6) (pa_cons (pv 10) pa_nil)))) pa_nil))) rfl)))))))
        (pss_cons (ps_setLc (i := 12) (own := [("here", 16)]) (g := gName 16) (tt := tYes) rfl scShort.nd rfl rfl (sw_true rfl rfl rfl (by decide +kernel)) (pi_range2 (by rfl) T.range (pa_cons (pv 8) (pa_cons (pe_op op_add (pe_ix ix_tup (pv 0) pe_int (fun _ _ => rfl)) pe_int) pa_nil)))
          (blkOk_by (N := nShort) (sc := defScope sShort) (by decide +kernel)) (fun _ _ _ _ _ => pg_name (i := 16) scShort.nd rfl (Or.inl rfl) (Or.inr rfl)) (fun _ _ _ _ _ => pts_nil) (fun _ _ _ _ _ => pe_cal C7 hr (by decide) rfl (pa_cons (pv 0) (pa_cons (pv 9) (pa_cons (pv 16) pa_nil)))))
        (pss_cons (ps_set (i := 6) scShort.nd rfl (.inl rfl) pe_dnewK)
        (pss_cons (ps_for PassesOwn.never rfl (pi_enum (by rfl) T.enum (pa_cons (pv 12) pa_nil)) (pg_tup rfl (pgs_cons (pg_name (i := 13) scShort.nd rfl (.inl rfl)) (pgs_cons (pg_pair (i := 14) (j := 10) rfl scShort.nd rfl rfl (Or.inl rfl) (Or.inl rfl) (Or.inl rfl) (Or.inl rfl)) pgs_nil)))
          (pss_one (ps_dput hu (pv 6) (pe_op op_add (pv 8) (pv 13)) (pv 14) rfl)))
        (pss_one (ps_set (i := 5) scShort.nd rfl (.inl rfl) (pe_op op_cat (pe_lst (pa_cons (pe_callTy call_tuple_of (by rfl) T.tuple boot_tuple' (pa_cons (pv 12) pa_nil)) pa_nil)) (pv 5)))))))))))
      (pss_one (ps_ret (pe_callTy call_tuple_of (by rfl) T.tuple boot_tuple' (pa_cons (pv 5) pa_nil)))))))), ?_⟩
    have FB := ask.FB
    have G := FB.good
    have Ll := ask.L
    have Fl := FB.len
    have tB := ask.SB.top
    have dB := ask.SB.depth
    have hb0 := hb
    obtain ⟨qs, hbq, prq⟩ := hb0
    have eqs : (qs.map V.ref).length = F.length := by rw [List.length_map]; exact pLen prq
    -- need_free
    refine ⟨_, rfl, _, rfl, _, rfl, a, b, S, F, stock, rfl, ha, hb, FB, ask.free, fun H1 e1 => ?_⟩
    -- last
    refine ⟨_, rfl, b, _, rfl, .inr (sameT e1 hbq), _, _, rfl, rfl, _, rfl, _, _, rfl, rfl, ?_⟩
    show gName 4 (V.int (((qs.map V.ref).length : Int) - 1 - (L : Int))) _ _ _
    obtain ⟨zl, hzl⟩ : ∃ zl : Int, zl = ((qs.map V.ref).length : Int) - 1 - (L : Int) := ⟨_, rfl⟩
    rw [← hzl]
    rw [eqs] at hzl
    -- found, costs
    refine ⟨Nat.zero_le _, fun pf nf => ?_⟩
    intro d nd
    have e3 := sThen (o := .dK []) (sThen (o := .lst []) e1 nf) nd
    have hf3 : upd (upd H1 pf (.lst [])) d (.dK []) pf = some (.lst (([] : List Addr).map V.ref)) := by
      rw [upd_ne (ne_of_none (o := .lst []) upd_same nd)]
      exact upd_same
    generalize upd (upd H1 pf (.lst [])) d (.dK []) = H3 at e3 hf3
    -- for t in range(last, -1, -1)
    refine ⟨_, rfl, _, rfl, _, rfl, zl, -1, -1, (zl - -1).toNat, rfl, RgC.neg (by omega) (by omega) (by omega) (by omega), ?_⟩
    have enn : (zl - -1).toNat = F.length - L := by omega
    rw [enn]
    refine for_it (walk_rangeC (lo := zl) (c := -1) (n := F.length - L)) (fun i σ H' => ∃ (pf d : Addr) (ps' : List Addr) (y7 y8 y9 y10 y11 y12 y13 y14 : Option V), σ = [some (.ref a), some (.ref b), some (.int (L : Int)), some (.int stock), some (.int zl), some (.ref pf), some (.ref d), y7, y8, y9, y10, y11, y12, y13, y14, none, none] ∧
        Same H H' ∧ H' pf = some (.lst (ps'.map V.ref)) ∧ Paired (RowA K H') ps' ((tabOf S L F stock).drop (F.length - L - i)) ∧ (i = 0 ∨ DictA K H' d (fun x => (Vt S L (F.drop (F.length - L - i)) x).1) (TI (F.drop (F.length - L - i))) (fun x => low F stock (F.length - L - i) ≤ x ∧ x ≤ S.top)))
      ⟨pf, d, [], none, none, none, none, none, none, none, none, rfl, e3, hf3, by rw [Nat.sub_zero, List.drop_of_length_le (by rw [tabOf_len]; omega)]; exact .nil, .inl rfl⟩ (fun _ _ _ _ _ => trivial) ?_ ?_
    · clear hf3 nf nd
      clear pf d
      rintro i x σ H4 H5 hi ⟨pf, d, ps', y7, y8, y9, y10, y11, y12, y13, y14, rfl, e4, hf4, prs, dic⟩ ⟨rfl, ex⟩
      obtain ⟨t, ht⟩ : ∃ t : Nat, t = F.length - L - 1 - i := ⟨_, rfl⟩
      have ext : x = .int (t : Int) := by
        rw [ex]
        show V.int (zl + (i : Int) * (-1)) = V.int (t : Int)
        congr 1
        omega
      subst ext
      have etl : F.length - L - i = t + 1 := by omega
      rw [etl] at prs dic
      have tl : t < F.length := by omega
      obtain ⟨one, hone⟩ : ∃ one, F[t]? = some one := ⟨F[t], List.getElem?_eq_getElem tl⟩
      have O := FB.day one (List.mem_of_getElem? hone)
      have dm := drop_more hone
      have Gt : Good (one :: F.drop (t + 1)) := by rw [← dm]; exact G.drop t
      have ti := TI_drop_more hone
      have tib := (FB.drop t).TI
      have ti1 := (FB.drop (t + 1)).TI
      have g1 := gr_take_le F t
      have g2 := gr_mono F t
      have fr := ask.free
      have lotop : low F stock t ≤ S.top := by have := ask.top; unfold low; omega
      have lolo : -100 ≤ low F stock t := by unfold low; omega
      have lonext := gr_take_more hone
      -- least = stock - sum(..)
      refine ⟨_, rfl, .ref b, rfl, _, rfl, (t : Int), rfl, ?_⟩
      refine sl_fls (i := 0) (j := t) (hb.same e4) rfl (sIx_hi rfl (by omega)) fun H5 p1 e5 hp1 => ?_
      have hp1' : Fls K H5 p1 (F.take t) := hp1
      obtain ⟨rs, hrs, prr⟩ := hp1'
      refine ⟨p1, rfl, ⟨_, hrs⟩, fun D nD => ?_⟩
      refine lc_it (walk_tup (xs := rs.map V.ref)) (fun k H' => Same H5 H' ∧ H' D = some (.lst ((((F.take t).map (gr1 0)).take k).map V.int))) ⟨same_upd nD, upd_same⟩ (fun k H' _ h => sameT h.1 hrs) ?_ ?_
      · rintro k x H6 H7 hk ⟨e6, hD⟩ ⟨rfl, g1⟩
        obtain ⟨p, hp, rfl⟩ := mapr_get g1
        obtain ⟨on, ho, h1⟩ := pAt2 prr hp
        refine ⟨rfl, tyes ?_⟩
        refine ⟨_, rfl, p, on, rfl, sameT e6 h1, (FB.take t).day on (List.mem_of_getElem? ho), fun H8 e8 => ?_⟩
        refine ⟨_, e8 _ _ hD, ?_, sPut (e6.trans e8) nD, ?_⟩
        · rw [List.length_map, List.length_take, List.length_map, List.length_take]
          exact small8 (by omega)
        · rw [upd_same, take_more (show ((F.take t).map (gr1 0))[k]? = some (gr1 0 on) by rw [List.getElem?_map, ho]; rfl), List.map_append]
          rfl
      rintro H6 ⟨e6, hD⟩
      have elr : (rs.map V.ref).length = ((F.take t).map (gr1 0)).length := by rw [List.length_map, List.length_map]; exact pLen prr
      rw [elr, List.take_length] at hD
      refine ⟨D, _, rfl, SqL.of hD, _, _, rfl, rfl, ?_⟩
      -- own = {}
      intro d9 nd9
      have e46 := e5.trans e6
      have e06 := e4.trans e46
      -- for level in range(least, shop[0] + 1)
      have e7 := same_upd (o := .dK []) nd9
      refine ⟨_, rfl, _, rfl, a, _, 0, .int S.top, rfl, rfl, ha.same (e06.trans e7), rfl, _, _, rfl, rfl, low F stock t, S.top + 1, rfl, ⟨by omega, by omega, by omega, by omega⟩, ?_⟩
      have nd9H : H d9 = none := Same.free e06 nd9
      refine for_it (walk_range (lo := low F stock t) (n := (S.top + 1 - low F stock t).toNat)) (fun k σ H' => ∃ (y10 y11 : Option V) (kvs : List (Key × V)), σ = [some (.ref a), some (.ref b), some (.int (L : Int)), some (.int stock), some (.int zl), some (.ref pf), some (.ref d), some (.int (t : Int)), some (.int (low F stock t)), some (.ref d9), y10, y11, y12, y13, y14, none, none] ∧
          Same H6 H' ∧ H' d9 = some (.dK kvs) ∧ kvs.length ≤ 2 * k ∧ ∀ x, low F stock t ≤ x → x < low F stock t + k → ∃ c, valV kvs (Sum.inl x : Key) = some (.ref c) ∧ Sh K H' c (Ut S L one (F.drop (t + 1)) x) ∧ Fits (TI (F.drop t)) (Ut S L one (F.drop (t + 1)) x))
        ⟨_, _, [], rfl, e7, upd_same, Nat.zero_le _, fun x h1 h2 => by omega⟩ (fun _ _ _ _ _ => trivial) ?_ ?_
      · rintro k x σ H7 H8 hk ⟨y10, y11, kvs, rfl, e7, hd9, hlen, hval⟩ ⟨rfl, rfl⟩
        obtain ⟨l, hl⟩ : ∃ l, l = low F stock t + (k : Int) := ⟨_, rfl⟩
        show gName 10 (V.int (low F stock t + (k : Int))) _ _ _
        rw [← hl]
        have ltop : l ≤ S.top := by omega
        have llo : low F stock t ≤ l := by omega
        have e07 := e06.trans e7
        -- ahead = falls[t:t + days + 1]
        refine ⟨.ref b, rfl, _, rfl, (t : Int), rfl, _, rfl, _, rfl, _, _, rfl, rfl, _, _, rfl, rfl, _, rfl, ?_⟩
        refine sl_fls (i := t) (j := t + L + 1) (hb.same e07) (sIx_lo (by omega)) (sIx_hi (by omega) (by omega)) fun H8 p4 e8 hp4 => ?_
        rw [show t + L + 1 - t = L + 1 by omega] at hp4
        have e78 := e7.trans e8
        -- own[level] = mean_day(..)
        refine ⟨_, rfl, _, rfl, _, rfl, a, p4, S, _, l, rfl, ha.same (e07.trans e8), ask.SB, hp4, (FB.drop t).take _, fun H9 p5 e9 sh5 => ?_⟩
        have e79 := e78.trans e9
        have hd9' := e9 _ _ (e8 _ _ hd9)
        have k2 : k ≤ 110 := by omega
        refine ⟨_, rfl, _, rfl, d9, _, rfl, DPut.k (k := Sum.inl l) hd9' (small1000 (by omega)), ?_⟩
        have e9b : Same H6 (upd H9 d9 (.dK (putK kvs (Sum.inl l : Key) (.ref p5)))) := sPut e79 nd9
        have keep : ∀ c q, Sh K H9 c q → Sh K (upd H9 d9 (.dK (putK kvs (Sum.inl l : Key) (.ref p5)))) c q := fun c q h => sqT_put hd9' h
        have hp4' : Fls K (upd H9 d9 (.dK (putK kvs (Sum.inl l : Key) (.ref p5)))) p4 ((F.drop t).take (L + 1)) := fls_put hd9' (hp4.same e9)
        have hln1 := length_putK kvs (Sum.inl l : Key) (V.ref p5)
        generalize hH10 : upd H9 d9 (.dK (putK kvs (Sum.inl l : Key) (.ref p5))) = H10 at e9b keep hp4'
        have hd10 : H10 d9 = some (.dK (putK kvs (Sum.inl l : Key) (.ref p5))) := by rw [← hH10]; exact upd_same
        have sh5' := keep _ _ sh5
        have get5 : valV (putK kvs (Sum.inl l : Key) (.ref p5)) (Sum.inl l : Key) = some (.ref p5) := by rw [valV_put, if_pos rfl]
        have fd := mday_fits_take (S := S) (G.drop t) (L + 1) l
        have old : ∀ x, low F stock t ≤ x → x < low F stock t + k → ∃ c, valV (putK kvs (Sum.inl l : Key) (.ref p5)) (Sum.inl x : Key) = some (.ref c) ∧ Sh K H10 c (Ut S L one (F.drop (t + 1)) x) ∧ Fits (TI (F.drop t)) (Ut S L one (F.drop (t + 1)) x) := fun x h1 h2 => by
          obtain ⟨c, v1, v2, v3⟩ := hval x h1 h2
          exact ⟨c, by rw [valV_put, if_neg (fun y => by have := Sum.inl.inj y; omega)]; exact v1, keep _ _ ((v2.same e8).same e9), v3⟩
        have fU := Ut_fits (S := S) (L := L) Gt ltop
        rw [← dm] at fU
        -- the end of a turn
        have fin : ∀ (H11 : Hp) (p7 : Addr), Same H10 H11 → Sh K H11 p7 (Ut S L one (F.drop (t + 1)) l) → ∃ H12, DPut H11 d9 (.int l) (.ref p7) H12 ∧ ∃ (y10 y11 : Option V) (kvs : List (Key × V)), [some (V.ref a), some (.ref b), some (.int (L : Int)), some (.int stock), some (.int zl), some (.ref pf), some (.ref d), some (.int (t : Int)), some (.int (low F stock t)), some (.ref d9), some (.int l), some (.ref p4), y12, y13, y14, none, none] = [some (.ref a), some (.ref b), some (.int (L : Int)), some (.int stock), some (.int zl), some (.ref pf), some (.ref d), some (.int (t : Int)), some (.int (low F stock t)), some (.ref d9), y10, y11, y12, y13, y14, none, none] ∧
            Same H6 H12 ∧ H12 d9 = some (.dK kvs) ∧ kvs.length ≤ 2 * (k + 1) ∧ ∀ x, low F stock t ≤ x → x < low F stock t + ((k + 1 : Nat) : Int) → ∃ c, valV kvs (Sum.inl x : Key) = some (.ref c) ∧ Sh K H12 c (Ut S L one (F.drop (t + 1)) x) ∧ Fits (TI (F.drop t)) (Ut S L one (F.drop (t + 1)) x) := fun H11 p7 e11 sh7 => by
          have hd11 := e11 _ _ hd10
          have hln2 := length_putK (putK kvs (Sum.inl l : Key) (.ref p5)) (Sum.inl l : Key) (V.ref p7)
          refine ⟨_, DPut.k (k := Sum.inl l) hd11 (small1000 (by omega)), _, _, _, rfl, sPut (e9b.trans e11) nd9, upd_same, by omega, fun x h1 h2 => ?_⟩
          have keep2 : ∀ c q, Sh K H11 c q → Sh K (upd H11 d9 (.dK (putK (putK kvs (Sum.inl l : Key) (.ref p5)) (Sum.inl l : Key) (.ref p7)))) c q := fun c q h => sqT_put hd11 h
          rw [valV_put]
          by_cases z : x = l
          · subst z
            exact ⟨p7, if_pos rfl, keep2 _ _ sh7, fU⟩
          · obtain ⟨c, v1, v2, v3⟩ := old x h1 (by omega)
            exact ⟨c, by rw [if_neg (fun y => z (Sum.inl.inj y))]; exact v1, keep2 _ _ (v2.same e11), v3⟩
        have dd : ∀ q : Rat, Fits (TI (F.drop t)) q → (q.den : Int) < 2 ^ 64 := fun q h => by
          have := h.den tib.1
          omega
        have e0_10 := e06.trans e9b
        refine ⟨_, rfl, _, rfl, rfl, _, rfl, ite2 (fun c => ?_) (fun c => ?_)⟩
        · have etz : (t : Int) = zl := V.int.inj (of_decide_eq_true c)
          have elen : (F.drop (t + 1)).length = L := by rw [List.length_drop]; omega
          have etake : (F.drop t).take (L + 1) = F.drop t := List.take_of_length_le (by rw [List.length_drop]; omega)
          rw [etake] at hp4'
          have eU : mday S ((F.drop t).take (L + 1)) l + mend S (F.drop t) l = Ut S L one (F.drop (t + 1)) l := by
            unfold Ut
            rw [if_pos elen, ← dm]
          refine ⟨_, rfl, _, rfl, d9, .ref p5, rfl, by rw [← get5]; exact DGet.k (k := Sum.inl l) hd10, ?_⟩
          refine ⟨_, rfl, _, rfl, _, rfl, a, p4, S, _, l, rfl, ha.same e0_10, ask.SB, hp4', FB.drop t, fun H11 p6 e11 sh6 => ?_⟩
          refine ⟨p5, p6, _, _, rfl, sh5'.same e11, sh6, dd _ fd, dd _ (mend_fits (G.drop t) l), fun H12 p7 e12 sh7 => ?_⟩
          rw [eU] at sh7
          obtain ⟨H13, hput, inv⟩ := fin H12 p7 (e11.trans e12) sh7
          exact ⟨_, rfl, _, rfl, d9, H13, rfl, hput, inv⟩
        · have ntz : ¬ (t : Int) = zl := fun z => c (decide_eq_true (by rw [z]))
          have nlen : ¬ (F.drop (t + 1)).length = L := by rw [List.length_drop]; omega
          have eU : mday S ((F.drop t).take (L + 1)) l + mnext one (fun x => (Vt S L (F.drop (t + 1)) x).1) l = Ut S L one (F.drop (t + 1)) l := by
            unfold Ut
            rw [if_neg nlen, ← dm]
          have dic' := (dic.resolve_left (by omega)).same (e46.trans e9b)
          obtain ⟨xs, pone, hxs, hat, h1⟩ := fls_at (hb.same e0_10) hone
          refine ⟨_, rfl, _, rfl, d9, .ref p5, rfl, by rw [← get5]; exact DGet.k (k := Sum.inl l) hd10, ?_⟩
          have okk : ∀ x, (∃ (j : Nat) (w : Int), one[j]? = some w ∧ 0 < w ∧ x = l - j) → low F stock (t + 1) ≤ x ∧ x ≤ S.top := fun x ⟨j, w, hj, hw, ex⟩ => by
            have := gr1_ge (k := 0) hj hw
            unfold low at *
            omega
          refine ⟨_, rfl, _, rfl, b, xs, _, .ref pone, rfl, rfl, hxs, hat, _, rfl, _, rfl, pone, d, one, _, _, l, rfl, h1, O, ti1.1, ?_, dic'.imp okk, fun H11 p6 e11 sh6 => ?_⟩
          · rw [Int.mul_comm, ← ti]
            omega
          have fn : Fits (TI (F.drop t)) (mnext one (fun x => (Vt S L (F.drop (t + 1)) x).1) l) := by
            rw [ti]
            exact mnext_fits Gt.sum fun j w hj hw => Vt_fits _ _ Gt.tail (okk _ ⟨j, w, hj, hw, rfl⟩).2
          refine ⟨p5, p6, _, _, rfl, sh5'.same e11, sh6, dd _ fd, dd _ fn, fun H12 p7 e12 sh7 => ?_⟩
          rw [eU] at sh7
          obtain ⟨H13, hput, inv⟩ := fin H12 p7 (e11.trans e12) sh7
          exact ⟨_, rfl, _, rfl, d9, H13, rfl, hput, inv⟩
      · rintro σ H7 ⟨y10, y11, kvs, rfl, e7, hd9, hlen, hval⟩
        have e07 := e06.trans e7
        have cntl : ((S.top + 1 - low F stock t).toNat : Int) = S.top + 1 - low F stock t := by omega
        have dct : DictA K H7 d9 (Ut S L one (F.drop (t + 1))) (TI (F.drop t)) (fun l => low F stock t ≤ l ∧ l ≤ S.top) := ⟨kvs, hd9, fun l ⟨h1, h2⟩ => hval l h1 (by omega)⟩
        have Vrow : ∀ c, bestTo (fun l => ((od S (l - c) : Int) : Rat) + Ut S L one (F.drop (t + 1)) l) c (S.top - c).toNat = Vt S L (F.drop t) c := fun c => by
          rw [dm]
          rfl
        -- row = [cheapest(shop, own, here) for here in ..]
        refine ⟨_, rfl, _, rfl, a, _, 0, .int S.top, rfl, rfl, ha.same e07, rfl, _, _, rfl, rfl, low F stock t, S.top + 1, rfl, ⟨by omega, by omega, by omega, by omega⟩, fun D2 nD2 => ?_⟩
        have nD2H : H D2 = none := Same.free e07 nD2
        refine lc_it (walk_range (lo := low F stock t) (n := (S.top + 1 - low F stock t).toNat)) (fun k H' => Same H7 H' ∧ ∃ us : List Addr, H' D2 = some (.lst (us.map V.ref)) ∧ Paired (Pr K H') us ((tabRow S L F stock t).take k))
          ⟨same_upd nD2, [], upd_same, by rw [List.take_zero]; exact .nil⟩ (fun _ _ _ _ => trivial) ?_ ?_
        · rintro k x H8 H9 hk ⟨e8, us, hD2, pus⟩ ⟨rfl, rfl⟩
          refine ⟨rfl, tyes ?_⟩
          refine ⟨_, rfl, _, rfl, _, rfl, a, d9, S, _, _, low F stock t + (k : Int), rfl, ha.same (e07.trans e8), ask.SB, by omega, by omega, tib.1, by omega, (dct.same e8).imp fun l h => ⟨by omega, h.2⟩, fun H9 p9 e9 pr9 => ?_⟩
          rw [Vrow] at pr9
          have lus := pLen pus
          rw [List.length_take, tabRow_len] at lus
          have e89 := e8.trans e9
          refine ⟨_, e9 _ _ hD2, ?_, sPut e89 nD2, us ++ [p9], ?_, ?_⟩
          · rw [List.length_map]
            exact small1000 (by omega)
          · rw [upd_same, List.map_append]
            rfl
          · rw [take_more (tabRow_get hk)]
            have keepP : ∀ p z, Pr K H9 p z → Pr K (upd H9 D2 (.lst (us.map V.ref ++ [V.ref p9]))) p z := fun p z ⟨c, z1, z2⟩ => ⟨c, sqT_putL (e9 _ _ hD2) z1, sqT_putL (e9 _ _ hD2) z2⟩
            exact pSnoc (keepP _ _ pr9) (pImp pus fun _ _ z => keepP _ _ (z.same e9))
        rintro H8 ⟨e8, us, hD2, pus⟩
        rw [← tabRow_len S L F stock t, List.take_length] at pus
        have lus := pLen pus
        rw [tabRow_len] at lus
        -- costs = {}
        intro d6 nd6
        have e78 := e7.trans e8
        have e08 := e07.trans e8
        have nd6H : H d6 = none := Same.free e08 nd6
        have e8b := same_upd (o := .dK []) nd6
        -- for at, (cost, level) in enumerate(row)
        refine ⟨_, rfl, D2, _, rfl, SqL.of (e8b _ _ hD2), ?_⟩
        refine for_it (walk_enum (xs := us.map V.ref)) (fun k σ H' => ∃ (y10 y13 y14 : Option V) (kvs : List (Key × V)), σ = [some (.ref a), some (.ref b), some (.int (L : Int)), some (.int stock), some (.int zl), some (.ref pf), some (.ref d6), some (.int (t : Int)), some (.int (low F stock t)), some (.ref d9), y10, y11, some (.ref D2), y13, y14, none, none] ∧
            Same H8 H' ∧ H' d6 = some (.dK kvs) ∧ kvs.length ≤ k ∧ ∀ x, low F stock t ≤ x → x < low F stock t + k → ∃ c, valV kvs (Sum.inl x : Key) = some (.ref c) ∧ Sh K H' c (Vt S L (F.drop t) x).1 ∧ Fits (TI (F.drop t)) (Vt S L (F.drop t) x).1)
          ⟨_, _, _, [], rfl, e8b, upd_same, Nat.le_refl _, fun x h1 h2 => by omega⟩ (fun k σ H' _ ⟨_, _, _, _, _, e, _⟩ => SqL.of (e _ _ hD2)) ?_ ?_
        · rintro k x σ H9 H10 hk ⟨y10, y13, y14, kvs, rfl, e9, hd6, hlen, hval⟩ ⟨T2, x1, x2, rfl, nT, rfl, g1, g2⟩
          obtain ⟨u, hu, rfl⟩ := mapr_get g2
          obtain rfl : V.int (k : Nat) = x1 := Option.some.inj g1
          obtain ⟨r, hr1, c, s1, s2⟩ := pAt2 pus hu
          have kl := len_of hr1
          rw [tabRow_len] at kl
          rw [tabRow_get kl] at hr1
          obtain rfl := Option.some.inj hr1
          have e10 := sThen (o := .tup [V.int (k : Nat), V.ref u]) e9 nT
          have hd6' : upd H9 T2 (.tup [V.int (k : Nat), V.ref u]) d6 = some (.dK kvs) := by rw [upd_ne (ne_of_none hd6 nT)]; exact hd6
          refine ⟨T2, _, rfl, SqT.of upd_same, rfl, _, _, rfl, _, _, rfl, u, _, rfl, sameT e10 s1, rfl, _, _, rfl, _, _, rfl, rfl, rfl, ?_⟩
          have hval' : ∀ x, low F stock t ≤ x → x < low F stock t + k → ∃ c, valV kvs (Sum.inl x : Key) = some (.ref c) ∧ Sh K (upd H9 T2 (.tup [V.int (k : Nat), V.ref u])) c (Vt S L (F.drop t) x).1 ∧ Fits (TI (F.drop t)) (Vt S L (F.drop t) x).1 := fun x h1 h2 => by
            obtain ⟨c, v1, v2, v3⟩ := hval x h1 h2
            exact ⟨c, v1, v2.same (same_upd nT), v3⟩
          generalize upd H9 T2 (.tup [V.int (k : Nat), V.ref u]) = H10 at e10 hd6' hval'
          have hln := length_putK kvs (Sum.inl (low F stock t + (k : Int)) : Key) (V.ref c)
          refine ⟨_, rfl, _, rfl, _, rfl, _, rfl, _, _, rfl, rfl, d6, _, rfl, DPut.k (k := Sum.inl (low F stock t + (k : Int))) hd6' (small1000 (by omega)), ?_⟩
          refine ⟨_, _, _, _, rfl, sPut e10 nd6, upd_same, by omega, fun x h1 h2 => ?_⟩
          rw [valV_put]
          by_cases z : x = low F stock t + (k : Int)
          · subst z
            exact ⟨c, if_pos rfl, sqT_put hd6' (s2.same e10), Vt_fits _ _ (G.drop t) (by omega)⟩
          · obtain ⟨c', v1, v2, v3⟩ := hval' x h1 (by omega)
            exact ⟨c', by rw [if_neg (fun y => z (Sum.inl.inj y))]; exact v1, sqT_put hd6' v2, v3⟩
        rintro σ H9 ⟨y10, y13, y14, kvs2, rfl, e9, hd6, _, hval2⟩
        rw [List.length_map, lus] at hval2
        -- found = [tuple(row)] + found
        have e09 := e08.trans e9
        have e49 := ((e46.trans e7).trans e8).trans e9
        refine ⟨_, rfl, D2, _, rfl, .inl ⟨SqL.of (e9 _ _ hD2), fun q1 nq1 => ?_⟩⟩
        refine ⟨(by show 1 ≤ sizeLine; decide), fun q2 nq2 => ?_⟩
        have e10 := sThen (o := .lst [V.ref q1]) (same_upd (o := .tup (us.map V.ref)) nq1) nq2
        have hf9 := e10 _ _ (e49 _ _ hf4)
        have lps := pLen prs
        rw [List.length_drop, tabOf_len] at lps
        refine ⟨_, rfl, q2, pf, _, _, rfl, rfl, upd_same, hf9, ?_, fun q3 nq3 => ?_⟩
        · rw [List.length_map]
          have z : sizeLine = 16777216 := by decide
          show 1 + ps'.length ≤ _
          omega
        have e11 := sThen (o := .lst ([V.ref q1] ++ ps'.map V.ref)) e10 nq3
        have hq1 : upd (upd (upd H9 q1 (.tup (us.map V.ref))) q2 (.lst [V.ref q1])) q3 (.lst ([V.ref q1] ++ ps'.map V.ref)) q1 = some (.tup (us.map V.ref)) := by
          have n2 : q1 ≠ q2 := ne_of_none (upd_same (H := H9) (o := .tup (us.map V.ref))) nq2
          have n3 : q1 ≠ q3 := ne_of_none ((upd_ne n2).trans (upd_same (H := H9) (o := .tup (us.map V.ref)))) nq3
          rw [upd_ne n3, upd_ne n2, upd_same]
        refine ⟨q3, d6, q1 :: ps', _, _, _, _, _, _, _, _, rfl, e09.trans e11, upd_same, ?_, .inr ?_⟩
        · rw [show F.length - L - (i + 1) = t by omega, drop_more (tabOf_get (show t < F.length - L by omega))]
          exact .cons ⟨us, SqT.of hq1, pImp pus fun _ _ z => (z.same e9).same e11⟩ (pImp prs fun _ _ z => (z.same e49).same e11)
        · rw [show F.length - L - (i + 1) = t by omega]
          exact DictA.same ⟨kvs2, hd6, fun x ⟨h1, h2⟩ => hval2 x h1 (by omega)⟩ e11
    · rintro σ H4 ⟨pf, d, ps', y7, y8, y9, y10, y11, y12, y13, y14, rfl, e4, hf4, prs, _⟩
      rw [Nat.sub_self, List.drop_zero] at prs
      refine ⟨_, rfl, pf, _, rfl, .inl ⟨SqL.of hf4, fun p np => ?_⟩⟩
      exact q _ p (sThen e4 np) ⟨ps', SqT.of upd_same, pImp prs fun _ _ z => z.same (same_upd np)⟩
end
end TW
/-! least_late -/
namespace TW
open PySem PySem.Spec PyProof.Rows L2 TM
section
variable {P : Program} {w : World} {K : PySem.W.Frag} {mg : Str → Option Value} {base : Heap}
theorem tab_00 {H : Hp} {p : Addr} {xs : List (List (Rat × Int))} {row : List (Rat × Int)} {x : Rat × Int} (h : TabA K H p xs) (h1 : xs[0]? = some row) (h2 : row[0]? = some x) :
    ∃ (u1 u2 : List V) (a b : Addr), SqT K H p u1 ∧ atI u1 0 = some (.ref a) ∧ SqT K H a u2 ∧ atI u2 0 = some (.ref b) ∧ Pr K H b x := by
  obtain ⟨ps, s1, pr⟩ := h
  obtain ⟨a, ha, qs, s2, pr2⟩ := pAt pr h1
  obtain ⟨b, hb, pr3⟩ := pAt pr2 h2
  exact ⟨_, _, a, b, s1, atI_nat (j := 0) (by rw [List.getElem?_map, ha]; rfl), s2, atI_nat (j := 0) (by rw [List.getElem?_map, hb]; rfl), pr3⟩
theorem scLate : FnScope ["shop", "falls", "days", "stock", "found", "t"] ["shop", "falls", "days", "stock"] (defScope sLate) := ⟨rfl, rfl, rfl, by decide +kernel, rfl, by decide +kernel, by decide +kernel⟩
theorem ok_late {f : Addr} {fd : FuncData} (F : Fun K "least_late" "least_late" sLate f fd) (T : Blt mg) (C1 : Cal P w K mg base 5 "short_table" ["shop", "falls", "days", "stock"] (spShort K)) (C3 : Cal P w K mg base 3 "mean_day" ["shop", "falls", "level"] (spMday K))
    (C4 : Cal P w K mg base 3 "plus" ["one", "other"] (spPlus K)) : FnOk P w K mg base CX0 6 f fd ["shop", "falls", "days", "stock"] (spLate K) := by
  refine F.ok scLate (fun vs H Q E h => ?_) (fun cdv A outer s H vs Q E hr h => ?_)
  · obtain ⟨a, b, S, F, L, stock, rfl, _⟩ := h
    rfl
  · obtain ⟨a, b, S, F, L, stock, rfl, ha, hb, ask, q⟩ := h
    refine ⟨_, pss_cons (ps_set (i := 4) scLate.nd rfl (.inl rfl) (pe_ix ix_tup (pe_ix ix_tup (pe_ix ix_tup (pe_cal C1 hr (by decide) rfl (pa_cons (pv 0) (pa_cons (pv 1) (pa_cons (pv 2) (pa_cons (pv 3) pa_nil))))) pe_int (fun _ _ => rfl)) pe_int (fun _ _ => rfl)) pe_int (fun _ _ => rfl)))
      (pss_cons (ps_for PassesOwn.never rfl (pi_range1 (by rfl) T.range (pa_cons (pv 2) pa_nil)) (pg_name (i := 5) scLate.nd rfl (.inl rfl))
        (pss_one (ps_set (i := 4) scLate.nd rfl (.inl rfl) (pe_cal C4 hr (by decide) rfl (pa_cons (pv 4) (pa_cons (pe_cal C3 hr (by decide) rfl (pa_cons (pv 0) (pa_cons (pe_slice sl_tupA (pv 1) po_none (po_some (pe_op op_add (pv 5) pe_int))) (pa_cons (pv 3) pa_nil)))) pa_nil))))))
      (pss_one (ps_ret (pv 4)))), ?_⟩
    have FB := ask.FB
    have G := FB.good
    have Ll := ask.L
    have Fl := FB.len
    have tib := FB.TI
    refine ⟨_, rfl, _, rfl, _, rfl, _, rfl, a, b, S, F, L, stock, rfl, ha, hb, ask, fun H1 p1 e1 t1 => ?_⟩
    have low0 : low F stock 0 = stock := by unfold low gr; simp
    have r0 : (tabRow S L F stock 0)[0]? = some (Vt S L F stock) := by
      rw [tabRow_get (by rw [low0]; have := ask.top; omega), low0, List.drop_zero]
      simp
    obtain ⟨u1, u2, q1, q2, s1, a1, s2, a2, c, s3, s4⟩ := tab_00 t1 (tabOf_get (show 0 < F.length - L by omega)) r0
    refine ⟨p1, u1, _, _, rfl, rfl, s1, a1, q1, u2, _, _, rfl, rfl, s2, a2, q2, _, _, .ref c, rfl, rfl, s3, rfl, ?_⟩
    have fV : Fits (TI F) (Vt S L F stock).1 := Vt_fits F stock G ask.top
    refine ⟨_, rfl, (L : Int), rfl, by omega, by omega, ?_⟩
    rw [Int.toNat_natCast]
    refine for_it (walk_range (lo := 0) (n := L)) (fun i σ H' => ∃ (p : Addr) (y5 : Option V), σ = [some (.ref a), some (.ref b), some (.int (L : Int)), some (.int stock), some (.ref p), y5] ∧ Same H H' ∧ Sh K H' p ((Vt S L F stock).1 + preM S F stock i))
      ⟨c, _, rfl, e1, by rw [preM, Rat.add_zero]; exact s4⟩ (fun _ _ _ _ _ => trivial) ?_ ?_
    · rintro i x σ H2 H3 hi ⟨p, y5, rfl, e2, sh⟩ ⟨rfl, rfl⟩
      show gName 5 (V.int (0 + (i : Int))) _ _ _
      rw [Int.zero_add]
      refine ⟨_, rfl, _, rfl, .ref b, rfl, _, rfl, _, _, rfl, rfl, _, rfl, ?_⟩
      refine sl_fls (i := 0) (j := i + 1) (hb.same e2) rfl (sIx_hi (by omega) (by omega)) fun H4 p4 e4 hp4 => ?_
      have hp4' : Fls K H4 p4 (F.take (i + 1)) := hp4
      refine ⟨_, rfl, a, p4, S, _, stock, rfl, ha.same (e2.trans e4), ask.SB, hp4', FB.take _, fun H5 p5 e5 sh5 => ?_⟩
      have f1 := fV.add (preM_fits (S := S) G stock i)
      have f2 := mday_fits_take (S := S) G (i + 1) stock
      refine ⟨p, p5, _, _, rfl, (sh.same e4).same e5, sh5, ?_, ?_, fun H6 p6 e6 sh6 => ?_⟩
      · have := f1.den tib.1; omega
      · have := f2.den tib.1; omega
      · refine ⟨p6, _, rfl, ((e2.trans e4).trans e5).trans e6, ?_⟩
        rw [preM, ← Rat.add_assoc]
        exact sh6
    · rintro σ H2 ⟨p, y5, rfl, e2, sh⟩
      exact ⟨_, rfl, q H2 p e2 sh⟩
end
end TW
/-! the law's pen -/
namespace TW
open PySem PySem.Spec PyProof.Rows L2 TM
abbrev sPen : Stmt := topS 28
abbrev sDraw : Stmt := topS 29
/-- the pen at p: its script, its place (at most n), what is left of a great cell -/
structure PenAt (H : Hp) (p l : Addr) (n : Int) : Prop where
  ex : ∃ (ns : List Int) (k r : Int), H p = some (.lst [.ref l, .int k, .int r]) ∧ H l = some (.lst (ns.map V.int)) ∧ l ≠ p ∧ ns.length ≤ 63 ∧ 0 ≤ k ∧ k ≤ n ∧ 0 ≤ r
/-- all but p is kept -/
def PenB (p : Addr) (H H' : Hp) : Prop := ∀ b o, H b = some o → b ≠ p → H' b = some o
theorem PenB.refl (p : Addr) (H : Hp) : PenB p H H := fun _ _ h _ => h
theorem PenB.trans {p : Addr} {H H1 H2 : Hp} (a : PenB p H H1) (b : PenB p H1 H2) : PenB p H H2 := fun c o h n => b c o (a c o h n) n
theorem PenB.of {p : Addr} {H H' : Hp} (e : Same H H') : PenB p H H' := fun b o h _ => e b o h
theorem PenAt.same {H H' : Hp} {p l : Addr} {n : Int} (h : PenAt H p l n) (e : Same H H') : PenAt H' p l n := by
  obtain ⟨ns, k, r, a, b, c⟩ := h.ex
  exact ⟨ns, k, r, e _ _ a, e _ _ b, c⟩
theorem PenAt.mono {H : Hp} {p l : Addr} {n m : Int} (h : PenAt H p l n) (e : n ≤ m) : PenAt H p l m := by
  obtain ⟨ns, k, r, a, b, c, d, x, y, z⟩ := h.ex
  exact ⟨ns, k, r, a, b, c, d, x, by omega, z⟩
theorem PenAt.is {H : Hp} {p l : Addr} {n : Int} (h : PenAt H p l n) : ∃ o, H p = some o ∧ (∀ u, o ≠ .tup u) ∧ ∀ u, o ≠ .lst (List.map V.int u) := by
  obtain ⟨ns, k, r, a, _⟩ := h.ex
  refine ⟨_, a, (fun u z => by cases z), (fun u z => ?_)⟩
  cases u with
  | nil => cases z
  | cons x u => cases z
/-- a new object is none of the pen's two -/
theorem PenAt.ne {H : Hp} {p l a : Addr} {n : Int} (h : PenAt H p l n) (na : H a = none) : p ≠ a ∧ l ≠ a := by
  obtain ⟨ns, k, r, hp, hl, _⟩ := h.ex
  exact ⟨ne_of_none hp na, ne_of_none hl na⟩
/-- another object is written -/
theorem PenAt.put {H : Hp} {p l a : Addr} {n : Int} {o : HO} (h : PenAt H p l n) (ne : p ≠ a ∧ l ≠ a) : PenAt (upd H a o) p l n := by
  obtain ⟨ns, k, r, hp, hl, c⟩ := h.ex
  exact ⟨ns, k, r, by rw [upd_ne ne.1]; exact hp, by rw [upd_ne ne.2]; exact hl, c⟩
/-- a tuple stands while the pen writes -/
theorem PenB.seqT {K : PySem.W.Frag} {p l a : Addr} {H H' : Hp} {n : Int} {xs : List V} (e : PenB p H H') (h : PenAt H p l n) (ha : SqT K H a xs) : SqT K H' a xs := by
  obtain ⟨ns, k, r, hp, _⟩ := h.ex
  have ne : ∀ u, H a = some u → (∀ k, u ≠ .lst k) → a ≠ p := fun u hu k z => by
    rw [z, hp] at hu
    exact k _ (Option.some.inj hu).symm
  rcases ha with (ha | ⟨ob, ha⟩) | ha
  · exact .inl (.inl (e _ _ ha (ne _ ha fun _ z => by cases z)))
  · exact .inl (.inr ⟨ob, e _ _ ha (ne _ ha fun _ z => by cases z)⟩)
  · exact .inr ha
/-- a list of ints stands, too -/
theorem PenB.lst {p l a : Addr} {H H' : Hp} {n : Int} {xs : List Int} (e : PenB p H H') (h : PenAt H p l n) (ha : H a = some (.lst (xs.map V.int))) : H' a = some (.lst (xs.map V.int)) := by
  obtain ⟨o, hp, _, no⟩ := h.is
  exact e _ _ ha fun z => by
    rw [z, hp] at ha
    exact no xs (Option.some.inj ha)
def spPen (K : PySem.W.Frag) : Sp := fun vs H Q _ => ∃ (a : Addr) (ns : List Int), vs = [.ref a] ∧ SqL K H a (ns.map V.int) ∧ ns.length ≤ 63 ∧ ∀ H' p l, Same H H' → H p = none → PenAt H' p l 0 → Q (.ref p) H'
def spDraw : Sp := fun vs H Q _ => ∃ (p l : Addr) (many n : Int), vs = [.ref p, .int many] ∧ 0 < many ∧ many < 1073741824 ∧ PenAt H p l n ∧ n ≤ 1000 ∧ ∀ H' v, PenB p H H' → PenAt H' p l (n + 1) → 0 ≤ v → v < many → Q (.int v) H'
section
variable {P : Program} {w : World} {K : PySem.W.Frag} {mg : Str → Option Value} {base : Heap}
theorem scPen : FnScope ["_law_script"] ["_law_script"] (defScope sPen) := ⟨rfl, rfl, rfl, by decide +kernel, rfl, by decide +kernel, by decide +kernel⟩
theorem ok_pen {f : Addr} {fd : FuncData} (F : Fun K "_law_pen" "_law_pen" sPen f fd) (T : Blt mg) : FnOk P w K mg base CX0 1 f fd ["_law_script"] (spPen K) := by
  refine F.ok scPen (fun vs H Q E h => ?_) (fun cdv A outer s H vs Q E hr h => ?_)
  · obtain ⟨a, ns, rfl, _⟩ := h
    rfl
  · obtain ⟨a, ns, rfl, ha, hl, q⟩ := h
    refine ⟨_, pss_one (ps_ret (pe_lst (pa_cons (pe_callTy call_list_of (by rfl) T.list boot_list' (pa_cons (pe_slice sl_list (pv 0) po_none (po_some pe_int)) pa_nil)) (pa_cons pe_int (pa_cons pe_int pa_nil))))), ?_⟩
    refine ⟨_, rfl, 63, rfl, a, _, rfl, ha, fun p1 n1 => ?_⟩
    have ec : cutV (ns.map V.int) none (some 63) = (ns.take (min 63 ns.length)).map V.int := by
      rw [cutV_of (i := 0) (j := min 63 ns.length) rfl (by have := HT.sIx_nat ns.length ns.length 63; rw [len_map]; exact this), List.drop_zero, List.map_take]
      rfl
    rw [ec]
    refine ⟨p1, _, rfl, .inl (SqL.of upd_same), fun p2 n2 => ?_⟩
    refine ⟨(by show 3 ≤ sizeLine; decide), fun p3 n3 => ?_⟩
    have e1 := same_upd (o := .lst ((ns.take (min 63 ns.length)).map V.int)) n1
    have e2 := sThen (o := .lst ((ns.take (min 63 ns.length)).map V.int)) e1 n2
    refine q _ p3 p2 (sThen e2 n3) (Same.free e2 n3) ⟨ns.take (min 63 ns.length), 0, 0, upd_same, ?_, ?_, ?_, by decide, by decide, by decide⟩
    · rw [upd_ne (ne_of_none upd_same n3)]
      exact upd_same
    · exact ne_of_none upd_same n3
    · rw [List.length_take]
      omega
theorem join2 {T : Int → Prop} {G : Prop} (a : ∀ z, T z) (b : (∀ z, T z) → G) : G := b a
theorem join3 {B G : Prop} (b : B) (m : B → G) : G := m b
theorem pen_lst {H : Hp} {p l : Addr} {k r : Int} {ns : List Int} {u : List V} (h1 : H p = some (.lst [.ref l, .int k, .int r])) (h2 : H l = some (.lst (ns.map V.int))) (h3 : l ≠ p) : (upd H p (.lst u)) l = some (.lst (ns.map V.int)) := by
  rw [upd_ne h3]
  exact h2
theorem penB_upd {H : Hp} {p : Addr} {o : HO} : PenB p H (upd H p o) := fun b x e n => by
  rw [upd_ne n]
  exact e
theorem scDraw : FnScope ["_law_pen_here", "_law_many", "_law_digit", "_law_at", "_law_cell", "_law_mixed_here"] ["_law_pen_here", "_law_many"] (defScope sDraw) := ⟨rfl, rfl, rfl, by decide +kernel, rfl, by decide +kernel, by decide +kernel⟩
set_option maxHeartbeats 8000000 in
theorem ok_draw {f : Addr} {fd : FuncData} (F : Fun K "_law_draw" "_law_draw" sDraw f fd) (T : Blt mg) : FnOk P w K mg base CX0 1 f fd ["_law_pen_here", "_law_many"] spDraw := by
  refine F.ok scDraw (fun vs H Q E h => ?_) (fun cdv A outer s H vs Q E hr h => ?_)
  · obtain ⟨p, l, many, n, rfl, _⟩ := h
    rfl
  · obtain ⟨p, l, many, n, rfl, m0, mB, ⟨ns, k, r, hp, hl, nlp, nlen, k0, kn, r0⟩, nB, q⟩ := h
    refine ⟨_, pss_cons (ps_if (pt_cmpR op_gt (pe_ix ix_list (pv 0) pe_int (fun _ _ => rfl)) pe_int (nomark _))
        (pss_cons (ps_set (i := 2) scDraw.nd rfl (.inl rfl) (pe_op op_mod (pe_ix ix_list (pv 0) pe_int (fun _ _ => rfl)) (pv 1)))
        (pss_cons (ps_asg (pe_op op_fdiv (pe_ix ix_list (pv 0) pe_int (fun _ _ => rfl)) (pv 1)) (pg_sub (pv 0) pe_int set_list))
        (pss_one (ps_ret (pv 2))))) pss_nil)
      (pss_cons (ps_set (i := 3) scDraw.nd rfl (.inl rfl) (pe_ix ix_list (pv 0) pe_int (fun _ _ => rfl)))
      (pss_cons (ps_asg (pe_op op_add (pv 3) pe_int) (pg_sub (pv 0) pe_int set_list))
      (pss_cons (ps_set (i := 4) scDraw.nd rfl (.inl rfl) (pe_op op_add (pe_op op_mul pe_int (pv 3)) pe_int))
      (pss_cons (ps_if (pt_cmpR op_gt (pe_callB (r := rLenSeq K) call_len_seq (by rfl) T.len PySem.boot_len (pa_cons (pe_ix ix_list (pv 0) pe_int (fun _ _ => rfl)) pa_nil)) pe_int (nomark _))
        (pss_one (ps_set (i := 4) scDraw.nd rfl (.inl rfl) (pe_ix ix_list (pe_ix ix_list (pv 0) pe_int (fun _ _ => rfl)) (pe_op op_mod (pv 3) (pe_callB (r := rLenSeq K) call_len_seq (by rfl) T.len PySem.boot_len (pa_cons (pe_ix ix_list (pv 0) pe_int (fun _ _ => rfl)) pa_nil))) (fun _ _ => rfl)))) pss_nil)
      (pss_cons (ps_if (PW.pt (pw_and (pt_cmpR op_lt (pv 3) (pe_callB (r := rLenSeq K) call_len_seq (by rfl) T.len PySem.boot_len (pa_cons (pe_ix ix_list (pv 0) pe_int (fun _ _ => rfl)) pa_nil)) (nomark _))
          (pw_and1 (pt_cmpR op_ge (pe_callB call_abs (by rfl) T.abs boot_abs (pa_cons (pv 4) pa_nil)) (pe_op op_pow pe_int pe_int) (nomark _)))))
        (pss_cons (ps_asg (pe_op op_fdiv (pe_callB call_abs (by rfl) T.abs boot_abs (pa_cons (pv 4) pa_nil)) (pv 1)) (pg_sub (pv 0) pe_int set_list))
        (pss_one (ps_ret (pe_op op_mod (pe_callB call_abs (by rfl) T.abs boot_abs (pa_cons (pv 4) pa_nil)) (pv 1))))) pss_nil)
      (pss_cons (ps_set (i := 5) scDraw.nd rfl (.inl rfl) (pe_op op_mod (pe_op op_pow (pe_op op_add (pe_op op_add (pe_op op_mod (pv 4) pe_int) (pe_op op_mul pe_int (pv 3))) pe_int) pe_int) pe_int))
      (pss_one (ps_ret (pe_op op_mod (pe_op op_fdiv (pe_op op_mod (pe_op op_mul (pv 5) (pe_op op_add (pe_op op_add (pe_op op_mod (pv 5) pe_int) (pv 3)) pe_int)) pe_int) pe_int) (pv 1)))))))))), ?_⟩
    have a0 : ∀ k r : Int, atI [V.ref l, V.int k, V.int r] 0 = some (.ref l) := fun _ _ => rfl
    have a1 : ∀ k r : Int, atI [V.ref l, V.int k, V.int r] 1 = some (.int k) := fun _ _ => rfl
    have a2 : ∀ k r : Int, atI [V.ref l, V.int k, V.int r] 2 = some (.int r) := fun _ _ => rfl
    have sp := SqL.of (K := K) hp
    refine ⟨_, rfl, p, _, 2, _, rfl, rfl, sp, a2 _ _, _, _, rfl, rfl, _, rfl, ite2 (fun c => ?_) (fun c => ?_)⟩
    · -- the next digit
      refine ⟨_, rfl, p, _, 2, _, rfl, rfl, sp, a2 _ _, _, rfl, _, _, rfl, rfl, m0, ?_⟩
      refine ⟨_, rfl, p, _, 2, _, rfl, rfl, sp, a2 _ _, _, rfl, _, _, rfl, rfl, ⟨m0, mB⟩, _, rfl, p, _, _, 2, rfl, rfl, hp, rfl, ?_⟩
      refine ⟨_, rfl, q _ _ penB_upd ⟨ns, k, r / many, upd_same, pen_lst hp hl nlp, nlp, nlen, k0, by omega, Int.ediv_nonneg r0 (by omega)⟩ (Int.emod_nonneg _ (by omega)) (Int.emod_lt_of_pos _ m0)⟩
    · -- a new cell
      refine ⟨_, rfl, p, _, 1, _, rfl, rfl, sp, a1 _ _, ?_⟩
      refine ⟨_, rfl, _, _, rfl, rfl, _, rfl, p, _, _, 1, rfl, rfl, hp, rfl, ?_⟩
      have hp1 : upd H p (.lst [V.ref l, .int (k + 1), .int r]) p = some (.lst [V.ref l, .int (k + 1), .int r]) := upd_same
      have hl1 := pen_lst (u := [V.ref l, .int (k + 1), .int r]) hp hl nlp
      have b1 : PenB p H (upd H p (.lst [V.ref l, .int (k + 1), .int r])) := penB_upd
      show tSeq _ _ _ _ (upd H p (.lst [V.ref l, .int (k + 1), .int r]))
      generalize upd H p (.lst [V.ref l, .int (k + 1), .int r]) = H1 at hp1 hl1 b1
      have sp1 := SqL.of (K := K) hp1
      have sl1 := SqL.of (K := K) hl1
      refine ⟨_, rfl, _, _, rfl, rfl, .inl ⟨by decide, by decide⟩, _, _, rfl, rfl, ?_⟩
      refine' join2 (T := ?T) ?a ?b
      case b =>
       intro rest
       refine ⟨_, rfl, p, _, 0, _, rfl, rfl, sp1, a0 _ _, l, _, rfl, .inl sl1, _, _, rfl, rfl, _, rfl, ite2 (fun c2 => ?_) (fun c2 => ?_)⟩
       · have hlen : 0 < ((ns.map V.int).length : Int) := of_decide_eq_true c2
         have hm0 := Int.emod_nonneg k (show ((ns.map V.int).length : Int) ≠ 0 by omega)
         have hm1 := Int.emod_lt_of_pos k hlen
         obtain ⟨j, hj⟩ : ∃ j : Nat, k % ((ns.map V.int).length : Int) = (j : Int) := ⟨(k % ((ns.map V.int).length : Int)).toNat, by omega⟩
         have hj2 : j < ns.length := by
           rw [len_map] at hj hm1
           omega
         obtain ⟨cell, hcell⟩ : ∃ cell, ns[j]? = some cell := ⟨ns[j], List.getElem?_eq_getElem hj2⟩
         have hat : atI (ns.map V.int) (k % ((ns.map V.int).length : Int)) = some (.int cell) := by
           rw [hj]
           exact atI_nat (by rw [List.getElem?_map, hcell]; rfl)
         refine ⟨_, rfl, p, _, 0, _, rfl, rfl, sp1, a0 _ _, _, rfl, _, rfl, p, _, 0, _, rfl, rfl, sp1, a0 _ _, l, _, rfl, .inl sl1, _, _, rfl, rfl, hlen, l, _, _, V.int cell, rfl, rfl, sl1, hat, ?_⟩
         exact rest cell
       · exact rest _
      case a =>
       intro cell
       have am : ∀ z : Int, 0 ≤ (if z < 0 then -z else z) := fun z => by split <;> omega
       have pen : ∀ x : Int, 0 ≤ x → PenAt (upd H1 p (.lst [V.ref l, .int (k + 1), .int x])) p l (n + 1) := fun x hx => ⟨ns, k + 1, x, upd_same, pen_lst hp1 hl1 nlp, nlp, nlen, by omega, by omega, hx⟩
       have pen1 : PenAt H1 p l (n + 1) := ⟨ns, k + 1, r, hp1, hl1, nlp, nlen, by omega, by omega, r0⟩
       have m0' : 0 ≤ many := Int.le_of_lt m0
       have mne : many ≠ 0 := Int.ne_of_gt m0
       refine' join3 (B := ?B) ?b2 ?m2
       case m2 =>
        intro hB
        refine ⟨_, rfl, _, rfl, p, _, 0, _, rfl, rfl, sp1, a0 _ _, l, _, rfl, .inl sl1, _, _, rfl, rfl, _, rfl, ite2 (fun c3 => ?_) (fun c3 => ?_)⟩
        · refine ⟨_, rfl, _, rfl, _, _, rfl, rfl, ⟨by decide, by decide, by decide⟩, _, _, rfl, rfl, _, rfl, ite2 (fun c4 => ?_) (fun c4 => ?_)⟩
          · refine ⟨_, rfl, _, rfl, _, rfl, _, _, rfl, rfl, ⟨m0, mB⟩, _, rfl, p, _, _, 2, rfl, rfl, hp1, rfl, ?_⟩
            refine ⟨_, rfl, _, rfl, _, rfl, _, _, rfl, rfl, m0, ?_⟩
            exact q _ _ (b1.trans penB_upd) (pen _ (Int.ediv_nonneg (am cell) m0')) (Int.emod_nonneg _ mne) (Int.emod_lt_of_pos _ m0)
          · exact hB
        · exact iteF hB
       case b2 =>
        have c0 := Int.emod_nonneg cell (show (2147483629 : Int) ≠ 0 by decide)
        have c1 := Int.emod_lt_of_pos cell (show (0 : Int) < 2147483629 by decide)
        refine ⟨_, rfl, _, _, rfl, rfl, (by show (0 : Int) < 2147483629; decide), _, rfl, _, _, rfl, rfl, .inl ⟨by decide, by decide⟩, _, _, rfl, rfl, _, _, rfl, rfl, _, _, rfl, rfl, ⟨by decide, by decide, ?_⟩, _, _, rfl, rfl, (by show (0 : Int) < 2147483647; decide), ?_⟩
        · show (cell % 2147483629 + 52009 * k + 43).natAbs < 2 ^ 64
          omega
        · show gName 5 (V.int ((cell % 2147483629 + 52009 * k + 43) ^ (3 : Int).toNat % 2147483647)) _ _ _
          generalize (cell % 2147483629 + 52009 * k + 43) ^ (3 : Int).toNat = z
          have z0 := Int.emod_nonneg z (show (2147483647 : Int) ≠ 0 by decide)
          have z1 := Int.emod_lt_of_pos z (show (0 : Int) < 2147483647 by decide)
          generalize z % 2147483647 = y at z0 z1
          refine ⟨_, rfl, _, rfl, _, _, rfl, rfl, (by show (0 : Int) < 65423; decide), _, rfl, _, _, rfl, rfl, _, _, rfl, rfl, _, _, rfl, rfl, .inl ⟨by omega, by omega⟩, _, _, rfl, rfl, (by show (0 : Int) < 2147483587; decide), _, _, rfl, rfl, ⟨by decide, by decide⟩, _, rfl, _, _, rfl, rfl, m0, ?_⟩
          exact q H1 _ b1 pen1 (Int.emod_nonneg _ (by omega)) (Int.emod_lt_of_pos _ m0)
end
end TW
/-! the law's days, prices, what it asks with -/
namespace TW
open PySem PySem.Spec PyProof.Rows L2 TM
abbrev sLDay : Stmt := topS 30
abbrev sLPrices : Stmt := topS 32
abbrev sLAsked : Stmt := topS 33
def spLDay (K : PySem.W.Frag) : Sp := fun vs H Q _ => ∃ (p l : Addr) (n : Int), vs = [.ref p, .int 3] ∧ PenAt H p l n ∧ n ≤ 900 ∧ ∀ H' p' one, PenB p H H' → PenAt H' p l (n + 6) → IntT K H' p' one → DayB one → Q (.ref p') H'
def spLPrices (K : PySem.W.Frag) : Sp := fun vs H Q _ => ∃ (p l : Addr) (n : Int), vs = [.ref p] ∧ PenAt H p l n ∧ n ≤ 900 ∧ ∀ H' p' us, PenB p H H' → PenAt H' p l (n + 10) → IntT K H' p' us → us.length = 7 → (∀ u ∈ us, 0 ≤ u ∧ u ≤ 1000000) → Q (.ref p') H'
def spLAsked (K : PySem.W.Frag) : Sp := fun vs H Q _ => ∃ (p l : Addr) (n : Int), vs = [.ref p] ∧ PenAt H p l n ∧ n ≤ 800 ∧ ∀ H' p' a b S F stock, PenB p H H' → SqT K H' p' [.ref a, .ref b, .int stock] → ShopAt K H' a S → SB S → Fls K H' b F → FB F → 2 ≤ F.length → stock ≤ S.top → gr F - S.depth ≤ stock → Q (.ref p') H'
theorem penB_new {p a : Addr} {H H' : Hp} {o : HO} (e : PenB p H H') (h : H' a = none) : PenB p H (upd H' a o) := e.trans (.of (same_upd h))
theorem penB_put {p a : Addr} {H H' : Hp} {o : HO} (e : PenB p H H') (h : H a = none) : PenB p H (upd H' a o) := fun b x q n => by
  rw [upd_ne (ne_of_none q h)]
  exact e b x q n
theorem PenB.free {p a l : Addr} {n : Int} {H H' : Hp} (e : PenB p H H') (h : PenAt H' p l n) (na : H' a = none) : H a = none := by
  cases q : H a with
  | none => rfl
  | some o =>
    have := e a o q (h.ne na).1.symm
    rw [na] at this
    cases this
theorem pick4 {a b c d v : Int} (h0 : 0 ≤ v) (h4 : v < 4) : ∃ x, atI [V.int a, .int b, .int c, .int d] v = some (.int x) ∧ (x = a ∨ x = b ∨ x = c ∨ x = d) := by
  have : v = 0 ∨ v = 1 ∨ v = 2 ∨ v = 3 := by omega
  rcases this with rfl | rfl | rfl | rfl
  · exact ⟨a, rfl, .inl rfl⟩
  · exact ⟨b, rfl, .inr (.inl rfl)⟩
  · exact ⟨c, rfl, .inr (.inr (.inl rfl))⟩
  · exact ⟨d, rfl, .inr (.inr (.inr rfl))⟩
section
variable {P : Program} {w : World} {K : PySem.W.Frag} {mg : Str → Option Value} {base : Heap}
abbrev nLDay : List Str := ["_law_pen_here", "_law_most", "_law_behind", "_law_bound", "_law_weights", "_law_k"]
theorem scLDay : FnScope nLDay ["_law_pen_here", "_law_most"] (defScope sLDay) := ⟨rfl, rfl, rfl, by decide +kernel, rfl, by decide +kernel, by decide +kernel⟩
theorem ok_lday {f : Addr} {fd : FuncData} (F : Fun K "_law_day" "_law_day" sLDay f fd) (T : Blt mg) (C : Cal P w K mg base 1 "_law_draw" ["_law_pen_here", "_law_many"] spDraw) : FnOk P w K mg base CX0 2 f fd ["_law_pen_here", "_law_most"] (spLDay K) := by
  refine F.ok scLDay (fun vs H Q E h => ?_) (fun cdv A outer s H vs Q E hr h => ?_)
  · obtain ⟨p, l, n, rfl, _⟩ := h
    rfl
  · obtain ⟨p, l, n, rfl, hp, nB, q⟩ := h
    refine ⟨_, pss_cons (ps_set (i := 2) scLDay.nd rfl (.inl rfl) (pe_ix ix_list (pe_lst (pa_cons pe_int (pa_cons pe_int (pa_cons pe_int (pa_cons pe_int pa_nil))))) (pe_cal C hr (by decide) rfl (pa_cons (pv 0) (pa_cons pe_int pa_nil))) (fun _ _ => rfl)))
      (pss_cons (ps_set (i := 3) scLDay.nd rfl (.inr rfl) (pe_ix ix_list (pe_lst (pa_cons pe_int (pa_cons pe_int (pa_cons pe_int (pa_cons pe_int pa_nil))))) (pe_cal C hr (by decide) rfl (pa_cons (pv 0) (pa_cons pe_int pa_nil))) (fun _ _ => rfl)))
      (pss_cons (ps_setLc (i := 4) (own := [("_law_k", 5)]) (g := gName 5) (tt := tYes) rfl scLDay.nd rfl rfl (sw_true rfl rfl rfl (by decide +kernel)) (pi_range1 (by rfl) T.range (pa_cons (pe_cal C hr (by decide) rfl (pa_cons (pv 0) (pa_cons (pv 1) pa_nil))) pa_nil))
        (blkOk_by (N := nLDay) (sc := defScope sLDay) (by decide +kernel)) (fun _ _ _ _ _ => pg_name (i := 5) scLDay.nd rfl (Or.inl rfl) (Or.inr rfl)) (fun _ _ _ _ _ => pts_nil) (fun _ _ _ _ _ => pe_cal C hr (by decide) rfl (pa_cons (pv 0) (pa_cons (pv 3) pa_nil))))
      (pss_one (ps_ret (pe_callTy call_tuple_of (by rfl) T.tuple boot_tuple' (pa_cons (pe_op op_cat (pe_op op_cat (pv 4) (pe_lst (pa_cons (pe_op op_add pe_int (pe_cal C hr (by decide) rfl (pa_cons (pv 0) (pa_cons (pe_op op_sub (pv 3) pe_int) pa_nil)))) pa_nil)))
        (pe_op op_rep (pe_lst (pa_cons pe_int pa_nil)) (pv 2))) pa_nil)))))), ?_⟩
    -- _law_behind
    refine ⟨(by show 4 ≤ sizeLine; decide), fun q0 n0 => ?_⟩
    refine ⟨_, rfl, p, l, 4, n, rfl, by decide, by decide, hp.same (same_upd n0), by omega, fun H1 v1 b1 p1 v10 v14 => ?_⟩
    have B1 : PenB p H H1 := (PenB.of (same_upd n0)).trans b1
    obtain ⟨z1, at1, zz1⟩ := pick4 (a := 0) (b := 0) (c := 1) (d := 3) v10 v14
    refine ⟨q0, _, _, _, rfl, rfl, SqL.of (b1 _ _ upd_same (hp.ne n0).1.symm), at1, ?_⟩
    -- _law_bound
    refine ⟨(by show 4 ≤ sizeLine; decide), fun q1 n1 => ?_⟩
    refine ⟨_, rfl, p, l, 4, n + 1, rfl, by decide, by decide, p1.same (same_upd n1), by omega, fun H2 v2 b2 p2 v20 v24 => ?_⟩
    have B2 : PenB p H H2 := B1.trans ((PenB.of (same_upd n1)).trans b2)
    obtain ⟨z2, at2, zz2⟩ := pick4 (a := 2) (b := 4) (c := 20) (d := 1001) v20 v24
    refine ⟨q1, _, _, _, rfl, rfl, SqL.of (b2 _ _ upd_same (p1.ne n1).1.symm), at2, ?_⟩
    -- _law_weights
    refine ⟨_, rfl, _, rfl, p, l, 3, n + 1 + 1, rfl, by decide, by decide, p2, by omega, fun H3 v3 b3 p3 v30 v33 => ?_⟩
    have B3 : PenB p H H3 := B2.trans b3
    refine ⟨v3, rfl, by omega, by omega, fun D nD => ?_⟩
    have nDH := B3.free p3 nD
    have neD := p3.ne nD
    have v3t : (v3.toNat : Int) = v3 := by omega
    refine lc_it (walk_range (lo := 0) (n := v3.toNat)) (fun k H' => PenB p H H' ∧ PenAt H' p l (n + 3 + k) ∧ ∃ ws : List Int, H' D = some (.lst (ws.map V.int)) ∧ ws.length = k ∧ ∀ u ∈ ws, 0 ≤ u ∧ u ≤ 1000)
      ⟨penB_new B3 nD, (p3.put neD).mono (by omega), [], upd_same, rfl, fun u hu => by simp at hu⟩ (fun _ _ _ _ => trivial) ?_ ?_
    · rintro k x H4 H5 hk ⟨B4, p4, ws, hD, hlen, hws⟩ ⟨rfl, rfl⟩
      refine ⟨rfl, tyes ?_⟩
      refine ⟨_, rfl, _, rfl, p, l, z2, n + 3 + k, rfl, by omega, by omega, p4, by omega, fun H5 v5 b5 p5 v50 v5b => ?_⟩
      refine ⟨_, b5.lst p4 hD, ?_, penB_put (B4.trans b5) nDH, (p5.put neD).mono (by omega), ws ++ [v5], ?_, ?_, fun u hu => ?_⟩
      · rw [len_map]
        exact small8 (by omega)
      · rw [upd_same, List.map_append]
        rfl
      · rw [List.length_append, hlen]
        rfl
      · rcases List.mem_append.mp hu with hu | hu
        · exact hws u hu
        · obtain rfl := List.mem_singleton.mp hu
          omega
    · rintro H4 ⟨B4, p4, ws, hD, hlen, hws⟩
      -- tuple(weights + [1 + draw] + [0] * behind)
      refine ⟨_, rfl, _, rfl, _, rfl, _, _, rfl, rfl, p, l, z2 - 1, n + 3 + v3.toNat, rfl, by omega, by omega, p4, by omega, fun H5 v5 b5 p5 v50 v5b => ?_⟩
      refine ⟨_, _, rfl, rfl, (by show 1 ≤ sizeLine; decide), fun q2 n2 => ?_⟩
      have B5 := B4.trans b5
      have hD5 := b5.lst p4 hD
      have e6 := same_upd (o := .lst [V.int (1 + v5)]) n2
      refine ⟨D, q2, _, _, rfl, rfl, e6 _ _ hD5, upd_same, ?_, fun q3 n3 => ?_⟩
      · have z : sizeLine = 16777216 := by decide
        rw [len_map]
        show ws.length + 1 ≤ _
        omega
      have e7 := sThen (o := .lst (ws.map V.int ++ [V.int (1 + v5)])) e6 n3
      refine ⟨(by show 1 ≤ sizeLine; decide), fun q4 n4 => ?_⟩
      have e8 := sThen (o := .lst [V.int 0]) e7 n4
      refine ⟨_, rfl, q4, z1, _, rfl, rfl, upd_same, by omega, by omega, ?_, fun q5 n5 => ?_⟩
      · have z : sizeLine = 16777216 := by decide
        show 1 * z1.toNat ≤ _
        omega
      rw [flat0]
      have e9 := sThen (o := .lst ((List.replicate z1.toNat (0 : Int)).map V.int)) e8 n5
      have h3 : upd (upd (upd (upd H5 q2 (.lst [V.int (1 + v5)])) q3 (.lst (ws.map V.int ++ [V.int (1 + v5)]))) q4 (.lst [V.int 0])) q5 (.lst ((List.replicate z1.toNat (0 : Int)).map V.int)) q3 = some (.lst (ws.map V.int ++ [V.int (1 + v5)])) := by
        have a1 : q3 ≠ q4 := ne_of_none (H := upd (upd H5 q2 (.lst [V.int (1 + v5)])) q3 (.lst (ws.map V.int ++ [V.int (1 + v5)]))) upd_same n4
        have a2 : q3 ≠ q5 := ne_of_none ((upd_ne a1).trans upd_same) n5
        rw [upd_ne a2, upd_ne a1, upd_same]
      refine ⟨q3, q5, _, _, rfl, rfl, h3, upd_same, ?_, fun q6 n6 => ?_⟩
      · have z : sizeLine = 16777216 := by decide
        rw [List.length_append, len_map, len_map, List.length_replicate]
        show ws.length + 1 + z1.toNat ≤ _
        omega
      have e10 := sThen (o := .lst (ws.map V.int ++ [V.int (1 + v5)] ++ (List.replicate z1.toNat (0 : Int)).map V.int)) e9 n6
      refine ⟨q6, _, rfl, .inl ⟨SqL.of upd_same, fun q7 n7 => ?_⟩⟩
      have e11 := sThen (o := .tup (ws.map V.int ++ [V.int (1 + v5)] ++ (List.replicate z1.toNat (0 : Int)).map V.int)) e10 n7
      refine q _ q7 (ws ++ [1 + v5] ++ List.replicate z1.toNat 0) (B5.trans (.of e11)) ((p5.same e11).mono (by omega)) ?_ ⟨?_, fun u hu => ?_, 1 + v5, by simp, by omega⟩
      · have em : (ws ++ [1 + v5] ++ List.replicate z1.toNat 0).map V.int = ws.map V.int ++ [V.int (1 + v5)] ++ (List.replicate z1.toNat (0 : Int)).map V.int := by
          rw [List.map_append, List.map_append]
          rfl
        show SqT K _ q7 ((ws ++ [1 + v5] ++ List.replicate z1.toNat 0).map V.int)
        rw [em]
        exact SqT.of upd_same
      · rw [List.length_append, List.length_append, List.length_replicate]
        show ws.length + 1 + z1.toNat ≤ 8
        omega
      · rcases List.mem_append.mp hu with hu | hu
        · rcases List.mem_append.mp hu with hu | hu
          · exact hws u hu
          · obtain rfl := List.mem_singleton.mp hu
            omega
        · have := (List.mem_replicate.mp hu).2
          omega
end
end TW
/-! the law's prices; what it asks with -/
namespace TW
open PySem PySem.Spec PyProof.Rows L2 TM
theorem joinH {T : Hp → Prop} {G : Prop} {pr : Hp → Prop} (a : ∀ H, pr H → T H) (b : (∀ H, pr H → T H) → G) : G := b a
theorem gr1_le : ∀ (l : List Int) (k : Int), 0 ≤ k → gr1 k l ≤ k + l.length
  | [], k, h => by simp only [gr1, List.length_nil]; omega
  | w :: l, k, h => by
    have := gr1_le l (k + 1) (by omega)
    simp only [gr1, List.length_cons]
    split <;> omega
theorem gr_le : ∀ {F : List (List Int)}, (∀ one ∈ F, one.length ≤ 8) → gr F ≤ 8 * F.length
  | [], _ => by simp [gr]
  | one :: F, h => by
    have h1 := gr_le fun o ho => h o (List.mem_cons_of_mem _ ho)
    have h2 := gr1_le one 0 (by omega)
    have h3 := h one List.mem_cons_self
    rw [gr_cons, List.length_cons]
    omega
section
variable {P : Program} {w : World} {K : PySem.W.Frag} {mg : Str → Option Value} {base : Heap}
abbrev nLPrices : List Str := ["_law_pen_here", "_law_bound", "_law_found", "_law_k"]
theorem scLPrices : FnScope nLPrices ["_law_pen_here"] (defScope sLPrices) := ⟨rfl, rfl, rfl, by decide +kernel, rfl, by decide +kernel, by decide +kernel⟩
theorem ok_lprices {f : Addr} {fd : FuncData} (F : Fun K "_law_prices" "_law_prices" sLPrices f fd) (T : Blt mg) (C : Cal P w K mg base 1 "_law_draw" ["_law_pen_here", "_law_many"] spDraw) : FnOk P w K mg base CX0 2 f fd ["_law_pen_here"] (spLPrices K) := by
  refine F.ok scLPrices (fun vs H Q E h => ?_) (fun cdv A outer s H vs Q E hr h => ?_)
  · obtain ⟨p, l, n, rfl, _⟩ := h
    rfl
  · obtain ⟨p, l, n, rfl, hp, nB, q⟩ := h
    refine ⟨_, pss_cons (ps_set (i := 1) scLPrices.nd rfl (.inr rfl) (pe_ix ix_list (pe_lst (pa_cons pe_int (pa_cons pe_int (pa_cons pe_int (pa_cons (pe_op op_add (pe_op op_pow pe_int pe_int) pe_int) pa_nil))))) (pe_cal C hr (by decide) rfl (pa_cons (pv 0) (pa_cons pe_int pa_nil))) (fun _ _ => rfl)))
      (pss_cons (ps_setLc (i := 2) (own := [("_law_k", 3)]) (g := gName 3) (tt := tYes) rfl scLPrices.nd rfl rfl (sw_true rfl rfl rfl (by decide +kernel)) (pi_range1 (by rfl) T.range (pa_cons pe_int pa_nil))
        (blkOk_by (N := nLPrices) (sc := defScope sLPrices) (by decide +kernel)) (fun _ _ _ _ _ => pg_name (i := 3) scLPrices.nd rfl (Or.inl rfl) (Or.inr rfl)) (fun _ _ _ _ _ => pts_nil) (fun _ _ _ _ _ => pe_cal C hr (by decide) rfl (pa_cons (pv 0) (pa_cons (pv 1) pa_nil))))
      (pss_cons (ps_if (pt_cmpR op_eq (pe_cal C hr (by decide) rfl (pa_cons (pv 0) (pa_cons pe_int pa_nil))) pe_int (nomark _)) (pss_one (ps_asg pe_int (pg_sub (pv 2) pe_int set_list))) pss_nil)
      (pss_cons (ps_if (pt_cmpR op_eq (pe_cal C hr (by decide) rfl (pa_cons (pv 0) (pa_cons pe_int pa_nil))) pe_int (nomark _)) (pss_one (ps_asg (pe_op op_mod (pe_op op_mul (pe_ix ix_list (pv 2) pe_int (fun _ _ => rfl)) pe_int) pe_int) (pg_sub (pv 2) pe_int set_list))) pss_nil)
      (pss_one (ps_ret (pe_callTy call_tuple_of (by rfl) T.tuple boot_tuple' (pa_cons (pv 2) pa_nil))))))), ?_⟩
    refine ⟨_, _, rfl, rfl, ⟨by decide, by decide, by decide⟩, _, _, rfl, rfl, (by show 4 ≤ sizeLine; decide), fun q0 n0 => ?_⟩
    refine ⟨_, rfl, p, l, 4, n, rfl, by decide, by decide, hp.same (same_upd n0), by omega, fun H1 v1 b1 p1 v10 v14 => ?_⟩
    have B1 : PenB p H H1 := (PenB.of (same_upd n0)).trans b1
    obtain ⟨z1, at1, zz1⟩ := pick4 (a := 3) (b := 10) (c := 60) (d := 10 ^ (6 : Int).toNat + 1) v10 v14
    have z1b : 0 < z1 ∧ z1 ≤ 1000001 := by
      have : (10 : Int) ^ (6 : Int).toNat + 1 = 1000001 := by decide
      omega
    refine ⟨q0, _, _, _, rfl, rfl, SqL.of (b1 _ _ upd_same (hp.ne n0).1.symm), at1, ?_⟩
    refine ⟨7, rfl, by decide, by decide, fun D nD => ?_⟩
    have nDH := B1.free p1 nD
    have neD := p1.ne nD
    refine lc_it (walk_range (lo := 0) (n := 7)) (fun k H' => PenB p H H' ∧ PenAt H' p l (n + 1 + k) ∧ ∃ ws : List Int, H' D = some (.lst (ws.map V.int)) ∧ ws.length = k ∧ ∀ u ∈ ws, 0 ≤ u ∧ u ≤ 1000000)
      ⟨penB_new B1 nD, (p1.put neD).mono (by omega), [], upd_same, rfl, fun u hu => by simp at hu⟩ (fun _ _ _ _ => trivial) ?_ ?_
    · rintro k x H4 H5 hk ⟨B4, p4, ws, hD, hlen, hws⟩ ⟨rfl, rfl⟩
      refine ⟨rfl, tyes ?_⟩
      refine ⟨_, rfl, _, rfl, p, l, z1, n + 1 + k, rfl, by omega, by omega, p4, by omega, fun H5 v5 b5 p5 v50 v5b => ?_⟩
      refine ⟨_, b5.lst p4 hD, ?_, penB_put (B4.trans b5) nDH, (p5.put neD).mono (by omega), ws ++ [v5], ?_, ?_, fun u hu => ?_⟩
      · rw [len_map]
        exact small8 (by omega)
      · rw [upd_same, List.map_append]
        rfl
      · rw [List.length_append, hlen]
        rfl
      · rcases List.mem_append.mp hu with hu | hu
        · exact hws u hu
        · obtain rfl := List.mem_singleton.mp hu
          omega
    · rintro H4 ⟨B4, p4, ws, hD, hlen, hws⟩
      refine ⟨_, rfl, p, l, 3, _, rfl, by decide, by decide, p4, by omega, fun H5 v5 b5 p5 v50 v53 => ?_⟩
      have hD5 := b5.lst p4 hD
      have B5 := B4.trans b5
      -- behind the first test
      refine' joinH (T := ?T) (pr := fun H6 => PenB p H H6 ∧ PenAt H6 p l (n + 9) ∧ ∃ ws : List Int, H6 D = some (.lst (ws.map V.int)) ∧ ws.length = 7 ∧ ∀ u ∈ ws, 0 ≤ u ∧ u ≤ 1000000) ?a ?b
      case b =>
        intro rest
        refine ⟨rfl, _, rfl, ite2 (fun c => ?w1) (fun c => ?w2)⟩
        case w2 => exact rest H5 ⟨B5, p5.mono (by omega), ws, hD5, hlen, hws⟩
        case w1 =>
          refine ⟨_, rfl, D, _, _, 0, rfl, rfl, hD5, ?_, rest _ ⟨penB_put B5 nDH, (p5.put neD).mono (by omega), ws.set 0 0, ?_, ?_, fun u hu => ?_⟩⟩
          · rw [len_map, hlen]
            rfl
          · rw [upd_same, List.map_set]
          · rw [List.length_set]
            exact hlen
          · rcases List.mem_or_eq_of_mem_set hu with hu | hu
            · exact hws u hu
            · omega
      case a =>
        rintro H6 ⟨B6, p6, us, hD6, ulen, hus⟩
        refine ⟨_, rfl, p, l, 3, _, rfl, by decide, by decide, p6, by omega, fun H7 v7 b7 p7 v70 v73 => ?_⟩
        have hD7 := b7.lst p6 hD6
        have B7 := B6.trans b7
        have fin : ∀ (H8 : Hp), (PenB p H H8 ∧ PenAt H8 p l (n + 10) ∧ ∃ ws : List Int, H8 D = some (.lst (ws.map V.int)) ∧ ws.length = 7 ∧ ∀ u ∈ ws, 0 ≤ u ∧ u ≤ 1000000) → ∃ p' ys, [V.ref D] = [V.ref p'] ∧ ((SqL K H8 p' ys ∧ ∀ l, H8 l = none → Q (.ref l) (upd H8 l (.tup ys))) ∨ (SqT K H8 p' ys ∧ Q (.ref p') H8)) := fun H8 ⟨B8, p8, us, hD8, ulen, hus⟩ => by
          refine ⟨D, _, rfl, .inl ⟨SqL.of hD8, fun p9 n9 => ?_⟩⟩
          exact q _ p9 us (penB_new B8 n9) (p8.same (same_upd n9)) (SqT.of upd_same) ulen hus
        refine ⟨rfl, _, rfl, ite2 (fun c => ?_) (fun c => ?_)⟩
        · obtain ⟨u, hu⟩ : ∃ u, us[3]? = some u := ⟨us[3], List.getElem?_eq_getElem (by omega)⟩
          have hat : atI (us.map V.int) 3 = some (.int u) := atI_nat (j := 3) (by rw [List.getElem?_map, hu]; rfl)
          refine ⟨_, rfl, D, _, _, _, rfl, rfl, SqL.of hD7, hat, _, _, rfl, rfl, .inr ⟨by decide, by decide⟩, _, _, rfl, rfl, (by show (0 : Int) < 1000001; decide), _, rfl, D, _, _, 3, rfl, rfl, hD7, ?_, ?_⟩
          · rw [len_map, ulen]
            rfl
          · refine ⟨_, rfl, fin _ ⟨penB_put B7 nDH, (p7.put neD).mono (by omega), us.set 3 (u * 3 % 1000001), ?_, ?_, fun x hx => ?_⟩⟩
            · rw [upd_same, List.map_set]
            · rw [List.length_set]
              exact ulen
            · rcases List.mem_or_eq_of_mem_set hx with hx | hx
              · exact hus x hx
              · have a0 := Int.emod_nonneg (u * 3) (show (1000001 : Int) ≠ 0 by decide)
                have a1 := Int.emod_lt_of_pos (u * 3) (show (0 : Int) < 1000001 by decide)
                omega
        · exact ⟨_, rfl, fin H7 ⟨B7, p7.mono (by omega), us, hD7, ulen, hus⟩⟩
abbrev nLAsked : List Str := ["_law_pen_here", "_law_falls", "_law_more", "_law_top", "_law_depth", "_law_stock", "_law_k"]
theorem scLAsked : FnScope nLAsked ["_law_pen_here"] (defScope sLAsked) := ⟨rfl, rfl, rfl, by decide +kernel, rfl, by decide +kernel, by decide +kernel⟩
theorem ok_lasked {f : Addr} {fd : FuncData} (F : Fun K "_law_asked" "_law_asked" sLAsked f fd) (T : Blt mg) (C : Cal P w K mg base 1 "_law_draw" ["_law_pen_here", "_law_many"] spDraw) (C2 : Cal P w K mg base 2 "_law_day" ["_law_pen_here", "_law_most"] (spLDay K))
    (C3 : Cal P w K mg base 1 "_law_greatest" ["_law_falls"] (spLGreat K)) (C4 : Cal P w K mg base 2 "_law_prices" ["_law_pen_here"] (spLPrices K)) : FnOk P w K mg base CX0 3 f fd ["_law_pen_here"] (spLAsked K) := by
  refine F.ok scLAsked (fun vs H Q E h => ?_) (fun cdv A outer s H vs Q E hr h => ?_)
  · obtain ⟨p, l, n, rfl, _⟩ := h
    rfl
  · obtain ⟨p, l, n, rfl, hp, nB, q⟩ := h
    refine ⟨_, pss_cons (ps_set (i := 1) scLAsked.nd rfl (.inl rfl) (pe_callTy call_tuple_of (by rfl) T.tuple boot_tuple' (pa_cons (pe_lc (own := [("_law_k", 6)]) (g := gName 6) (tt := tYes) rfl scLAsked.nd (pi_range1 (by rfl) T.range (pa_cons (pe_op op_add pe_int (pe_cal C hr (by decide) rfl (pa_cons (pv 0) (pa_cons pe_int pa_nil)))) pa_nil))
        (blkOk_by (N := nLAsked) (sc := defScope sLAsked) (by decide +kernel)) (fun _ _ _ _ _ => pg_name (i := 6) scLAsked.nd rfl (Or.inl rfl) (Or.inr rfl)) (fun _ _ _ _ _ => pts_nil) (fun _ _ _ _ _ => pe_cal C2 hr (by decide) rfl (pa_cons (pv 0) (pa_cons pe_int pa_nil)))) pa_nil)))
      (pss_cons (ps_set (i := 2) scLAsked.nd rfl (.inl rfl) (pe_cal C hr (by decide) rfl (pa_cons (pv 0) (pa_cons pe_int pa_nil))))
      (pss_cons (ps_set (i := 3) scLAsked.nd rfl (.inl rfl) (pe_cal C hr (by decide) rfl (pa_cons (pv 0) (pa_cons pe_int pa_nil))))
      (pss_cons (ps_set (i := 4) scLAsked.nd rfl (.inl rfl) (pe_op op_add (pe_cal C3 hr (by decide) rfl (pa_cons (pv 1) pa_nil)) (pv 2)))
      (pss_cons (ps_set (i := 5) scLAsked.nd rfl (.inl rfl) (pe_op op_sub (pe_cal C hr (by decide) rfl (pa_cons (pv 0) (pa_cons (pe_op op_add (pe_op op_add (pv 3) (pv 2)) pe_int) pa_nil))) (pv 2)))
      (pss_one (ps_ret (pe_tup (pa_cons (pe_op op_catT (pe_tup (pa_cons (pv 3) (pa_cons (pv 4) pa_nil))) (pe_cal C4 hr (by decide) rfl (pa_cons (pv 0) pa_nil))) (pa_cons (pv 1) (pa_cons (pv 5) pa_nil)))))))))), ?_⟩
    refine ⟨_, rfl, p, l, 3, n, rfl, by decide, by decide, hp, by omega, fun H1 v1 b1 p1 v10 v13 => ?_⟩
    refine ⟨_, _, rfl, rfl, 2 + v1, rfl, by omega, by omega, fun D nD => ?_⟩
    have nDH := b1.free p1 nD
    have neD := p1.ne nD
    refine lc_it (walk_range (lo := 0) (n := (2 + v1).toNat)) (fun k H' => PenB p H H' ∧ PenAt H' p l (n + 1 + 6 * k) ∧ ∃ (ps : List Addr) (F : List (List Int)), H' D = some (.lst (ps.map V.ref)) ∧ Paired (fun a one => IntT K H' a one) ps F ∧ F.length = k ∧ ∀ one ∈ F, DayB one)
      ⟨penB_new b1 nD, (p1.put neD).mono (by omega), [], [], upd_same, .nil, rfl, fun u hu => by simp at hu⟩ (fun _ _ _ _ => trivial) ?_ ?_
    · rintro k x H4 H5 hk ⟨B4, p4, ps, F, hD, pr, hlen, hF⟩ ⟨rfl, rfl⟩
      refine ⟨rfl, tyes ?_⟩
      refine ⟨_, rfl, p, l, n + 1 + 6 * k, rfl, p4, by omega, fun H5 p' one b5 p5 h5 O => ?_⟩
      have hD5 := b5 _ _ hD neD.1.symm
      have lps := pLen pr
      refine ⟨_, hD5, ?_, penB_put (B4.trans b5) nDH, (p5.put neD).mono (by omega), ps ++ [p'], F ++ [one], ?_, ?_, ?_, fun u hu => ?_⟩
      · rw [List.length_map, lps]
        exact small8 (by omega)
      · rw [upd_same, List.map_append]
        rfl
      · refine pSnoc (F := fun a one => IntT K _ a one) (sqT_putL hD5 h5) ?_
        exact pImp pr fun _ _ z => sqT_putL hD5 (b5.seqT p4 z)
      · rw [List.length_append, hlen]
        rfl
      · rcases List.mem_append.mp hu with hu | hu
        · exact hF u hu
        · obtain rfl := List.mem_singleton.mp hu
          exact O
    · rintro H4 ⟨B4, p4, ps, F, hD, pr, hlen, hF⟩
      have FB : FB F := ⟨by omega, hF⟩
      refine ⟨D, _, rfl, .inl ⟨SqL.of hD, fun t1 n1 => ?_⟩⟩
      have e5 := same_upd (o := .tup (ps.map V.ref)) n1
      have fls5 : Fls K (upd H4 t1 (.tup (ps.map V.ref))) t1 F := ⟨ps, SqT.of upd_same, pImp pr fun _ _ z => sameT e5 z⟩
      have B5 := penB_new (o := .tup (ps.map V.ref)) B4 n1
      have p5 := p4.same e5
      show gName 1 (V.ref t1) _ (upd H4 t1 (.tup (ps.map V.ref))) _
      generalize upd H4 t1 (.tup (ps.map V.ref)) = H5 at fls5 B5 p5
      have flsB : ∀ {H H' : Hp} {m : Int}, Fls K H t1 F → PenAt H p l m → PenB p H H' → Fls K H' t1 F := fun ⟨ps, a, b⟩ hp e => ⟨ps, e.seqT hp a, pImp b fun _ _ z => e.seqT hp z⟩
      refine ⟨_, rfl, p, l, 3, _, rfl, by decide, by decide, p5, by omega, fun H6 more b6 p6 m0 m3 => ?_⟩
      have fls6 := flsB fls5 p5 b6
      refine ⟨_, rfl, p, l, 6, _, rfl, by decide, by decide, p6, by omega, fun H7 top b7 p7 t0 t6 => ?_⟩
      have fls7 := flsB fls6 p6 b7
      refine ⟨_, rfl, t1, F, rfl, fls7, FB, fun H8 e8 => ?_⟩
      have p8 := p7.same e8
      refine ⟨_, rfl, _, _, rfl, rfl, ?_⟩
      refine ⟨_, rfl, _, rfl, _, rfl, _, _, rfl, rfl, _, _, rfl, rfl, p, l, top + more + 1, _, rfl, by omega, by omega, p8, by omega, fun H9 st b9 p9 s0 s1 => ?_⟩
      have fls9 := flsB (fls7.same e8) p8 b9
      refine ⟨_, rfl, _, _, rfl, rfl, ?_⟩
      have B9 : PenB p H H9 := (((B5.trans b6).trans b7).trans (.of e8)).trans b9
      -- the shop
      refine ⟨_, rfl, _, rfl, (by show 2 ≤ sizeLine; decide), fun t2 n2 => ?_⟩
      have e10 := same_upd (o := .tup [V.int top, .int (gr F + more)]) n2
      refine ⟨_, rfl, p, l, _, rfl, p9.same e10, by omega, fun H11 t3 us b11 p11 h11 ulen hus => ?_⟩
      have h10 : SqT K (upd H9 t2 (.tup [V.int top, .int (gr F + more)])) t2 [V.int top, .int (gr F + more)] := SqT.of upd_same
      have h10' := b11.seqT (p9.same e10) h10
      have fls11 := flsB (fls9.same e10) (p9.same e10) b11
      refine ⟨t2, t3, _, _, rfl, rfl, h10', h11, by simp, ?_, fun z => ?_, fun _ t4 n4 => ?_⟩
      · rw [len_map, ulen]
        show 2 + 7 ≤ sizeLine
        decide
      · have := congrArg List.length z
        rw [len_map, ulen] at this
        cases this
      obtain ⟨a1, a2, a3, a4, a5, a6, a7, rfl⟩ : ∃ a1 a2 a3 a4 a5 a6 a7, us = [a1, a2, a3, a4, a5, a6, a7] := by
        match us, ulen with
        | [a1, a2, a3, a4, a5, a6, a7], _ => exact ⟨_, _, _, _, _, _, _, rfl⟩
      have e12 := same_upd (o := .tup ([V.int top, .int (gr F + more)] ++ [a1, a2, a3, a4, a5, a6, a7].map V.int)) n4
      refine ⟨_, rfl, _, rfl, (by show 3 ≤ sizeLine; decide), fun t5 n5 => ?_⟩
      have e13 := same_upd (o := .tup [V.ref t4, .ref t1, .int (st - more)]) n5
      have g0 := gr_mono F F.length
      rw [List.take_length] at g0
      have g1 := gr_le fun one ho => (FB.day one ho).len
      have fl := FB.len
      have B13 : PenB p H (upd (upd H11 t4 (.tup ([V.int top, .int (gr F + more)] ++ [a1, a2, a3, a4, a5, a6, a7].map V.int))) t5 (.tup [V.ref t4, .ref t1, .int (st - more)])) := ((B9.trans (.of e10)).trans b11).trans (.of (e12.trans e13))
      refine q _ t5 t4 t1 ⟨top, gr F + more, a1, a2, a3, a4, a5, a6, a7⟩ F (st - more) B13 (SqT.of upd_same) (ShopAt.same (SqT.of upd_same) e13) ?_ ((fls11.same e12).same e13) FB (by omega) (by show st - more ≤ top; omega) (by show gr F - (gr F + more) ≤ st - more; omega)
      exact ⟨⟨t0, by show top ≤ 5; omega⟩, ⟨by show 0 ≤ gr F + more; omega, by show gr F + more ≤ 100; omega⟩, hus a1 (by simp), hus a2 (by simp), hus a3 (by simp), hus a4 (by simp), hus a5 (by simp), hus a6 (by simp), hus a7 (by simp)⟩
end
end TW
/-! the law's bottom, share, mixing, rows -/
namespace TW
open PySem PySem.Spec PyProof.Rows L2 TM
abbrev sLBottom : Stmt := topS 37
abbrev sLShare : Stmt := topS 38
abbrev sLRows : Stmt := topS 39
abbrev sLMixed : Stmt := topS 42
def spLBottom (K : PySem.W.Frag) : Sp := fun vs H Q _ => ∃ (b : Addr) (F : List (List Int)), vs = [.ref b, .int 0] ∧ Fls K H b F ∧ FB F ∧ ∀ H', Same H H' → Q (.int (TI F)) H'
def spLMixed (K : PySem.W.Frag) : Sp := fun vs H Q _ => ∃ (key t c : Int) (a : Addr) (row : List Int), vs = [.int key, .int t, .int c, .ref a] ∧ IntT K H a row ∧ 0 ≤ key ∧ key < 1000000000 ∧ 0 ≤ t ∧ t ≤ 10 ∧ -1000 ≤ c ∧ c ≤ 1000 ∧ Q (.int (mixF key t c row)) H
/-! ### all but lists and code tables is kept -/
def Keep (H H' : Hp) : Prop := ∀ b o, H b = some o → (∀ l, o ≠ .lst l) → (∀ ps, o ≠ .tbl ps) → (∀ φ, o ≠ .ext φ) → H' b = some o
theorem Keep.refl (H : Hp) : Keep H H := fun _ _ h _ _ _ => h
theorem Keep.trans {H H1 H2 : Hp} (a : Keep H H1) (b : Keep H1 H2) : Keep H H2 := fun c o h n m k => b c o (a c o h n m k) n m k
theorem Keep.of {H H' : Hp} (e : Same H H') : Keep H H' := fun b o h _ _ _ => e b o h
theorem Keep.ofN {H H' : Hp} (e : LamX.ExtN H H') : Keep H H' := fun b o h _ n _ => e b o h n
theorem Keep.put {H : Hp} {p : Addr} {o : HO} {l : List V} (h : H p = some (.lst l)) : Keep H (upd H p o) := fun b x e n _ _ => by
  rw [upd_ne]
  · exact e
  · intro z
    rw [z, h] at e
    exact n _ (Option.some.inj e).symm
theorem keepT {K : PySem.W.Frag} {H H' : Hp} {a : Addr} {xs : List V} (e : Keep H H') (h : SqT K H a xs) : SqT K H' a xs := by
  rcases h with (h | ⟨o, h⟩) | h
  · exact .inl (.inl (e _ _ h (fun _ z => by cases z) (fun _ z => by cases z) fun _ z => by cases z))
  · exact .inl (.inr ⟨o, e _ _ h (fun _ z => by cases z) (fun _ z => by cases z) fun _ z => by cases z⟩)
  · exact .inr h
section
variable {K : PySem.W.Frag} {H H' : Hp} {p : Addr}
theorem Sh.keep {q : Rat} (h : Sh K H p q) (e : Keep H H') : Sh K H' p q := keepT e h
theorem ShopAt.keep {S : Shop} (h : ShopAt K H p S) (e : Keep H H') : ShopAt K H' p S := keepT e h
theorem Fls.keep {F : List (List Int)} (h : Fls K H p F) (e : Keep H H') : Fls K H' p F := let ⟨ps, a, b⟩ := h; ⟨ps, keepT e a, pImp b fun _ _ q => keepT e q⟩
theorem Pr.keep {x : Rat × Int} (h : Pr K H p x) (e : Keep H H') : Pr K H' p x := let ⟨c, a, b⟩ := h; ⟨c, keepT e a, b.keep e⟩
theorem RowA.keep {x : List (Rat × Int)} (h : RowA K H p x) (e : Keep H H') : RowA K H' p x := let ⟨ps, a, b⟩ := h; ⟨ps, keepT e a, pImp b fun _ _ q => q.keep e⟩
theorem TabA.keep {x : List (List (Rat × Int))} (h : TabA K H p x) (e : Keep H H') : TabA K H' p x := let ⟨ps, a, b⟩ := h; ⟨ps, keepT e a, pImp b fun _ _ q => q.keep e⟩
end
theorem catA_all {K : PySem.W.Frag} {H : Hp} {a b : Addr} {xs ys : List V} {Q : VK} (ha : SqT K H a xs) (hb : SqT K H b ys) (hz : xs.length + ys.length ≤ sizeLine) (ne : ys ≠ []) (h : ∀ H' p, Same H H' → SqT K H' p (xs ++ ys) → Q (.ref p) H') : rCatA K (.ref a) (.ref b) H Q :=
  ⟨a, b, xs, ys, rfl, rfl, ha, hb, hz, fun e => by subst e; exact h H b (.refl _) hb, fun _ e => absurd e ne, fun _ _ p np => h _ p (same_upd np) (SqT.of upd_same)⟩
theorem mix_bd : ∀ (row : List Int) (b : Int), b.natAbs < 2 ^ 64 → (row.foldl mixS b).natAbs < 2 ^ 64
  | [], b, h => h
  | f :: row, b, h => by
    refine mix_bd row (mixS b f) ?_
    unfold mixS
    have h1 := Int.emod_nonneg (b * 31 + f + 1) (show (2147483647 : Int) ≠ 0 by decide)
    have h2 := Int.emod_lt_of_pos (b * 31 + f + 1) (show (0 : Int) < 2147483647 by decide)
    omega
section
variable {P : Program} {w : World} {K : PySem.W.Frag} {mg : Str → Option Value} {base : Heap}
abbrev nLBottom : List Str := ["_law_falls", "_law_t", "_law_found", "_law_one"]
theorem scLBottom : FnScope nLBottom ["_law_falls", "_law_t"] (defScope sLBottom) := ⟨rfl, rfl, rfl, by decide +kernel, rfl, by decide +kernel, by decide +kernel⟩
theorem ok_lbottom {f : Addr} {fd : FuncData} (F : Fun K "_law_bottom" "_law_bottom" sLBottom f fd) (T : Blt mg) : FnOk P w K mg base CX0 1 f fd ["_law_falls", "_law_t"] (spLBottom K) := by
  refine F.ok scLBottom (fun vs H Q E h => ?_) (fun cdv A outer s H vs Q E hr h => ?_)
  · obtain ⟨b, F, rfl, _⟩ := h
    rfl
  · obtain ⟨b, F, rfl, ⟨ps, hb, pr⟩, B, q⟩ := h
    refine ⟨_, pss_cons (ps_set (i := 2) scLBottom.nd rfl (.inl rfl) pe_int)
      (pss_cons (ps_for PassesOwn.never rfl (pi_tup (pe_slice sl_tupA (pv 0) (po_some (pv 1)) po_none)) (pg_name (i := 3) scLBottom.nd rfl (.inl rfl))
        (pss_one (ps_set (i := 2) scLBottom.nd rfl (.inl rfl) (pe_op op_mul (pv 2) (pe_callB (cr_sumT rfl) (by rfl) T.sum boot_sum' (pa_cons (pv 3) pa_nil))))))
      (pss_one (ps_ret (pv 2)))), ?_⟩
    have z0 : HT.sIx (ps.map V.ref).length 0 (some 0) = 0 := HT.sIx_nat _ 0 0
    refine ⟨_, rfl, _, rfl, 0, rfl, b, ps.map V.ref, rfl, hb, fun _ => ?_, fun n => absurd ⟨z0, rfl⟩ n⟩
    refine ⟨b, rfl, ⟨_, hb⟩, ?_⟩
    refine for_it (walk_tup (xs := ps.map V.ref)) (fun i σ H' => ∃ y : Option V, σ = [some (.ref b), some (.int 0), some (.int (TI (F.take i))), y] ∧ Same H H')
      ⟨none, rfl, .refl _⟩ (fun i σ H' _ ⟨_, _, e⟩ => sameT e hb) ?_ ?_
    · rintro i x σ H1 H2 hi ⟨y, rfl, e1⟩ ⟨rfl, g1⟩
      obtain ⟨p, hp, rfl⟩ := mapr_get g1
      obtain ⟨one, ho, h1⟩ := pAt2 pr hp
      have O := B.day one (List.mem_of_getElem? ho)
      have sB := O.sum
      refine ⟨_, rfl, _, rfl, p, one, rfl, sameT e1 h1, _, _, rfl, rfl, .inr ⟨by omega, by omega⟩, some (.ref p), ?_, e1⟩
      rw [take_more ho, TI_snoc]
      rfl
    · rintro σ H1 ⟨y, rfl, e1⟩
      have el : (ps.map V.ref).length = F.length := by rw [List.length_map]; exact pLen pr
      rw [el, List.take_length]
      exact ⟨_, rfl, q H1 e1⟩
abbrev nLShare : List Str := ["_law_top", "_law_bottom_here", "_law_one", "_law_other"]
theorem scLShare : FnScope nLShare ["_law_top", "_law_bottom_here"] (defScope sLShare) := ⟨rfl, rfl, rfl, by decide +kernel, rfl, by decide +kernel, by decide +kernel⟩
theorem ok_lshare {f : Addr} {fd : FuncData} (F : Fun K "_law_share" "_law_share" sLShare f fd) (T : Blt mg) : FnOk P w K mg base CX0 1 f fd ["_law_top", "_law_bottom_here"] (spShare K) := by
  refine F.ok scLShare (fun vs H Q E h => ?_) (fun cdv A outer s H vs Q E hr h => ?_)
  · obtain ⟨t, b, rfl, _⟩ := h
    rfl
  · obtain ⟨t, b, rfl, hb, hB, q⟩ := h
    refine ⟨_, pss_cons (ps_par (i := 2) (j := 3) (by rfl) scLShare.nd rfl rfl (by decide) rfl rfl (pa_cons (pe_callB call_abs (by rfl) T.abs boot_abs (pa_cons (pv 0) pa_nil)) (pa_cons (pv 1) pa_nil)) (by rfl))
      (pss_cons (ps_while PassesOwn.never (pt_cmpR op_gt (pv 3) pe_int (nomark _)) (pss_one (ps_par (i := 2) (j := 3) (by rfl) scLShare.nd rfl rfl (by decide) rfl rfl (pa_cons (pv 3) (pa_cons (pe_op op_mod (pv 2) (pv 3)) pa_nil)) (by rfl))))
      (pss_one (ps_ret (pe_tup (pa_cons (pe_op op_fdivW (pv 0) (pv 2)) (pa_cons (pe_op op_fdivW (pv 1) (pv 2)) pa_nil)))))), ?_⟩
    refine ⟨_, rfl, _, rfl, _, rfl, _, _, rfl, ?_⟩
    refine while_by (fun σ H' => ∃ x y : Int, σ = [some (.int t), some (.int b), some (.int x), some (.int y)] ∧ 0 ≤ x ∧ 0 ≤ y ∧ Int.gcd x y = Int.gcd t b ∧ H' = H) (fun σ _ => match σ with | [_, _, _, some (.int y)] => y.toNat | _ => 0) ⟨(if t < 0 then -t else t), b, rfl, by split <;> omega, by omega, abs_gcd t b, rfl⟩ ?_ ?_
    · rintro σ H' ⟨x, y, rfl, hx, hy, hg, rfl⟩
      refine ⟨_, rfl, _, _, rfl, rfl, _, rfl, ite2 (fun e => ?_) (fun e => ?_)⟩
      · have hp : 0 < y := of_decide_eq_true e
        refine ⟨_, rfl, _, rfl, _, rfl, x, y, rfl, rfl, hp, _, _, rfl, ⟨y, x % y, rfl, hy, Int.emod_nonneg _ (by omega), (gcd_turn hx hp).trans hg, rfl⟩, ?_⟩
        show (x % y).toNat < y.toNat
        have := Int.emod_lt_of_pos x hp
        omega
      · have hz : y = 0 := by
          have : ¬ 0 < y := fun z => e (decide_eq_true z)
          omega
        subst hz
        have e2 : x = (Int.gcd t b : Int) := by
          rw [← hg, Int.gcd_zero_right]
          omega
        subst e2
        obtain ⟨g0, gB⟩ := gcd_bound (t := t) hb hB
        refine ⟨_, rfl, _, rfl, _, _, rfl, rfl, wide_div g0 gB (by decide) (by decide), _, rfl, _, rfl, _, _, rfl, rfl, wide_div g0 gB (by decide) (by decide), (by show 2 ≤ sizeLine; decide), fun p np => ?_⟩
        refine q _ p (same_upd np) ?_
        unfold Sh
        rw [share_num hb, share_den hb]
        exact SqT.of upd_same
    · rintro σ H' Q1 Q2 k ⟨v, e1, i, j, e2, e3, k', e4, q⟩
      exact ⟨v, e1, i, j, e2, e3, k', e4, k _ _ q⟩
abbrev nLMixed : List Str := ["_law_key", "_law_t", "_law_counted", "_law_row", "_law_number", "_law_fall"]
theorem scLMixed : FnScope nLMixed ["_law_key", "_law_t", "_law_counted", "_law_row"] (defScope sLMixed) := ⟨rfl, rfl, rfl, by decide +kernel, rfl, by decide +kernel, by decide +kernel⟩
theorem ok_lmixed {f : Addr} {fd : FuncData} (F : Fun K "_law_mixed" "_law_mixed" sLMixed f fd) : FnOk P w K mg base CX0 1 f fd ["_law_key", "_law_t", "_law_counted", "_law_row"] (spLMixed K) := by
  refine F.ok scLMixed (fun vs H Q E h => ?_) (fun cdv A outer s H vs Q E hr h => ?_)
  · obtain ⟨key, t, c, a, row, rfl, _⟩ := h
    rfl
  · obtain ⟨key, t, c, a, row, rfl, ha, k0, k1, t0, t1, c0, c1, q⟩ := h
    refine ⟨_, pss_cons (ps_set (i := 4) scLMixed.nd rfl (.inl rfl) (pe_op op_add (pe_op op_add (pv 0) (pe_op op_mul pe_int (pv 1))) (pe_op op_mul pe_int (pe_op op_add (pv 2) pe_int))))
      (pss_cons (ps_for PassesOwn.never rfl (pi_tup (pv 3)) (pg_name (i := 5) scLMixed.nd rfl (.inl rfl))
        (pss_one (ps_set (i := 4) scLMixed.nd rfl (.inl rfl) (pe_op op_mod (pe_op op_add (pe_op op_add (pe_op op_mul (pv 4) pe_int) (pv 5)) pe_int) pe_int))))
      (pss_one (ps_ret (pe_op op_fdiv (pe_op op_mod (pe_op op_pow (pv 4) pe_int) pe_int) pe_int)))), ?_⟩
    refine ⟨_, rfl, _, rfl, _, _, rfl, rfl, .inl ⟨by decide, by decide⟩, _, _, rfl, rfl, _, rfl, _, _, rfl, rfl, _, _, rfl, rfl, .inl ⟨by decide, by decide⟩, _, _, rfl, rfl, ?_⟩
    refine ⟨_, rfl, a, rfl, ⟨_, ha⟩, ?_⟩
    refine for_it (walk_tup (xs := row.map V.int)) (fun i σ H' => ∃ y : Option V, σ = [some (.int key), some (.int t), some (.int c), some (.ref a), some (.int ((row.take i).foldl mixS (key + 7919 * t + 104729 * (c + 60)))), y] ∧ H' = H)
      ⟨none, rfl, rfl⟩ (fun i σ H' _ ⟨_, _, e⟩ => by rw [e]; exact ha) ?_ ?_
    · rintro i x σ H1 H2 hi ⟨y, rfl, rfl⟩ ⟨rfl, g1⟩
      obtain ⟨z, hz, rfl⟩ := map_get g1
      refine ⟨_, rfl, _, _, rfl, rfl, .inr ⟨by decide, by decide⟩, _, rfl, _, _, rfl, rfl, _, _, rfl, rfl, _, _, rfl, rfl, (by show (0 : Int) < 2147483647; decide), some (.int z), ?_, rfl⟩
      rw [take_more hz, List.foldl_append]
      rfl
    · rintro σ H1 ⟨y, rfl, rfl⟩
      rw [len_map, List.take_length]
      have bd := mix_bd row (key + 7919 * t + 104729 * (c + 60)) (by omega)
      refine ⟨_, rfl, _, _, rfl, rfl, ⟨by decide, by decide, bd⟩, _, _, rfl, rfl, (by show (0 : Int) < 2147483629; decide), _, _, rfl, rfl, ⟨by decide, by decide⟩, q⟩
def RwA (K : PySem.W.Frag) (H : Hp) (a : Addr) (x : List Int × Int) : Prop := ∃ r, SqT K H a [.ref r, .int x.2] ∧ IntT K H r x.1
theorem RwA.same {K : PySem.W.Frag} {H H' : Hp} {a : Addr} {x : List Int × Int} (h : RwA K H a x) (e : Same H H') : RwA K H' a x := let ⟨r, p, q⟩ := h; ⟨r, sameT e p, sameT e q⟩
theorem RwA.keep {K : PySem.W.Frag} {H H' : Hp} {a : Addr} {x : List Int × Int} (h : RwA K H a x) (e : Keep H H') : RwA K H' a x := let ⟨r, p, q⟩ := h; ⟨r, keepT e p, keepT e q⟩
def spLRows (K : PySem.W.Frag) : Sp := fun vs H Q _ => ∃ (b : Addr) (F : List (List Int)), vs = [.ref b] ∧ Fls K H b F ∧ FB F ∧ ∀ H' p (as : List Addr), Same H H' → H' p = some (.lst (as.map V.ref)) → Paired (fun a x => RwA K H' a x) as (rowsOf F) → Q (.ref p) H'
abbrev nLRows : List Str := ["_law_falls", "_law_rows_here", "_law_one", "_law_more", "_law_row", "_law_many", "_law_fall", "_law_weight"]
theorem scLRows : FnScope nLRows ["_law_falls"] (defScope sLRows) := ⟨rfl, rfl, rfl, by decide +kernel, rfl, by decide +kernel, by decide +kernel⟩
theorem rows_lenB {F : List (List Int)} (B : FB F) : (rowsOf F).length ≤ 4096 := by
  have a := rows_len fun one ho => (B.day one ho).len
  have b : 8 ^ F.length ≤ 8 ^ 4 := Nat.pow_le_pow_right (by decide) B.len
  have c : 8 ^ 4 = 4096 := by decide
  omega
theorem stepR_append (one : List Int) (a b : List (List Int × Int)) : stepR one (a ++ b) = stepR one a ++ stepR one b := by
  unfold stepR
  rw [List.flatMap_append]
theorem pAppend {α β : Type} {F : α → β → Prop} : ∀ {l l2 : List α} {m m2 : List β}, Paired F l m → Paired F l2 m2 → Paired F (l ++ l2) (m ++ m2)
  | _, _, _, _, .nil, h => h
  | _, _, _, _, .cons r t, h => .cons r (pAppend t h)
theorem ok_lrows {f : Addr} {fd : FuncData} (F : Fun K "_law_rows" "_law_rows" sLRows f fd) (T : Blt mg) : FnOk P w K mg base CX0 1 f fd ["_law_falls"] (spLRows K) := by
  refine F.ok scLRows (fun vs H Q E h => ?_) (fun cdv A outer s H vs Q E hr h => ?_)
  · obtain ⟨b, F, rfl, _⟩ := h
    rfl
  · obtain ⟨b, F, rfl, ⟨ps, hb, pr⟩, B, q⟩ := h
    refine ⟨_, pss_cons (ps_set (i := 1) scLRows.nd rfl (.inl rfl) (pe_lst (pa_cons (pe_tup (pa_cons (pe_tup pa_nil) (pa_cons pe_int pa_nil))) pa_nil)))
      (pss_cons (ps_for PassesOwn.never rfl (pi_tup (pv 0)) (pg_name (i := 2) scLRows.nd rfl (.inl rfl))
        (pss_cons (ps_set (i := 3) scLRows.nd rfl (.inl rfl) (pe_lst pa_nil))
        (pss_cons (ps_for PassesOwn.never rfl (pi_list (pv 1)) (pg_pair (i := 4) (j := 5) rfl scLRows.nd rfl rfl (Or.inr rfl) (Or.inr rfl) (Or.inl rfl) (Or.inl rfl))
          (pss_one (ps_expr (pe_bm PySem.F.plainAttrs_list PySem.F.slot_list_extend PySem.F.type_list_extend mt_extend (pv 3) (pa_cons
            (pe_lc (own := [("_law_fall", 6), ("_law_weight", 7)]) (g := gPair K 6 7) rfl scLRows.nd (pi_enumT (by rfl) T.enum (pa_cons (pv 2) pa_nil))
              (blkOk_by (N := nLRows) (sc := defScope sLRows) (by decide +kernel))
              (fun _ _ _ _ _ => pg_pair (i := 6) (j := 7) rfl scLRows.nd rfl rfl (Or.inl rfl) (Or.inl rfl) (Or.inr rfl) (Or.inr rfl))
              (fun _ _ _ _ _ => pts_one (pt_cmpR op_gt (pv 7) pe_int (nomark _)))
              (fun _ _ _ _ _ => pe_tup (pa_cons (pe_op (r := rCatA K) op_catA (pv 4) (pe_tup (pa_cons (pv 6) pa_nil))) (pa_cons (pe_op op_mul (pv 5) (pv 7)) pa_nil)))) pa_nil)))))
        (pss_one (ps_set (i := 1) scLRows.nd rfl (.inl rfl) (pv 3))))))
      (pss_one (ps_ret (pv 1)))), ?_⟩
    have start : Fls K H b F := ⟨ps, hb, pr⟩
    -- [((), 1)]
    refine ⟨Nat.zero_le _, fun q0 n0 => ?_⟩
    refine ⟨(by show 2 ≤ sizeLine; decide), fun q1 n1 => ?_⟩
    refine ⟨(by show 1 ≤ sizeLine; decide), fun q2 n2 => ?_⟩
    have e0 := same_upd (o := .tup []) n0
    have e1 := same_upd (o := .tup [V.ref q0, .int 1]) n1
    have e2 := same_upd (o := .lst [V.ref q1]) n2
    have E1 : Same H _ := (e0.trans e1).trans e2
    generalize hH1 : upd (upd (upd H q0 (.tup [])) q1 (.tup [V.ref q0, .int 1])) q2 (.lst [V.ref q1]) = H1 at e2 E1
    have at2 : H1 q2 = some (.lst ([q1].map V.ref)) := by rw [← hH1]; exact upd_same
    have rw0 : RwA K H1 q1 ([], 1) := ⟨q0, sameT e2 (SqT.of upd_same), sameT (e1.trans e2) (SqT.of upd_same)⟩
    refine ⟨_, rfl, b, rfl, ⟨_, sameT E1 hb⟩, ?_⟩
    refine for_it (walk_tup (xs := ps.map V.ref)) (fun i σ H' => ∃ (pf : Addr) (as : List Addr) (y2 y3 y4 y5 : Option V), σ = [some (.ref b), some (.ref pf), y2, y3, y4, y5, none, none] ∧ Same H H' ∧ H' pf = some (.lst (as.map V.ref)) ∧ Paired (fun a x => RwA K H' a x) as (rowsOf (F.take i)))
      ⟨q2, [q1], none, none, none, none, rfl, E1, at2, .cons rw0 .nil⟩ (fun i σ H' _ ⟨_, _, _, _, _, _, _, e, _⟩ => sameT e hb) ?_ ?_
    · rintro i x σ H2' H2 hi ⟨pf, as, y2, y3, y4, y5, rfl, e3, hf, pa⟩ ⟨rfl, g1⟩
      obtain ⟨p, hp, rfl⟩ := mapr_get g1
      obtain ⟨one, ho, h1⟩ := pAt2 pr hp
      have O := B.day one (List.mem_of_getElem? ho)
      have il : i < F.length := len_of ho
      have lB := rows_lenB (B.take (i + 1))
      rw [rowsOf_take_more ho] at lB
      have alen : as.length = (rowsOf (F.take i)).length := pLen pa
      refine ⟨Nat.zero_le _, fun pm nm => ?_⟩
      have em := same_upd (o := .lst []) nm
      refine ⟨_, rfl, pf, rfl, ⟨_, SqL.of (em _ _ hf)⟩, ?_⟩
      refine for_it (walk_list (xs := as.map V.ref)) (fun a σ H' => ∃ (bs : List Addr) (y4 y5 : Option V), σ = [some (.ref b), some (.ref pf), some (.ref p), some (.ref pm), y4, y5, none, none] ∧ Same H2 H' ∧ H' pm = some (.lst (bs.map V.ref)) ∧ Paired (fun a x => RwA K H' a x) bs (stepR one ((rowsOf (F.take i)).take a)))
        ⟨[], _, _, rfl, em, upd_same, .nil⟩ (fun a σ H' _ ⟨_, _, _, _, e, _⟩ => SqL.of (e _ _ hf)) ?_ ?_
      · rintro a x σ H3' H3 ha ⟨bs, y4, y5, rfl, e4, hm, pb⟩ ⟨rfl, g2⟩
        obtain ⟨q3, hq3, rfl⟩ := mapr_get g2
        obtain ⟨⟨row, many⟩, hrow, hra⟩ := pAt2 pa hq3
        obtain ⟨r, hr1, hr2⟩ := hra.same e4
        have hr1 : SqT K H3 q3 [.ref r, .int many] := hr1
        have hr2 : IntT K H3 r row := hr2
        have rowM := rows_mem _ (List.mem_of_getElem? hrow)
        have rl : row.length = (F.take i).length := rowM.1.len
        rw [List.length_take] at rl
        have Fl := B.len
        refine ⟨q3, _, rfl, hr1, rfl, _, _, rfl, _, _, rfl, rfl, ?_⟩
        refine ⟨_, rfl, .inl ⟨rfl, _, SqL.of hm⟩, ?_⟩
        refine ⟨_, rfl, p, _, rfl, sameT (e3.trans e4) h1, fun D nD => ?_⟩
        have eD := same_upd (o := .lst []) nD
        refine lc_it walk_enumT (fun c H' => Same H3 H' ∧ ∃ cs : List Addr, H' D = some (.lst (cs.map V.ref)) ∧ Paired (fun a x => RwA K H' a x) cs (ext row many 0 (one.take c)))
          ⟨eD, [], upd_same, .nil⟩ (fun c H' _ h => sameT (e3.trans (e4.trans h.1)) h1) ?_ ?_
        · rintro c x H5 H6 hc ⟨e5, cs, hD, pc⟩ ⟨t, x1, x2, rfl, nt, rfl, g3, g4⟩
          obtain ⟨z, hz, rfl⟩ := map_get g4
          obtain rfl : V.int (c : Nat) = x1 := Option.some.inj g3
          have zB := O.w z (List.mem_of_getElem? hz)
          have et := same_upd (o := .tup [V.int (c : Nat), V.int z]) nt
          refine ⟨t, _, rfl, SqT.of upd_same, rfl, _, _, rfl, _, _, rfl, rfl, rfl, ?_⟩
          refine ⟨_, rfl, _, _, rfl, rfl, _, rfl, ?_⟩
          have sn := ext_snoc row many z (one.take c) 0
          rw [← take_more hz, List.length_take, Nat.min_eq_left (Nat.le_of_lt (len_of hz)), Int.zero_add] at sn
          refine ite2 (fun cc => ?_) (fun cc => ?_)
          · rw [if_pos (of_decide_eq_true cc)] at sn
            refine ⟨_, rfl, _, rfl, (by show 1 ≤ sizeLine; decide), fun q4 n4 => ?_⟩
            have e6 := same_upd (o := .tup [V.int (c : Nat)]) n4
            refine catA_all (sameT ((e5.trans et).trans e6) hr2) (SqT.of upd_same) ?_ (by simp) fun H7 q5 e7 h5 => ?_
            · have zz : sizeLine = 16777216 := by decide
              rw [len_map, zz]
              show row.length + 1 ≤ _
              omega
            · refine ⟨_, rfl, _, rfl, _, _, rfl, rfl, .inr ⟨by omega, by omega⟩, (by show 2 ≤ sizeLine; decide), fun q6 n6 => ?_⟩
              have e8 := same_upd (o := .tup [V.ref q5, .int (many * z)]) n6
              have E8 := ((et.trans e6).trans e7).trans e8
              have hD8 := E8 _ _ hD
              have nDH : H3 D = none := nD
              refine ⟨_, hD8, ?_, sPut (e5.trans E8) nDH, cs ++ [q6], ?_, ?_⟩
              · have l1 := ext_len row many (one.take c) 0
                have l2 := pLen pc
                have l3 := O.len
                rw [List.length_map]
                rw [List.length_take] at l1
                exact small8 (by omega)
              · rw [upd_same, List.map_append]
                rfl
              · rw [sn]
                refine pSnoc ?_ (pImp pc fun _ _ y => y.keep ((Keep.of E8).trans (.put hD8)))
                refine RwA.keep (H := upd H7 q6 (.tup [V.ref q5, .int (many * z)])) ⟨q5, SqT.of upd_same, ?_⟩ (.put hD8)
                have em : (row ++ [(c : Int)]).map V.int = row.map V.int ++ [V.int (c : Nat)] := by
                  rw [List.map_append]
                  rfl
                show SqT K _ q5 ((row ++ [(c : Int)]).map V.int)
                rw [em]
                exact sameT e8 h5
          · rw [if_neg fun y => cc (decide_eq_true y)] at sn
            refine ⟨e5.trans et, cs, et _ _ hD, ?_⟩
            rw [sn]
            exact pImp pc fun _ _ y => y.same et
        · rintro H5 ⟨e5, cs, hD, pc⟩
          rw [len_map, List.take_length] at pc
          have hm5 := e5 _ _ hm
          have tm := take_more hrow
          have snp : stepR one ((rowsOf (F.take i)).take (a + 1)) = stepR one ((rowsOf (F.take i)).take a) ++ ext row many 0 one := by rw [tm, stepR_snoc]
          have lb := pLen pb
          have lc := pLen pc
          have ltot : (stepR one ((rowsOf (F.take i)).take (a + 1))).length ≤ 4096 := by
            have z1 : stepR one (rowsOf (F.take i)) = stepR one ((rowsOf (F.take i)).take (a + 1)) ++ stepR one ((rowsOf (F.take i)).drop (a + 1)) := by
              rw [← stepR_append, List.take_append_drop]
            rw [z1, List.length_append] at lB
            omega
          rw [snp, List.length_append] at ltot
          refine ⟨pm, D, _, _, rfl, rfl, hm5, hD, ?_, bs ++ cs, _, _, rfl, sPut (e4.trans e5) nm, ?_, ?_⟩
          · have zz : sizeLine = 16777216 := by decide
            rw [List.length_map, List.length_map, zz]
            omega
          · rw [upd_same, List.map_append]
          · rw [snp]
            exact pAppend (pImp pb fun _ _ y => y.keep ((Keep.of e5).trans (.put hm5))) (pImp pc fun _ _ y => y.keep (.put hm5))
      · rintro σ H3 ⟨bs, y4, y5, rfl, e4, hm, pb⟩
        have el : (as.map V.ref).length = (rowsOf (F.take i)).length := by rw [List.length_map]; exact alen
        rw [el, List.take_length, ← rowsOf_take_more ho] at pb
        exact ⟨_, rfl, pm, bs, _, _, _, _, rfl, e3.trans e4, hm, pb⟩
    · rintro σ H2 ⟨pf, as, y2, y3, y4, y5, rfl, e3, hf, pa⟩
      have el : (ps.map V.ref).length = F.length := by rw [List.length_map]; exact pLen pr
      rw [el, List.take_length] at pa
      exact ⟨_, rfl, q H2 pf as e3 hf pa⟩
end
end TW
/-! the two ways: told by the table; drawn -/
namespace TW
open PySem PySem.Spec PyProof.Rows L2 LamX NdefX TM
abbrev sLTold : Stmt := topS 40
abbrev sLAny : Stmt := topS 41
/-- where a way may be asked -/
structure DomW (S : Shop) (L : Nat) (F : List (List Int)) (stock : Int) (t : Nat) (c : Int) : Prop where
  ht : t + L < F.length
  lo : low F stock t ≤ c
  hi : c ≤ S.top
def spWay (K : PySem.W.Frag) (S : Shop) (L : Nat) (F : List (List Int)) (stock : Int) (g : Nat → Int → List Int → Int) : Sp := fun vs H Q _ => ∃ (t : Nat) (c : Int) (r : Addr) (row : List Int), vs = [.int (t : Int), .int c, .ref r] ∧ IntT K H r row ∧ DomW S L F stock t c ∧ ∀ H', Same H H' → Q (.int (g t c row)) H'
theorem hid_keep {c1 c2 : Addr} {v1 v2 : V} {H : Hp} (h1 : H c1 = some (CellO c1 v1)) (h2 : H c2 = some (CellO c2 v2)) : Keep H (hid c1 c2 H) := fun b o e _ _ n => by
  refine (hid_ne fun q => ?_).trans e
  rcases q with rfl | rfl
  · rw [h1] at e
    exact n _ (Option.some.inj e).symm
  · rw [h2] at e
    exact n _ (Option.some.inj e).symm
theorem hid_lst {c1 c2 b : Addr} {v1 v2 : V} {H : Hp} {l : List V} (h1 : H c1 = some (CellO c1 v1)) (h2 : H c2 = some (CellO c2 v2)) (h : H b = some (.lst l)) : hid c1 c2 H b = some (.lst l) := by
  refine (hid_ne fun q => ?_).trans h
  rcases q with rfl | rfl
  · rw [h1] at h
    cases h
  · rw [h2] at h
    cases h
section
variable {P : Program} {w : World} {K : PySem.W.Frag} {mg : Str → Option Value} {base : Heap}
def spTold (P : Program) (w : World) (K : PySem.W.Frag) (mg : Str → Option Value) (base : Heap) (TT : List (Addr × Str)) : Sp := fun vs H Q _ => ∃ (tb b : Addr) (S : Shop) (L : Nat) (F : List (List Int)) (stock : Int), vs = [.ref tb, .int stock, .ref b] ∧ TabA K H tb (tabOf S L F stock) ∧ Fls K H b F ∧ FB F ∧ Tabs TT H ∧
  ∀ H' f, ExtN H H' → Tabs TT H' → Runs P w K mg base 2 f (spWay K S L F stock (wayT S L F)) H' → Q (.ref f) H'
abbrev nLTold : List Str := ["_law_table", "_law_stock", "_law_falls", "_law_lowest", "_law_t"]
theorem scLTold : FnScope nLTold ["_law_table", "_law_stock", "_law_falls"] (defScope sLTold) := ⟨rfl, rfl, rfl, by decide +kernel, rfl, by decide +kernel, by decide +kernel⟩
abbrev nTold : List Str := ["_law_t", "_law_counted", "_law_row", "_law_lowest", "_law_table"]
abbrev lamSc (e : Expr) : Scope := match e with | .Lambda _ _ sc _ => sc | _ => { kind := .function, names := [], isGenerator := false, isCoroutine := false }
abbrev lamPs (e : Expr) : Arguments := match e with | .Lambda p _ _ _ => p | _ => defArgs sLTold
abbrev lamBd (e : Expr) : Expr := match e with | .Lambda _ b _ _ => b | e => e
abbrev retE' (st : Stmt) : Expr := match (defBody st).getLast? with | some (.Return (some e) _) => e | _ => .Constant .none 0 ⟨0, 0, 0, 0⟩
theorem nTold_sc : NScope nTold ["_law_t", "_law_counted", "_law_row"] ["_law_lowest", "_law_table"] (lamSc (retE' sLTold)) := nscope_by (by decide +kernel)
abbrev st0 (st : Stmt) : Stmt := (defBody st).headD (.Pass ⟨0, 0, 0, 0⟩)
theorem told_run {lo tb f c1 c2 : Addr} {C : Clo} {S : Shop} {L : Nat} {F : List (List Int)} {stock : Int} {H : Hp} (e1 : C.qual = "_law_told.<locals>.<lambda>") (e2 : C.params = lamPs (retE' sLTold)) (e3 : C.body = lamBd (retE' sLTold)) (e4 : C.scope = lamSc (retE' sLTold))
    (ca : CloAt H f C "_law_lowest" "_law_table" (.ref lo) (.ref tb) c1 c2) (hlo : H lo = some (.lst (((List.range F.length).map (low F stock)).map V.int))) (tab : TabA K H tb (tabOf S L F stock)) : Runs P w K mg base 2 f (spWay K S L F stock (wayT S L F)) H := by
  refine ⟨⟨C, ca.fn⟩, fun H1 e A outer s us vs Q hr e0 r hq => ?_⟩
  obtain ⟨t, c, ra, row, rfl, hrow, D, q⟩ := hq
  have ca1 := ca.same e
  obtain ⟨cq, cp, cb, cs, cl, cc⟩ := C
  subst e1 e2 e3 e4
  have kp := hid_keep ca1.h1 ca1.h2
  have hlo1 := hid_lst ca1.h1 ca1.h2 (e _ _ hlo)
  have tab1 := (tab.same e).keep kp
  refine clo_call (N := nTold) (ps := ["_law_t", "_law_counted", "_law_row"]) (k := 1) nTold_sc (fun pm ctv us hl => ?_) hr e0 ca1 r rfl fun hr' => ?_
  · match us, hl with
    | [_, _, _], _ => rfl
  · refine ⟨_, pe_ix ix_tup (pe_ix ix_tup (pe_ix ix_tup (pv 4) (pv 0) (fun _ _ => rfl)) (pe_op op_sub (pv 1) (pe_ix ix_list (pv 3) (pv 0) (fun _ _ => rfl))) (fun _ _ => rfl)) pe_int (fun _ _ => rfl), ?_⟩
    have h1 := D.ht
    have h2 := D.lo
    have h3 := D.hi
    obtain ⟨ps, hps, pps⟩ := tab1
    obtain ⟨p, hp, rw1⟩ := pAt pps (tabOf_get (S := S) (stock := stock) (show t < F.length - L by omega))
    obtain ⟨qs, hqs, pqs⟩ := rw1
    have i0 : ((c - low F stock t).toNat : Int) = c - low F stock t := by omega
    obtain ⟨x, hx, xr⟩ := pAt pqs (tabRow_get (S := S) (L := L) (F := F) (stock := stock) (t := t) (i := (c - low F stock t).toNat) (by omega))
    obtain ⟨y, hy, _⟩ := xr
    have ec : low F stock t + (((c - low F stock t).toNat : Nat) : Int) = c := by omega
    rw [ec] at hy
    refine ⟨_, rfl, _, rfl, tb, _, _, _, rfl, rfl, hps, atI_nat (by rw [List.getElem?_map, hp]; rfl), ?_⟩
    refine ⟨_, rfl, _, rfl, _, rfl, lo, _, _, .int (low F stock t), rfl, rfl, SqL.of hlo1, atI_nat ?_, _, _, rfl, rfl, ?_⟩
    · rw [List.getElem?_map, List.getElem?_map, List.getElem?_range (by omega)]
      rfl
    · refine ⟨p, _, _, .ref x, rfl, rfl, hqs, ?_, ?_⟩
      · rw [← i0]
        exact atI_nat (by rw [List.getElem?_map, hx]; rfl)
      · exact ⟨x, _, _, _, rfl, rfl, hy, rfl, q _ (shw_same (.refl _))⟩
theorem ok_told {f : Addr} {fd : FuncData} {c Pt : Addr} {TT : List (Addr × Str)} (F0 : Fun K "_law_told" "_law_told" sLTold f fd) (T : Blt mg) (C : Cal P w K mg base 1 "_law_greatest" ["_law_falls"] (spLGreat K)) (TB : TabB base mg c Pt) (hcode : fd.code = .ref c)
    (hm : (Pt, ("_law_told.<locals>.<lambda>" : Str)) ∈ TT) (hu : ∀ p ∈ TT, p.1 = Pt → p.2 = "_law_told.<locals>.<lambda>") : FnOk P w K mg base CX0 2 f fd ["_law_table", "_law_stock", "_law_falls"] (spTold P w K mg base TT) := by
  refine fn_raw F0 scLTold (fun vs H Q E h => ?_) (fun cdv A outer s H vs Q E hcd hfd hr h s1 I => ?_)
  · obtain ⟨tb, b, S, L, F, stock, rfl, _⟩ := h
    rfl
  · obtain ⟨tb, b, S, L, F, stock, rfl, tab, fls, B, TS, q⟩ := h
    obtain ⟨kV, doc, pm, an, ct, rfl⟩ := hfd
    have hcode : cdv = .ref c := hcode
    have st1 : PS (cxOf CX0 P w K mg base nLTold "_law_told" (defScope sLTold) f cdv A outer s H E) (st0 sLTold) _ := ps_set (i := 3) scLTold.nd rfl (.inr rfl) (pe_lc (own := [("_law_t", 4)]) (g := gName 4) (tt := tYes) rfl scLTold.nd (pi_range1 (by rfl) T.range (pa_cons (pe_callB (r := rLenSeq K) call_len_seq (by rfl) T.len PySem.boot_len (pa_cons (pv 2) pa_nil)) pa_nil))
      (blkOk_by (N := nLTold) (sc := defScope sLTold) (by decide +kernel)) (fun _ _ _ _ _ => pg_name (i := 4) scLTold.nd rfl (Or.inl rfl) (Or.inr rfl)) (fun _ _ _ _ _ => pts_nil)
      (fun _ _ _ _ _ => pe_op op_sub (pv 1) (pe_cal C hr (by decide) rfl (pa_cons (pe_slice (r := rSlA K) sl_tupA (pv 2) po_none (po_some (pv 4))) pa_nil))))
    refine wpAny_execs_cons (thn (st1.run [] s1 _ H
      ⟨fun σ' H' => ∃ lo, σ' = [some (.ref tb), some (.int stock), some (.ref b), some (.ref lo), none] ∧ Same H H' ∧ H' lo = some (.lst (((List.range F.length).map (low F stock)).map V.int)), fun _ _ => False, fun _ _ => False, fun _ _ => False⟩ I ?read) fun fl s2 hs => ?next)
    case read =>
      obtain ⟨ps, hb, pr⟩ := id fls
      have el : (ps.map V.ref).length = F.length := by rw [List.length_map]; exact pLen pr
      have Fl := B.len
      refine ⟨_, rfl, b, _, rfl, .inr hb, _, rfl, by omega, by omega, fun D nD => ?_⟩
      rw [Int.toNat_natCast, el]
      refine lc_it (walk_range (lo := 0) (n := F.length)) (fun k H' => Same H H' ∧ H' D = some (.lst (((List.range k).map (low F stock)).map V.int))) ⟨same_upd nD, upd_same⟩ (fun _ _ _ _ => trivial) ?_ ?_
      · rintro k x H3 H4 hk ⟨e3, hD⟩ ⟨rfl, rfl⟩
        refine ⟨rfl, tyes ?_⟩
        refine ⟨_, rfl, _, rfl, _, rfl, (k : Int), ?_, sl_fls (fls.same e3) (i := 0) (j := k) rfl (by rw [HT.sIx_nat]; omega) fun H5 p e5 h5 => ?_⟩
        · show V.int (0 + (k : Int)) = V.int k
          rw [Int.zero_add]
        · refine ⟨p, _, rfl, h5, (B.drop 0).take _, fun H6 e6 => ?_⟩
          refine ⟨_, _, rfl, rfl, ?_⟩
          refine ⟨_, (e5.trans e6) _ _ hD, ?_, sPut ((e3.trans e5).trans e6) nD, ?_⟩
          · rw [len_map, List.length_map, List.length_range]
            exact small8 (by omega)
          · rw [upd_same, List.range_succ, List.map_append, List.map_append]
            rfl
      · rintro H3 ⟨e3, hD⟩
        exact ⟨D, rfl, e3, hD⟩
    case next =>
      cases fl with
      | brk => obtain ⟨_, _, _, z⟩ := hs; exact z.elim
      | cont => obtain ⟨_, _, _, z⟩ := hs; exact z.elim
      | ret u => obtain ⟨_, _, _, _, _, z⟩ := hs; exact z.elim
      | next =>
        obtain ⟨σ', H', I', lo, rfl, e, hlo⟩ := hs
        refine ret_clo (T := TT) (x1 := "_law_lowest") (x2 := "_law_table") (j1 := 3) (j2 := 0) I' TB hcode hm hu (TS.ext e) rfl (by decide +kernel) (by decide +kernel) (by decide) rfl rfl rfl rfl rfl rfl fun fa c1 c2 C H2 k1 k2 k3 k4 xn T2 ca => ?_
        have lo2 := xn _ _ hlo fun _ z => by cases z
        have X2 : ExtN H H2 := (ExtN.of e).trans xn
        exact q H2 fa X2 T2 (told_run k1 k2 k3 k4 ca lo2 (tab.keep (.ofN X2)))
def spAny (P : Program) (w : World) (K : PySem.W.Frag) (mg : Str → Option Value) (base : Heap) (TT : List (Addr × Str)) : Sp := fun vs H Q _ => ∃ (a : Addr) (key : Int) (S : Shop) (L : Nat) (F : List (List Int)) (stock : Int), vs = [.ref a, .int key] ∧ ShopAt K H a S ∧ SB S ∧ FB F ∧ gr F - S.depth ≤ stock ∧ 0 ≤ key ∧ key < 1000000000 ∧ Tabs TT H ∧
  ∀ H' f, ExtN H H' → Tabs TT H' → Runs P w K mg base 2 f (spWay K S L F stock (wayA S key)) H' → Q (.ref f) H'
abbrev nLAny : List Str := ["_law_shop", "_law_key"]
theorem scLAny : FnScope nLAny ["_law_shop", "_law_key"] (defScope sLAny) := ⟨rfl, rfl, rfl, by decide +kernel, rfl, by decide +kernel, by decide +kernel⟩
abbrev nAny : List Str := ["_law_t", "_law_counted", "_law_row", "_law_key", "_law_shop"]
theorem nAny_sc : NScope nAny ["_law_t", "_law_counted", "_law_row"] ["_law_key", "_law_shop"] (lamSc (retE' sLAny)) := nscope_by (by decide +kernel)
theorem any_run {a f c1 c2 : Addr} {C : Clo} {S : Shop} {L : Nat} {F : List (List Int)} {stock key : Int} {H : Hp} (CM : Cal P w K mg base 1 "_law_mixed" ["_law_key", "_law_t", "_law_counted", "_law_row"] (spLMixed K)) (e1 : C.qual = "_law_any.<locals>.<lambda>") (e2 : C.params = lamPs (retE' sLAny)) (e3 : C.body = lamBd (retE' sLAny)) (e4 : C.scope = lamSc (retE' sLAny))
    (ca : CloAt H f C "_law_key" "_law_shop" (.int key) (.ref a) c1 c2) (shop : ShopAt K H a S) (SBd : SB S) (B : FB F) (hs : gr F - S.depth ≤ stock) (k0 : 0 ≤ key) (k1 : key < 1000000000) : Runs P w K mg base 2 f (spWay K S L F stock (wayA S key)) H := by
  refine ⟨⟨C, ca.fn⟩, fun H1 e A outer s us vs Q hr e0 r hq => ?_⟩
  obtain ⟨t, c, ra, row, rfl, hrow, D, q⟩ := hq
  have ca1 := ca.same e
  obtain ⟨cq, cp, cb, cs, cl, cc⟩ := C
  subst e1 e2 e3 e4
  have kp := hid_keep ca1.h1 ca1.h2
  have shop1 := (shop.same e).keep kp
  have row1 := keepT kp hrow
  refine clo_call (N := nAny) (ps := ["_law_t", "_law_counted", "_law_row"]) (k := 1) nAny_sc (fun pm ctv us hl => ?_) hr e0 ca1 r rfl fun hr' => ?_
  · match us, hl with
    | [_, _, _], _ => rfl
  · refine ⟨_, pe_op op_add (pv 1) (pe_op op_mod (pe_cal CM hr' (by decide) rfl (pa_cons (pv 3) (pa_cons (pv 0) (pa_cons (pv 1) (pa_cons (pv 2) pa_nil))))) (pe_op op_add (pe_op op_sub (pe_ix ix_tup (pv 4) pe_int (fun _ _ => rfl)) (pv 1)) pe_int)), ?_⟩
    have h1 := D.ht
    have h2 := D.lo
    have h3 := D.hi
    unfold low at h2
    have h4 := gr_take_le F t
    have h5 := B.len
    have h6 := SBd.top
    have h7 := SBd.depth
    refine ⟨_, rfl, _, rfl, _, rfl, _, rfl, _, rfl, key, t, c, ra, row, rfl, row1, k0, k1, by omega, by omega, by omega, by omega, ?_⟩
    refine ⟨_, rfl, a, _, 0, .int S.top, rfl, rfl, shop1, rfl, _, rfl, _, _, rfl, rfl, _, _, rfl, rfl, _, _, rfl, rfl, ?_, _, _, rfl, rfl, q _ (shw_same (.refl _))⟩
    show (0 : Int) < S.top - c + 1
    omega
theorem ok_any {f : Addr} {fd : FuncData} {c Pt : Addr} {TT : List (Addr × Str)} (F0 : Fun K "_law_any" "_law_any" sLAny f fd) (CM : Cal P w K mg base 1 "_law_mixed" ["_law_key", "_law_t", "_law_counted", "_law_row"] (spLMixed K)) (TB : TabB base mg c Pt) (hcode : fd.code = .ref c)
    (hm : (Pt, ("_law_any.<locals>.<lambda>" : Str)) ∈ TT) (hu : ∀ p ∈ TT, p.1 = Pt → p.2 = "_law_any.<locals>.<lambda>") : FnOk P w K mg base CX0 1 f fd ["_law_shop", "_law_key"] (spAny P w K mg base TT) := by
  refine fn_raw F0 scLAny (fun vs H Q E h => ?_) (fun cdv A outer s H vs Q E hcd hfd hr h s1 I => ?_)
  · obtain ⟨a, key, S, L, F, stock, rfl, _⟩ := h
    rfl
  · obtain ⟨a, key, S, L, F, stock, rfl, shop, SBd, B, hs, k0, k1, TS, q⟩ := h
    obtain ⟨kV, doc, pm, an, ct, rfl⟩ := hfd
    have hcode : cdv = .ref c := hcode
    refine ret_clo (T := TT) (x1 := "_law_key") (x2 := "_law_shop") (j1 := 1) (j2 := 0) I TB hcode hm hu TS rfl (by decide +kernel) (by decide +kernel) (by decide) rfl rfl rfl rfl rfl rfl fun fa c1 c2 C H2 k1' k2 k3 k4 xn T2 ca => ?_
    exact q H2 fa xn T2 (any_run CM k1' k2 k3 k4 ca (shop.keep (.ofN xn)) SBd B hs k0 k1)
end
end TW
/-! one row walked -/
namespace TW
open PySem PySem.Spec PyProof.Rows L2 LamX TM
abbrev sLWalked : Stmt := topS 43
theorem row_at : ∀ {F : List (List Int)} {row : List Int} {t : Nat} {f : Int}, Row F row → row[t]? = some f → ∃ one, F[t]? = some one ∧ 0 ≤ f ∧ f ≤ gr1 0 one
  | _, _, 0, f, .cons (one := one) (j := j) a b _, e => by
    obtain rfl := Option.some.inj e
    have := gr1_ge (k := 0) a b
    exact ⟨_, rfl, by omega, by omega⟩
  | _, _, t + 1, f, .cons _ _ h, e => row_at (t := t) h e
/-- the way goes up to a level, from where it may be asked -/
def LvD (S : Shop) (L : Nat) (F : List (List Int)) (stock : Int) (g : Nat → Int → List Int → Int) : Prop := ∀ t c hist, DomW S L F stock t c → c ≤ g t c hist ∧ g t c hist ≤ S.top
/-- the state ahead of day t -/
structure AtT (S : Shop) (L : Nat) (F : List (List Int)) (stock : Int) (g : Nat → Int → List Int → Int) (row : List Int) (t : Nat) (C : List Int) (lies paid : Int) : Prop where
  len : C.length = row.length + L
  ex : ∃ pipe : List Int, C.drop t = pipe ++ List.replicate (row.length - t) 0 ∧ pipe.length = L ∧ paid + walkp S L g (row.drop t) t (row.take t) pipe lies = walk S L g stock row ∧
    (t + L < row.length → low F stock t ≤ lies + pipe.sum ∧ lies + pipe.sum ≤ S.top)
theorem at_start {S : Shop} {L : Nat} {F : List (List Int)} {stock : Int} {g : Nat → Int → List Int → Int} {row : List Int} (hs : stock ≤ S.top) : AtT S L F stock g row 0 (List.replicate (row.length + L) 0) stock 0 := by
  refine ⟨List.length_replicate, List.replicate L 0, ?_, List.length_replicate, ?_, fun _ => ?_⟩
  · rw [List.drop_zero, Nat.sub_zero, List.replicate_append_replicate, Nat.add_comm]
  · rw [List.drop_zero, List.take_zero, Int.zero_add]
    rfl
  · rw [sum_zeros]
    have : gr ([] : List (List Int)) = 0 := rfl
    simp only [low, List.take_zero, this]
    omega
/-- what a day does -/
theorem at_step {S : Shop} {L : Nat} {F : List (List Int)} {stock : Int} {g : Nat → Int → List Int → Int} {row : List Int} {t : Nat} {C : List Int} {lies paid f : Int} (hw : LvD S L F stock g) (hr : Row F row) (h0 : 0 < L) (hf : row[t]? = some f) (a : AtT S L F stock g row t C lies paid) :
    ∃ p : Int, C[t]? = some p ∧
      (t + L < row.length → DomW S L F stock t (lies + p + (C.drop (t + 1)).sum) ∧ AtT S L F stock g row (t + 1) (C.set (t + L) (g t (lies + p + (C.drop (t + 1)).sum) (row.take t) - (lies + p + (C.drop (t + 1)).sum))) (lies + p - f) (paid + od S (g t (lies + p + (C.drop (t + 1)).sum) (row.take t) - (lies + p + (C.drop (t + 1)).sum)) + rc S (lies + p - f))) ∧
      (¬ t + L < row.length → AtT S L F stock g row (t + 1) C (lies + p - f) (paid + rc S (lies + p - f))) := by
  obtain ⟨pipe, hd, hl, hp, hb⟩ := a.ex
  have clen := a.len
  have tl := len_of hf
  obtain ⟨p, ps, rfl⟩ : ∃ p ps, pipe = p :: ps := by
    match pipe, hl with
    | [], hl => exact absurd hl.symm (Nat.ne_of_gt h0)
    | p :: ps, _ => exact ⟨p, ps, rfl⟩
  rw [List.cons_append] at hd
  have rd := drop_more hf
  have rt := take_more hf
  have nx := drop_next hd
  have rl : row.length = F.length := hr.len
  have hsum : (C.drop (t + 1)).sum = ps.sum := by rw [nx, sum_pipe]
  have ecc : lies + p + ps.sum = lies + (p :: ps).sum := by rw [List.sum_cons]; omega
  have hl' : ps.length + 1 = L := hl
  rw [rd] at hp
  simp only [walkp, List.headD_cons, List.tail_cons] at hp
  refine ⟨p, drop_get hd, fun hlt => ?_, fun hge => ?_⟩
  · rw [hsum, ecc]
    obtain ⟨b1, b2⟩ := hb hlt
    have D : DomW S L F stock t (lies + (p :: ps).sum) := ⟨by omega, b1, b2⟩
    obtain ⟨w1, w2⟩ := hw t _ (row.take t) D
    rw [if_pos (show L < (f :: List.drop (t + 1) row).length by rw [List.length_cons, List.length_drop]; omega)] at hp
    generalize hz : g t (lies + (p :: ps).sum) (row.take t) = z at *
    refine ⟨D, by rw [List.length_set]; exact clen, ps ++ [z - (lies + (p :: ps).sum)], ?_, ?_, ?_, fun hlt2 => ?_⟩
    · have e1 : (C.set (t + L) (z - (lies + (p :: ps).sum))).drop t = p :: (ps ++ [z - (lies + (p :: ps).sum)] ++ List.replicate (row.length - (t + 1)) 0) := by
        rw [drop_set, hd, show row.length - t = row.length - (t + 1) + 1 by omega]
        have := set_pipe (p :: ps) (row.length - (t + 1)) (z - (lies + (p :: ps).sum))
        rw [hl] at this
        rw [← List.cons_append, this]
        rfl
      exact drop_next e1
    · rw [List.length_append]
      exact hl'
    · rw [rt]
      omega
    · obtain ⟨one, ho, f0, f1⟩ := row_at hr hf
      have gt := gr_take_more ho
      rw [List.sum_append, List.sum_cons, List.sum_nil]
      rw [List.sum_cons] at b1 b2 w1
      unfold low at *
      rw [List.sum_cons]
      omega
  · rw [if_neg (show ¬ L < (f :: List.drop (t + 1) row).length by rw [List.length_cons, List.length_drop]; omega)] at hp
    refine ⟨clen, ps ++ [0], ?_, ?_, ?_, fun hlt2 => by omega⟩
    · rw [nx, show row.length - t = row.length - (t + 1) + 1 by omega, List.replicate_succ, List.append_assoc]
      rfl
    · rw [List.length_append]
      exact hl'
    · rw [rt]
      omega
theorem at_end {S : Shop} {L : Nat} {F : List (List Int)} {stock : Int} {g : Nat → Int → List Int → Int} {row C : List Int} {lies paid : Int} (a : AtT S L F stock g row row.length C lies paid) : paid + en S lies = walk S L g stock row := by
  obtain ⟨pipe, _, _, hp, _⟩ := a.ex
  rw [List.drop_length] at hp
  exact hp
theorem joinS {T : L2.St → Hp → Prop} {G : Prop} {pr : L2.St → Hp → Prop} (a : ∀ z H, pr z H → T z H) (b : (∀ z H, pr z H → T z H) → G) : G := b a
section
variable {P : Program} {w : World} {K : PySem.W.Frag} {mg : Str → Option Value} {base : Heap}
def spWalked (P : Program) (w : World) (K : PySem.W.Frag) (mg : Str → Option Value) (base : Heap) : Sp := fun vs H Q _ => ∃ (a r fw : Addr) (S : Shop) (L : Nat) (F : List (List Int)) (stock : Int) (row : List Int) (g : Nat → Int → List Int → Int), vs = [.ref a, .int (L : Int), .int stock, .ref r, .ref fw] ∧ ShopAt K H a S ∧ SB S ∧ IntT K H r row ∧ Row F row ∧ FB F ∧ 0 < L ∧ L < F.length ∧ stock ≤ S.top ∧ LvD S L F stock g ∧
  Runs P w K mg base 2 fw (spWay K S L F stock g) H ∧ ∀ H', Same H H' → Q (.int (walk S L g stock row)) H'
abbrev nLWalked : List Str := ["_law_shop", "_law_days", "_law_stock", "_law_row", "_law_way", "_law_coming", "_law_lies", "_law_paid", "_law_t", "_law_counted"]
theorem scLWalked : FnScope nLWalked ["_law_shop", "_law_days", "_law_stock", "_law_row", "_law_way"] (defScope sLWalked) := ⟨rfl, rfl, rfl, by decide +kernel, rfl, by decide +kernel, by decide +kernel⟩
theorem ok_walked {f : Addr} {fd : FuncData} (F0 : Fun K "_law_walked" "_law_walked" sLWalked f fd) (T : Blt mg) (C1 : Cal P w K mg base 1 "_law_order" ["_law_shop", "_law_pieces"] (spLOrder K)) (C2 : Cal P w K mg base 1 "_law_rest_cost" ["_law_shop", "_law_rest"] (spLRest K)) (C3 : Cal P w K mg base 1 "_law_end" ["_law_shop", "_law_rest"] (spLEnd K)) :
    FnOk P w K mg base CX0 3 f fd ["_law_shop", "_law_days", "_law_stock", "_law_row", "_law_way"] (spWalked P w K mg base) := by
  refine F0.ok scLWalked (fun vs H Q E h => ?_) (fun cdv A outer s H vs Q E hr h => ?_)
  · obtain ⟨a, r, fw, S, L, F, stock, row, g, rfl, _⟩ := h
    rfl
  · obtain ⟨a, r, fw, S, L, F, stock, row, g, rfl, ha, SBd, hrow, hR, B, L0, LF, hs, hw, R, q⟩ := h
    refine ⟨_, pss_cons (ps_set (i := 5) scLWalked.nd rfl (.inl rfl) (pe_op op_rep (pe_lst (pa_cons pe_int pa_nil)) (pe_op op_add (pe_callB (r := rLenSeq K) call_len_seq (by rfl) T.len PySem.boot_len (pa_cons (pv 3) pa_nil)) (pv 1))))
      (pss_cons (ps_set (i := 6) scLWalked.nd rfl (.inl rfl) (pv 2))
      (pss_cons (ps_set (i := 7) scLWalked.nd rfl (.inl rfl) pe_int)
      (pss_cons (ps_for PassesOwn.never rfl (pi_range1 (by rfl) T.range (pa_cons (pe_callB (r := rLenSeq K) call_len_seq (by rfl) T.len PySem.boot_len (pa_cons (pv 3) pa_nil)) pa_nil)) (pg_name (i := 8) scLWalked.nd rfl (.inl rfl))
        (pss_cons (ps_set (i := 6) scLWalked.nd rfl (.inl rfl) (pe_op op_add (pv 6) (pe_ix ix_list (pv 5) (pv 8) (fun _ _ => rfl))))
        (pss_cons (ps_set (i := 9) scLWalked.nd rfl (.inl rfl) (pe_op op_add (pv 6) (pe_callB (cr_sum rfl) (by rfl) T.sum boot_sum' (pa_cons (pe_slice sl_list (pv 5) (po_some (pe_op op_add (pv 8) pe_int)) po_none) pa_nil))))
        (pss_cons (ps_if (pt_cmpR op_lt (pe_op op_add (pv 8) (pv 1)) (pe_callB (r := rLenSeq K) call_len_seq (by rfl) T.len PySem.boot_len (pa_cons (pv 3) pa_nil)) (nomark _))
          (pss_cons (ps_asg (pe_op op_sub (pe_runs (i := 4) (k := 2) (sp := spWay K S L F stock g) hr (Nat.le_refl _) rfl (.inl rfl) (pa_cons (pv 8) (pa_cons (pv 9) (pa_cons (pe_slice (r := rSlA K) sl_tupA (pv 3) po_none (po_some (pv 8))) pa_nil)))) (pv 9)) (pg_sub (pv 5) (pe_op op_add (pv 8) (pv 1)) set_list))
          (pss_one (ps_set (i := 7) scLWalked.nd rfl (.inl rfl) (pe_op op_add (pv 7) (pe_cal C1 hr (by decide) rfl (pa_cons (pv 0) (pa_cons (pe_ix ix_list (pv 5) (pe_op op_add (pv 8) (pv 1)) (fun _ _ => rfl)) pa_nil)))))))
          pss_nil)
        (pss_cons (ps_set (i := 6) scLWalked.nd rfl (.inl rfl) (pe_op op_sub (pv 6) (pe_ix ix_tup (pv 3) (pv 8) (fun _ _ => rfl))))
        (pss_one (ps_set (i := 7) scLWalked.nd rfl (.inl rfl) (pe_op op_add (pv 7) (pe_cal C2 hr (by decide) rfl (pa_cons (pv 0) (pa_cons (pv 6) pa_nil)))))))))))
      (pss_one (ps_ret (pe_op op_add (pv 7) (pe_cal C3 hr (by decide) rfl (pa_cons (pv 0) (pa_cons (pv 6) pa_nil))))))))), ?_⟩
    have rl : row.length = F.length := hR.len
    have Fl := B.len
    have zz : sizeLine = 16777216 := by decide
    refine ⟨(by show 1 ≤ sizeLine; decide), fun q0 n0 => ?_⟩
    have e0 := same_upd (o := .lst [V.int 0]) n0
    refine ⟨_, rfl, r, _, rfl, .inr (sameT e0 hrow), _, rfl, _, _, rfl, rfl, ?_⟩
    refine ⟨q0, _, _, rfl, rfl, upd_same, by rw [len_map]; omega, by rw [len_map]; omega, ?_, fun cm nm => ?_⟩
    · rw [len_map, zz]
      show 1 * _ ≤ 16777216
      omega
    rw [flat0, len_map, show ((row.length : Int) + (L : Int)).toNat = row.length + L by omega]
    have e1 := same_upd (o := .lst ((List.replicate (row.length + L) (0 : Int)).map V.int)) nm
    have E1 := e0.trans e1
    have ncm : H cm = none := Same.free e0 nm
    generalize hH1 : upd (upd H q0 (.lst [V.int 0])) cm (.lst ((List.replicate (row.length + L) (0 : Int)).map V.int)) = H1 at E1
    have hc1 : H1 cm = some (.lst ((List.replicate (row.length + L) (0 : Int)).map V.int)) := by rw [← hH1]; exact upd_same
    refine ⟨_, rfl, ?_⟩
    refine ⟨_, rfl, r, _, rfl, .inr (sameT E1 hrow), _, rfl, by omega, by rw [len_map]; omega, ?_⟩
    rw [Int.toNat_natCast, len_map]
    refine for_it (walk_range (lo := 0) (n := row.length)) (fun t σ H' => ∃ (C : List Int) (lies paid : Int) (y8 y9 : Option V), σ = [some (.ref a), some (.int (L : Int)), some (.int stock), some (.ref r), some (.ref fw), some (.ref cm), some (.int lies), some (.int paid), y8, y9] ∧ Same H H' ∧ H' cm = some (.lst (C.map V.int)) ∧ AtT S L F stock g row t C lies paid)
      ⟨_, stock, 0, none, none, rfl, E1, hc1, at_start hs⟩ (fun _ _ _ _ _ => trivial) ?_ ?_
    · rintro t x σ H2 H3 ht ⟨C, lies, paid, y8, y9, rfl, e2, hc, at_⟩ ⟨rfl, rfl⟩
      obtain ⟨fl, hf⟩ : ∃ f, row[t]? = some f := ⟨row[t], List.getElem?_eq_getElem ht⟩
      obtain ⟨p, hp, s1, s2⟩ := at_step hw hR L0 hf at_
      have clen := at_.len
      have z8 : V.int (0 + (t : Int)) = V.int (t : Int) := by rw [Int.zero_add]
      show gName 8 (V.int (0 + (t : Int))) _ _ _
      rw [z8]
      -- _law_lies = _law_lies + _law_coming[_law_t]
      refine ⟨_, rfl, _, rfl, _, rfl, cm, _, _, .int p, rfl, rfl, SqL.of hc, atI_nat (by rw [List.getElem?_map, hp]; rfl), _, _, rfl, rfl, ?_⟩
      -- _law_counted
      refine ⟨_, rfl, _, rfl, _, rfl, _, _, rfl, rfl, (t : Int) + 1, rfl, cm, _, rfl, SqL.of hc, fun D nD => ?_⟩
      have ec : cutV (C.map V.int) (some ((t : Int) + 1)) none = (C.drop (t + 1)).map V.int := by
        rw [cutV_of (i := t + 1) (j := C.length) (by rw [show ((t : Int) + 1) = ((t + 1 : Nat) : Int) by omega, HT.sIx_nat, len_map]; omega) (by rw [len_map]; rfl), List.map_drop, List.take_of_length_le (by rw [List.length_drop, len_map]; omega)]
      rw [ec]
      refine ⟨D, _, rfl, SqL.of upd_same, _, _, rfl, rfl, ?_⟩
      have eD := same_upd (o := .lst ((C.drop (t + 1)).map V.int)) nD
      have e3 : Same H (upd H3 D (.lst ((C.drop (t + 1)).map V.int))) := e2.trans eD
      have hc3 : upd H3 D (.lst ((C.drop (t + 1)).map V.int)) cm = some (.lst (C.map V.int)) := eD _ _ hc
      generalize upd H3 D (.lst ((C.drop (t + 1)).map V.int)) = H4 at e3 hc3
      refine' joinS (T := ?T) (pr := fun σ' H' => ∃ (paid' : Int) (C' : List Int), σ' = [some (.ref a), some (.int (L : Int)), some (.int stock), some (.ref r), some (.ref fw), some (.ref cm), some (.int (lies + p)), some (.int paid'), some (.int (t : Int)), some (.int (lies + p + (C.drop (t + 1)).sum))] ∧ Same H H' ∧ H' cm = some (.lst (C'.map V.int)) ∧ AtT S L F stock g row (t + 1) C' (lies + p - fl) (paid' + rc S (lies + p - fl))) ?a ?b
      case b =>
        intro rest
        refine ⟨_, rfl, _, rfl, _, _, rfl, rfl, _, rfl, r, _, rfl, .inr (sameT e3 hrow), _, _, rfl, rfl, _, rfl, ite2 (fun c => ?w1) (fun c => ?w2)⟩
        case w2 => 
          refine rest _ H4 ⟨paid, C, rfl, e3, hc3, s2 fun z => c (decide_eq_true ?_)⟩
          rw [len_map]
          omega
        case w1 =>
          have hlt : t + L < row.length := by
            have := of_decide_eq_true c
            rw [len_map] at this
            omega
          obtain ⟨D1, at1⟩ := s1 hlt
          refine ⟨fw, rfl, (R.same e3).at_, _, rfl, _, rfl, _, rfl, _, rfl, (t : Int), rfl, sl_tup_any (sameT e3 hrow) (i := 0) (j := t) rfl (by rw [HT.sIx_nat, len_map]; omega) fun H5 rp e5 h5 => ?_⟩
          have h5' : IntT K H5 rp (row.take t) := by
            rw [List.drop_zero, Nat.sub_zero, ← List.map_take] at h5
            exact h5
          refine ⟨R.same (e3.trans e5), t, _, rp, row.take t, rfl, h5', D1, fun H6 e6 => ?_⟩
          have e7 := e3.trans (e5.trans e6)
          have hc6 := (e5.trans e6) _ _ hc3
          have ia : ((t : Int) + (L : Int)) = ((t + L : Nat) : Int) := by omega
          refine ⟨_, rfl, _, _, rfl, rfl, _, rfl, _, rfl, _, rfl, _, _, rfl, rfl, cm, _, _, t + L, rfl, rfl, hc6, ?_, ?_⟩
          · rw [ia, len_map]
            unfold ixN
            rw [if_pos (by omega), if_pos (by omega), Int.toNat_natCast]
          have e8 := sPut (o := .lst ((C.map V.int).set (t + L) (.int (g t (lies + p + (C.drop (t + 1)).sum) (row.take t) - (lies + p + (C.drop (t + 1)).sum))))) e7 ncm
          refine ⟨_, rfl, _, rfl, _, rfl, _, rfl, _, rfl, _, _, rfl, rfl, cm, _, _, _, rfl, rfl, SqL.of (upd_same (o := .lst ((C.map V.int).set (t + L) (.int (g t (lies + p + (C.drop (t + 1)).sum) (row.take t) - (lies + p + (C.drop (t + 1)).sum)))))), ?_, a, S, _, rfl, sameT e8 ha, SBd, _, _, rfl, rfl, rest _ _ ⟨paid + od S (g t (lies + p + (C.drop (t + 1)).sum) (row.take t) - (lies + p + (C.drop (t + 1)).sum)), C.set (t + L) (g t (lies + p + (C.drop (t + 1)).sum) (row.take t) - (lies + p + (C.drop (t + 1)).sum)), rfl, e8, ?_, at1⟩⟩
          · rw [ia]
            refine atI_nat ?_
            rw [List.getElem?_set_self (by rw [len_map]; omega)]
          · rw [upd_same, List.map_set]
      case a =>
        rintro _ H5 ⟨paid', C', rfl, e5, hc5, at5⟩
        refine ⟨_, rfl, _, rfl, _, rfl, r, _, _, .int fl, rfl, rfl, sameT e5 hrow, atI_nat (by rw [List.getElem?_map, hf]; rfl), _, _, rfl, rfl, ?_⟩
        refine ⟨_, rfl, _, rfl, _, rfl, a, S, lies + p - fl, rfl, sameT e5 ha, SBd, _, _, rfl, rfl, ?_⟩
        exact ⟨C', _, _, _, _, rfl, e5, hc5, at5⟩
    · rintro σ H2 ⟨C, lies, paid, y8, y9, rfl, e2, hc, at_⟩
      refine ⟨_, rfl, _, rfl, _, rfl, a, S, lies, rfl, sameT e2 ha, SBd, _, _, rfl, rfl, ?_⟩
      show Q (.int (paid + en S lies)) H2
      rw [at_end at_]
      exact q H2 e2
end
end TW
/-! what a way costs over all rows -/
namespace TW
open PySem PySem.Spec PyProof.Rows L2 LamX TM
abbrev sLCost : Stmt := topS 44
section
variable {P : Program} {w : World} {K : PySem.W.Frag} {mg : Str → Option Value} {base : Heap}
def spCost (P : Program) (w : World) (K : PySem.W.Frag) (mg : Str → Option Value) (base : Heap) : Sp := fun vs H Q _ => ∃ (a b fw : Addr) (S : Shop) (L : Nat) (F : List (List Int)) (stock : Int) (g : Nat → Int → List Int → Int), vs = [.ref a, .ref b, .int (L : Int), .int stock, .ref fw] ∧ ShopAt K H a S ∧ SB S ∧ Fls K H b F ∧ FB F ∧ 0 < L ∧ L < F.length ∧ stock ≤ S.top ∧ LvD S L F stock g ∧
  Runs P w K mg base 2 fw (spWay K S L F stock g) H ∧ ∀ H', Same H H' → Q (.int (costL (walk S L g stock) (rowsOf F)).sum) H'
abbrev nLCost : List Str := ["_law_shop", "_law_falls", "_law_days", "_law_stock", "_law_way", "_law_row", "_law_many"]
theorem scLCost : FnScope nLCost ["_law_shop", "_law_falls", "_law_days", "_law_stock", "_law_way"] (defScope sLCost) := ⟨rfl, rfl, rfl, by decide +kernel, rfl, by decide +kernel, by decide +kernel⟩
theorem many_bd {F : List (List Int)} (B : FB F) {x : List Int × Int} (h : x ∈ rowsOf F) : 0 < x.2 ∧ x.2 ≤ 1000000000000 := by
  obtain ⟨a, b⟩ := rows_many (fun one ho => (B.day one ho).w) x h
  have c : (1000 : Int) ^ F.length ≤ 1000 ^ 4 := by
    match F, B.len with
    | [], _ => show (1000 : Int) ^ 0 ≤ 1000 ^ 4; decide
    | [_], _ => show (1000 : Int) ^ 1 ≤ 1000 ^ 4; decide
    | [_, _], _ => show (1000 : Int) ^ 2 ≤ 1000 ^ 4; decide
    | [_, _, _], _ => show (1000 : Int) ^ 3 ≤ 1000 ^ 4; decide
    | [_, _, _, _], _ => show (1000 : Int) ^ 4 ≤ 1000 ^ 4; decide
  have d : (1000 : Int) ^ 4 = 1000000000000 := by decide
  omega
theorem ok_cost {f : Addr} {fd : FuncData} (F0 : Fun K "_law_cost" "_law_cost" sLCost f fd) (T : Blt mg) (C1 : Cal P w K mg base 1 "_law_rows" ["_law_falls"] (spLRows K)) (C2 : Cal P w K mg base 3 "_law_walked" ["_law_shop", "_law_days", "_law_stock", "_law_row", "_law_way"] (spWalked P w K mg base)) :
    FnOk P w K mg base CX0 4 f fd ["_law_shop", "_law_falls", "_law_days", "_law_stock", "_law_way"] (spCost P w K mg base) := by
  refine F0.ok scLCost (fun vs H Q E h => ?_) (fun cdv A outer s H vs Q E hr h => ?_)
  · obtain ⟨a, b, fw, S, L, F, stock, g, rfl, _⟩ := h
    rfl
  · obtain ⟨a, b, fw, S, L, F, stock, g, rfl, ha, SBd, hb, B, L0, LF, hs, hw, R, q⟩ := h
    refine ⟨_, pss_one (ps_ret (pe_callB (cr_sum rfl) (by rfl) T.sum boot_sum' (pa_cons (pe_lc (own := [("_law_row", 5), ("_law_many", 6)]) (g := gPair K 5 6) (tt := tYes) rfl scLCost.nd (pi_list (pe_cal C1 hr (by decide) rfl (pa_cons (pv 1) pa_nil)))
      (blkOk_by (N := nLCost) (sc := defScope sLCost) (by decide +kernel))
      (fun _ _ _ _ _ => pg_pair (i := 5) (j := 6) rfl scLCost.nd rfl rfl (Or.inl rfl) (Or.inl rfl) (Or.inr rfl) (Or.inr rfl)) (fun _ _ _ _ _ => pts_nil)
      (fun _ _ _ _ _ => pe_op op_mul (pv 6) (pe_cal C2 hr (by decide) rfl (pa_cons (pv 0) (pa_cons (pv 2) (pa_cons (pv 3) (pa_cons (pv 5) (pa_cons (pv 4) pa_nil)))))))) pa_nil))), ?_⟩
    refine ⟨_, rfl, b, F, rfl, hb, B, fun H1 rs as e1 h1 pa => ?_⟩
    refine ⟨rs, rfl, ⟨_, SqL.of h1⟩, fun D nD => ?_⟩
    have lB := rows_lenB B
    have la := pLen pa
    have nDH : H D = none := Same.free e1 nD
    refine lc_it (walk_list (xs := as.map V.ref)) (fun i H' => Same H1 H' ∧ H' D = some (.lst ((costL (walk S L g stock) ((rowsOf F).take i)).map V.int))) ⟨same_upd nD, upd_same⟩ (fun i H' _ h => SqL.of (h.1 _ _ h1)) ?_ ?_
    · rintro i x H2 H3 hi ⟨e2, hD⟩ ⟨rfl, g1⟩
      obtain ⟨p, hp, rfl⟩ := mapr_get g1
      obtain ⟨⟨row, many⟩, hx, hr1⟩ := pAt2 pa hp
      obtain ⟨r, k1, k2⟩ := hr1.same e2
      have k1 : SqT K H3 p [.ref r, .int many] := k1
      have k2 : IntT K H3 r row := k2
      have hm := List.mem_of_getElem? hx
      have hR : TM.Row F row := (rows_mem F hm).1
      have mB : 0 < many ∧ many ≤ 1000000000000 := many_bd B hm
      refine ⟨p, _, rfl, k1, rfl, _, _, rfl, _, _, rfl, rfl, rfl, tyes ?_⟩
      refine ⟨_, rfl, _, rfl, _, rfl, _, rfl, _, rfl, _, rfl, a, r, fw, S, L, F, stock, row, g, rfl, sameT (e1.trans e2) ha, SBd, k2, hR, B, L0, LF, hs, hw, R.same (e1.trans e2), fun H4 e4 => ?_⟩
      refine ⟨_, _, rfl, rfl, .inl ⟨by omega, by omega⟩, _, e4 _ _ hD, ?_, sPut (e2.trans e4) nD, ?_⟩
      · have zz : sizeLine = 16777216 := by decide
        unfold costL
        rw [len_map, List.length_map, List.length_take, zz]
        omega
      · rw [upd_same, take_more hx]
        unfold costL
        rw [List.map_append, List.map_append]
        rfl
    · rintro H2 ⟨e2, hD⟩
      rw [List.length_map, la, List.take_length] at hD
      exact ⟨D, _, rfl, SqL.of hD, q H2 (e1.trans e2)⟩
end
end TW
/-! no number grows beyond 200 bits -/
namespace TW
open TM
theorem mul_bd {a x : Int} (h : 0 ≤ a ∧ a ≤ 1000000) (hx : 0 ≤ x ∧ x ≤ 1000) : 0 ≤ a * x ∧ a * x ≤ 1000000000 := by
  refine ⟨Int.mul_nonneg h.1 hx.1, ?_⟩
  have := Int.mul_le_mul h.2 hx.2 hx.1 (by decide : (0 : Int) ≤ 1000000)
  omega
section
variable {S : Shop} (B : SB S)
include B
theorem dc_bd {l f : Int} (h1 : -500 ≤ l) (h2 : l ≤ 5) (h3 : 0 ≤ f) (h4 : f ≤ 32) : -3000000000 ≤ dc S l f ∧ dc S l f ≤ 3000000000 := by
  have d := B.depth
  have n1 : -600 ≤ nst S l f ∧ nst S l f ≤ 5 ∧ l - f ≤ nst S l f := by unfold nst; omega
  unfold dc
  generalize nst S l f = n at n1
  have a := mul_bd B.keep (x := max n 0) (by omega)
  have b := mul_bd B.lack (x := max (0 - n) 0) (by omega)
  have c := mul_bd B.lost (x := n - (l - f)) (by omega)
  omega
theorem ec_bd {l f : Int} (h1 : -500 ≤ l) (h2 : l ≤ 5) (h3 : 0 ≤ f) (h4 : f ≤ 32) : -1000000000 ≤ ec S (nst S l f) ∧ ec S (nst S l f) ≤ 1000000000 := by
  have d := B.depth
  have n1 : -600 ≤ nst S l f ∧ nst S l f ≤ 5 := by unfold nst; omega
  generalize nst S l f = n at n1
  unfold ec
  split
  · have a := mul_bd B.back (x := n) (by omega)
    omega
  · have a := mul_bd B.late (x := 0 - n) (by omega)
    rw [Int.mul_sub] at a
    omega
theorem od_bd {z : Int} (h : z ≤ 1000) : 0 ≤ od S z ∧ od S z ≤ 2000000000 := by
  unfold od
  split
  · have a := mul_bd B.piece (x := z) (by omega)
    have b := B.start
    omega
  · omega
end
theorem Ex_avg {F : List (List Int)} (h : Good F) {g : List Int → Rat} {M : Rat} (hg : ∀ r, TM.Row F r → -M ≤ g r ∧ g r ≤ M) : -M ≤ Ex F g / (TI F : Int) ∧ Ex F g / (TI F : Int) ≤ M := by
  have p := h.TIr
  have n := rcast_ne h.TI
  have a := E_le h.nn fun r hr => (hg r hr).2
  have b := E_le (g := fun _ => -M) h.nn fun r hr => (hg r hr).1
  rw [E_const] at a b
  have e : Ex F g = (Ex F g / (TI F : Int)) * (TI F : Int) := (Rat.div_mul_cancel n).symm
  rw [e] at a b
  exact ⟨Rat.le_of_mul_le_mul_right b p, Rat.le_of_mul_le_mul_right a p⟩
theorem row_bd {F : List (List Int)} (B : FB F) {r : List Int} (h : TM.Row F r) : 0 ≤ r.sum ∧ r.sum ≤ 32 := by
  have a := row_sum_le h
  have b := gr_le fun one ho => (B.day one ho).len
  have c := B.len
  have d := (sum_ge a.2).1
  omega
theorem cast_le {a b : Int} (h : a ≤ b) : (a : Rat) ≤ (b : Rat) := Rat.intCast_le_intCast.mpr h
theorem mday_bd {S : Shop} (B : SB S) {F : List (List Int)} (BF : FB F) {l : Int} (h1 : -500 ≤ l) (h2 : l ≤ 5) : -(3000000000 : Rat) ≤ mday S F l ∧ mday S F l ≤ 3000000000 :=
  Ex_avg BF.good fun r hr => by
    have a := row_bd BF hr
    have b := dc_bd B h1 h2 a.1 a.2
    have c := cast_le b.1
    have d := cast_le b.2
    exact ⟨c, d⟩
theorem mend_bd {S : Shop} (B : SB S) {F : List (List Int)} (BF : FB F) {l : Int} (h1 : -500 ≤ l) (h2 : l ≤ 5) : -(1000000000 : Rat) ≤ mend S F l ∧ mend S F l ≤ 1000000000 :=
  Ex_avg BF.good fun r hr => by
    have a := row_bd BF hr
    have b := ec_bd B h1 h2 a.1 a.2
    have c := cast_le b.1
    have d := cast_le b.2
    exact ⟨c, d⟩
theorem mnext_bd {one : List Int} (O : DayB one) {cost : Int → Rat} {l : Int} {M : Rat} (hM : 0 ≤ M) (h : ∀ j : Nat, j < 8 → -M ≤ cost (l - j) ∧ cost (l - j) ≤ M) : -M ≤ mnext one cost l ∧ mnext one cost l ≤ M := by
  have p : (0 : Rat) < (one.sum : Int) := Rat.intCast_pos.mpr O.sum.1
  have n := rcast_ne O.sum.1
  have s : ∀ c : Rat, sI (fun _ w => (w : Rat) * (c / (one.sum : Int))) 0 one = c := fun c => by
    rw [sI_sum]
    exact Rat.div_mul_cancel n
  unfold mnext
  have key : ∀ (j : Nat) (w : Int), one[j]? = some w → (w : Rat) * (-M / (one.sum : Int)) ≤ (if 0 < w then cost (l - (0 + j)) * w / (one.sum : Int) else 0) ∧ (if 0 < w then cost (l - (0 + j)) * w / (one.sum : Int) else 0) ≤ (w : Rat) * (M / (one.sum : Int)) := fun j w hj => by
    have wB := O.w w (List.mem_of_getElem? hj)
    have jl := len_of hj
    have ol := O.len
    obtain ⟨c1, c2⟩ := h j (by omega)
    rw [Int.zero_add]
    split
    · rename_i hw
      have hw' : (0 : Rat) ≤ (w : Rat) := Rat.intCast_nonneg.mpr wB.1
      have ip : (0 : Rat) ≤ ((one.sum : Int) : Rat)⁻¹ := Rat.le_of_lt (Rat.inv_pos.mpr p)
      have q : (0 : Rat) ≤ (w : Rat) * ((one.sum : Int) : Rat)⁻¹ := Rat.mul_nonneg hw' ip
      have m1 := Rat.mul_le_mul_of_nonneg_left c1 q
      have m2 := Rat.mul_le_mul_of_nonneg_left c2 q
      rw [Rat.div_def, Rat.div_def, Rat.div_def]
      generalize ((one.sum : Int) : Rat)⁻¹ = i at *
      generalize cost (l - (j : Int)) = c at *
      grind
    · have : w = 0 := by omega
      subst this
      simp
  have a := sI_le (h := fun _ w => (w : Rat) * (-M / (one.sum : Int))) (g := fun f w => if 0 < w then cost (l - f) * w / (one.sum : Int) else 0) (l := one) (k := 0) fun j w hj => (key j w hj).1
  have b := sI_le (g := fun _ w => (w : Rat) * (M / (one.sum : Int))) (h := fun f w => if 0 < w then cost (l - f) * w / (one.sum : Int) else 0) (l := one) (k := 0) fun j w hj => (key j w hj).2
  rw [s] at a b
  exact ⟨a, b⟩
theorem V_bd {S : Shop} (B : SB S) {L : Nat} : ∀ (F : List (List Int)) (c : Int), FB F → 8 * (F.length : Int) - 450 ≤ c → c ≤ S.top → -(10000000000 * (F.length : Rat)) ≤ (Vt S L F c).1 ∧ (Vt S L F c).1 ≤ 10000000000 * (F.length : Rat)
  | [], c, _, _, _ => by
    simp only [Vt, List.length_nil]
    grind
  | one :: F, c, BF, h1, h2 => by
    obtain ⟨k1, k2, k3, _⟩ := V_spec (S := S) (L := L) (one := one) (F := F) h2
    rw [k1]
    generalize (Vt S L (one :: F) c).2 = l at k2 k3
    have t := B.top
    have fl := BF.len
    simp only [List.length_cons] at h1 fl
    have o := od_bd B (z := l - c) (by omega)
    have o1 := cast_le o.1
    have o2 := cast_le o.2
    have m := mday_bd B (BF.take (L + 1)) (l := l) (by omega) (by omega)
    have e := mend_bd B BF (l := l) (by omega) (by omega)
    have hM : (0 : Rat) ≤ 10000000000 * (F.length : Rat) := by
      have : (0 : Rat) ≤ (F.length : Rat) := by exact_mod_cast Int.natCast_nonneg F.length
      grind
    have x := mnext_bd (BF.day one List.mem_cons_self) (cost := fun x => (Vt S L F x).1) (l := l) hM fun j hj => V_bd B F (l - j) BF.tail (by omega) (by omega)
    have hl : (((one :: F).length : Nat) : Rat) = (F.length : Rat) + 1 := by
      rw [List.length_cons]
      exact_mod_cast rfl
    rw [hl]
    unfold Ut
    generalize (F.length : Rat) = n at *
    generalize ((od S (l - c) : Int) : Rat) = u at *
    generalize mday S ((one :: F).take (L + 1)) l = v at *
    split <;> grind
theorem preM_bd {S : Shop} (B : SB S) {F : List (List Int)} (BF : FB F) {stock : Int} (h1 : -500 ≤ stock) (h2 : stock ≤ 5) : ∀ k : Nat, -(3000000000 * (k : Rat)) ≤ preM S F stock k ∧ preM S F stock k ≤ 3000000000 * (k : Rat)
  | 0 => by
    simp only [preM]
    grind
  | k + 1 => by
    have a := preM_bd B BF h1 h2 k
    have b := mday_bd B (BF.take (k + 1)) h1 h2
    have hl : ((k + 1 : Nat) : Rat) = (k : Rat) + 1 := by exact_mod_cast rfl
    rw [hl]
    simp only [preM]
    grind
theorem stock_lo {S : Shop} (B : SB S) {F : List (List Int)} {stock : Int} (hd : gr F - S.depth ≤ stock) : -100 ≤ stock := by
  have d := B.depth
  have g := gr_mono F F.length
  rw [List.take_length] at g
  omega
/-- a number that a table or the told share holds -/
def SmQ (q : Rat) : Prop := -(1606938044258990275541962092341162602522202993782792835301376 : Int) < q.num ∧ q.num < 1606938044258990275541962092341162602522202993782792835301376 ∧ (q.den : Int) < 1606938044258990275541962092341162602522202993782792835301376
theorem smQ_of {F : List (List Int)} (BF : FB F) {q : Rat} (hf : Fits (TI F) q) (h : -(100000000000 : Rat) ≤ q ∧ q ≤ 100000000000) : SmQ q := by
  obtain ⟨t0, t1⟩ := BF.TI
  have a := hf.num (B := 100000000000) t0 h
  have b := hf.den t0
  have c : (100000000000 : Int) * TI F ≤ 100000000000 * 2 ^ 53 := Int.mul_le_mul_of_nonneg_left (Int.le_of_lt t1) (by decide)
  have d : (100000000000 : Int) * 2 ^ 53 < 1606938044258990275541962092341162602522202993782792835301376 := by decide
  have e : (2 : Int) ^ 53 < 1606938044258990275541962092341162602522202993782792835301376 := by decide
  exact ⟨by omega, by omega, by omega⟩
theorem len4 {n : Nat} (h : n ≤ 4) : (0 : Rat) ≤ (n : Rat) ∧ (n : Rat) ≤ 4 := by
  match n, h with
  | 0, _ => exact ⟨by decide, by decide⟩
  | 1, _ => exact ⟨by decide, by decide⟩
  | 2, _ => exact ⟨by decide, by decide⟩
  | 3, _ => exact ⟨by decide, by decide⟩
  | 4, _ => exact ⟨by decide, by decide⟩
theorem V_sm {S : Shop} (B : SB S) {L : Nat} {F : List (List Int)} (BF : FB F) {c : Int} (h1 : -300 ≤ c) (h2 : c ≤ S.top) : SmQ (Vt S L F c).1 := by
  have fl := BF.len
  have a := V_bd B (L := L) F c BF (by omega) h2
  have b := len4 fl
  refine smQ_of BF (Vt_fits F c BF.good h2) ?_
  generalize (F.length : Rat) = n at *
  grind
theorem late_sm {S : Shop} (B : SB S) {L : Nat} {F : List (List Int)} (BF : FB F) (hL : L < F.length) {stock : Int} (h1 : gr F - S.depth ≤ stock) (h2 : stock ≤ S.top) : SmQ (late S L F stock) := by
  have fl := BF.len
  have s := stock_lo B h1
  have t := B.top
  have a := V_bd B (L := L) F stock BF (by omega) h2
  have b := len4 fl
  have c := preM_bd B BF (stock := stock) (by omega) (by omega) L
  have d := len4 (n := L) (by omega)
  refine smQ_of BF ((Vt_fits F stock BF.good h2).add (preM_fits BF.good stock L)) ?_
  show -(100000000000 : Rat) ≤ (Vt S L F stock).1 + preM S F stock L ∧ (Vt S L F stock).1 + preM S F stock L ≤ 100000000000
  generalize (F.length : Rat) = n at *
  generalize (L : Rat) = m at *
  grind
end TW
/-! what repr shows -/
namespace TW
open PySem PySem.Spec PyProof.Rows L2 TM
def dSh (q : Rat) : PyData := .tuple [.int q.num, .int (q.den : Int)]
def dPr (x : Rat × Int) : PyData := .tuple [dSh x.1, .int x.2]
def dRow (xs : List (Rat × Int)) : PyData := .tuple (xs.map dPr)
def dTab (T : List (List (Rat × Int))) : PyData := .tuple (T.map dRow)
theorem dpAll {K : PySem.W.Frag} {H : Hp} {α : Type} {G : Addr → α → Prop} {d : α → PyData} (h : ∀ a x, G a x → Dp K H (.ref a) (d x)) : ∀ {ps : List Addr} {xs : List α}, Paired G ps xs → DpAll K H (ps.map V.ref) (xs.map d)
  | _, _, .nil => .nil
  | _, _, .cons r t => .cons (h _ _ r) (dpAll h t)
theorem Sh.dp {K : PySem.W.Frag} {H : Hp} {a : Addr} {q : Rat} (h : Sh K H a q) : Dp K H (.ref a) (dSh q) := .tup h (.cons (.int _) (.cons (.int _) .nil))
theorem Pr.dp {K : PySem.W.Frag} {H : Hp} {a : Addr} {x : Rat × Int} (h : Pr K H a x) : Dp K H (.ref a) (dPr x) := let ⟨_, p, q⟩ := h; .tup p (.cons q.dp (.cons (.int _) .nil))
theorem RowA.dp {K : PySem.W.Frag} {H : Hp} {a : Addr} {x : List (Rat × Int)} (h : RowA K H a x) : Dp K H (.ref a) (dRow x) := let ⟨_, p, q⟩ := h; .tup p (dpAll (fun _ _ z => Pr.dp z) q)
theorem TabA.dp {K : PySem.W.Frag} {H : Hp} {a : Addr} {x : List (List (Rat × Int))} (h : TabA K H a x) : Dp K H (.ref a) (dTab x) := let ⟨_, p, q⟩ := h; .tup p (dpAll (fun _ _ z => RowA.dp z) q)
structure Okd (d : PyData) (dep bul : Nat) : Prop where
  sh : d.showable = true
  nd : d.hasDict = false
  dp : d.depth ≤ dep
  lf : d.leavesShort 201 = true
  bk : d.bulk ≤ bul
theorem Okd.mono {d : PyData} {a b a' b' : Nat} (h : Okd d a b) (h1 : a ≤ a') (h2 : b ≤ b') : Okd d a' b' := ⟨h.sh, h.nd, Nat.le_trans h.dp h1, h.lf, Nat.le_trans h.bk h2⟩
theorem okd_int {i : Int} (h1 : -(1606938044258990275541962092341162602522202993782792835301376 : Int) < i) (h2 : i < 1606938044258990275541962092341162602522202993782792835301376) : Okd (.int i) 0 0 := by
  have e : (2 : Nat) ^ 200 = 1606938044258990275541962092341162602522202993782792835301376 := by decide
  have b : i.natAbs.log2 < 200 := PySem.Flt.log2_lt_of (by decide) (by omega)
  refine ⟨?_, by simp only [PyData.hasDict], by simp only [PyData.depth]; omega, ?_, by simp only [PyData.bulk]; omega⟩
  · simp only [PyData.showable, decide_eq_true_eq]
    omega
  · have q := PySem.int_text_length_le (a := i) (k := 200) (by decide) b
    have q2 : (PyData.int i).shown.length ≤ 201 := by
      simp only [PyData.shown]
      rw [PyProof.Rows.ofString_length, String.length_toList]
      exact q
    simp only [PyData.leavesShort]
    exact decide_eq_true q2
theorem okd_tup {ds : List PyData} {dep bul n : Nat} (h : ∀ d ∈ ds, Okd d dep bul) (hn : ds.length ≤ n) : Okd (.tuple ds) (dep + 1) (n * (bul + 1)) := by
  have key : ∀ ds : List PyData, (∀ d ∈ ds, Okd d dep bul) → PyData.showableAll ds = true ∧ PyData.hasDictAll ds = false ∧ PyData.depthAll ds ≤ dep ∧ PyData.leavesShortAll 201 ds = true ∧ PyData.bulkAll ds ≤ ds.length * (bul + 1) := by
    intro ds
    induction ds with
    | nil =>
      intro _
      simp only [PyData.showableAll, PyData.hasDictAll, PyData.depthAll, PyData.leavesShortAll, PyData.bulkAll]
      exact ⟨trivial, trivial, Nat.zero_le _, trivial, Nat.zero_le _⟩
    | cons d ds ih =>
      intro h
      obtain ⟨a1, a2, a3, a4, a5⟩ := ih fun e he => h e (List.mem_cons_of_mem _ he)
      obtain ⟨b1, b2, b3, b4, b5⟩ := h d List.mem_cons_self
      simp only [PyData.showableAll, PyData.hasDictAll, PyData.depthAll, PyData.leavesShortAll, PyData.bulkAll, a1, a2, a4, b1, b2, b4, List.length_cons, Bool.and_self, Bool.or_self, Nat.succ_mul]
      exact ⟨trivial, trivial, by omega, trivial, by omega⟩
  obtain ⟨a1, a2, a3, a4, a5⟩ := key ds h
  have m : ds.length * (bul + 1) ≤ n * (bul + 1) := Nat.mul_le_mul_right _ hn
  exact ⟨by simp only [PyData.showable, a1], by simp only [PyData.hasDict, a2], by simp only [PyData.depth]; omega, by simp only [PyData.leavesShort, a4], by simp only [PyData.bulk]; omega⟩
theorem okd_sh {q : Rat} (h : SmQ q) : Okd (dSh q) 1 2 := okd_tup (n := 2) (dep := 0) (bul := 0) (fun d hd => by
  obtain ⟨a, b, c⟩ := h
  have p := den_pos q
  rcases List.mem_cons.mp hd with rfl | hd
  · exact okd_int a b
  · obtain rfl := List.mem_singleton.mp hd
    exact okd_int (by omega) c) (Nat.le_refl _)
theorem okd_pr {x : Rat × Int} (h : SmQ x.1) (h1 : -1000 ≤ x.2) (h2 : x.2 ≤ 1000) : Okd (dPr x) 2 6 := okd_tup (n := 2) (dep := 1) (bul := 2) (fun d hd => by
  rcases List.mem_cons.mp hd with rfl | hd
  · exact okd_sh h
  · obtain rfl := List.mem_singleton.mp hd
    exact (okd_int (by omega) (by omega)).mono (by decide) (by decide)) (Nat.le_refl _)
theorem okd_row {xs : List (Rat × Int)} (h : ∀ x ∈ xs, SmQ x.1 ∧ -1000 ≤ x.2 ∧ x.2 ≤ 1000) (hl : xs.length ≤ 200) : Okd (dRow xs) 3 1400 := okd_tup (n := 200) (dep := 2) (bul := 6) (fun d hd => by
  obtain ⟨x, hx, rfl⟩ := List.mem_map.mp hd
  obtain ⟨a, b, c⟩ := h x hx
  exact okd_pr a b c) (by rw [List.length_map]; exact hl)
theorem okd_tab {T : List (List (Rat × Int))} (h : ∀ xs ∈ T, Okd (dRow xs) 3 1400) (hl : T.length ≤ 4) : Okd (dTab T) 4 5604 := okd_tup (n := 4) (dep := 3) (bul := 1400) (fun d hd => by
  obtain ⟨x, hx, rfl⟩ := List.mem_map.mp hd
  exact h x hx) (by rw [List.length_map]; exact hl)
theorem okd_two {d e : PyData} (h1 : Okd d 4 5604) (h2 : Okd e 1 2) : Okd (.tuple [d, e]) 5 11210 := okd_tup (n := 2) (dep := 4) (bul := 5604) (fun x hx => by
  rcases List.mem_cons.mp hx with rfl | hx
  · exact h1
  · obtain rfl := List.mem_singleton.mp hx
    exact h2.mono (by decide) (by decide)) (Nat.le_refl _)
theorem Okd.size {d : PyData} {dep : Nat} (h : Okd d dep 11210) : d.shown.length ≤ sizeLine := by
  have a := PyData.shown_le_bulk 201 (by decide) d h.lf
  have b : (201 + 2) * d.bulk ≤ (201 + 2) * 11210 := Nat.mul_le_mul_left _ h.bk
  have z : sizeLine = 16777216 := by decide
  omega
/-- the table's data -/
theorem okd_tabOf {S : Shop} (B : SB S) {L : Nat} {F : List (List Int)} (BF : FB F) {stock : Int} (h1 : gr F - S.depth ≤ stock) (h2 : stock ≤ S.top) : Okd (dTab (tabOf S L F stock)) 4 5604 := by
  have fl := BF.len
  have s := stock_lo B h1
  have t := B.top
  refine okd_tab (fun xs hx => ?_) (by rw [tabOf_len]; omega)
  obtain ⟨k, hk⟩ := List.mem_iff_getElem?.mp hx
  have kl := len_of hk
  rw [tabOf_len] at kl
  rw [tabOf_get kl] at hk
  obtain rfl := Option.some.inj hk
  have g1 := gr_take_le F k
  have g2 := gr_le fun one ho => (BF.day one ho).len
  have g3 := gr_mono F k
  have lo : -132 ≤ low F stock k ∧ low F stock k ≤ S.top := by unfold low; omega
  refine okd_row (fun x hx => ?_) (by rw [tabRow_len]; omega)
  obtain ⟨i, hi⟩ := List.mem_iff_getElem?.mp hx
  have il := len_of hi
  rw [tabRow_len] at il
  rw [tabRow_get il] at hi
  obtain rfl := Option.some.inj hi
  have c1 : low F stock k + (i : Nat) ≤ S.top := by omega
  refine ⟨V_sm B (BF.drop k) (by omega) c1, ?_⟩
  obtain ⟨one, hone⟩ : ∃ one, F[k]? = some one := ⟨F[k], List.getElem?_eq_getElem (by omega)⟩
  rw [drop_more hone]
  obtain ⟨_, k2, k3, _⟩ := V_spec (S := S) (L := L) (one := one) (F := F.drop (k + 1)) c1
  omega
end TW
/-! the law itself -/
namespace TW
open PySem PySem.Spec PyProof.Rows L2 LamX TM
abbrev sLaw : Stmt := topS 45
/-! ### what the law compares -/
theorem lvd_told {S : Shop} {L : Nat} {F : List (List Int)} {stock : Int} : LvD S L F stock (wayT S L F) := fun _ _ _ D => wayT_lv D.ht D.hi
theorem lvd_any {S : Shop} {L : Nat} {F : List (List Int)} {stock key : Int} : LvD S L F stock (wayA S key) := fun t c hist D => wayA_lv S key t c hist D.hi
def costOf (S : Shop) (L : Nat) (F : List (List Int)) (stock : Int) (g : Nat → Int → List Int → Int) : Int := (costL (walk S L g stock) (rowsOf F)).sum
theorem told_eq {S : Shop} {L : Nat} {F : List (List Int)} {stock : Int} (A : Ask S F L stock) : ((costOf S L F stock (wayT S L F) : Int) : Rat) / ((TI F : Int) : Rat) = late S L F stock := by
  have g := A.FB.good
  have n := rcast_ne g.TI
  unfold costOf
  rw [cost_E _ g.nn, walk_told (way := wayT S L F) (fun t c hist _ _ _ => rfl) g A.L.1 A.L.2 A.top (by have := A.free; omega)]
  exact Rat.mul_div_cancel n
theorem any_le {S : Shop} {L : Nat} {F : List (List Int)} {stock key : Int} (A : Ask S F L stock) : (late S L F stock).num * TI F ≤ costOf S L F stock (wayA S key) * ((late S L F stock).den : Int) := by
  have g := A.FB.good
  have w := walk_ge (wayA_lv S key) g A.L.1 A.L.2 A.top (by have := A.free; omega)
  rw [← cost_E _ g.nn] at w
  have w : late S L F stock * (TI F : Int) ≤ ((costOf S L F stock (wayA S key) : Int) : Rat) := w
  generalize costOf S L F stock (wayA S key) = c at *
  generalize late S L F stock = q at *
  have p := den_pos q
  have p' : (0 : Rat) < ((q.den : Int) : Rat) := Rat.intCast_pos.mpr p
  have e : (q.num : Rat) = q * ((q.den : Int) : Rat) := by
    have := rat_eq q
    rw [← Rat.div_mul_cancel (a := (q.num : Rat)) (rcast_ne p), this]
  refine Rat.intCast_le_intCast.mp ?_
  rw [Rat.intCast_mul, Rat.intCast_mul, e]
  have m := Rat.mul_le_mul_of_nonneg_left w (Rat.le_of_lt p')
  generalize ((q.den : Int) : Rat) = d at *
  generalize ((TI F : Int) : Rat) = t at *
  grind
section
variable {P : Program} {w : World} {K : PySem.W.Frag} {mg : Str → Option Value} {base : Heap}
abbrev nLaw : List Str := ["_law_script", "_law_pen_here", "_law_keys", "_law_shop", "_law_falls", "_law_stock", "_law_bottom_here", "_law_days", "_law_table", "_law_told_here", "_law_kept", "_law_cost_here", "_law_key", "_law_k"]
theorem scLaw : FnScope nLaw ["_law_script"] (defScope sLaw) := ⟨rfl, rfl, rfl, by decide +kernel, rfl, by decide +kernel, by decide +kernel⟩
theorem late_den {S : Shop} {L : Nat} {F : List (List Int)} {stock : Int} (A : Ask S F L stock) : 0 < ((late S L F stock).den : Int) ∧ ((late S L F stock).den : Int) < 2 ^ 64 := by
  have t := A.FB.TI
  have a := ((Vt_fits (S := S) (L := L) F stock A.FB.good A.top).add (preM_fits (S := S) A.FB.good stock L)).den t.1
  have p := den_pos (late S L F stock)
  have a : ((late S L F stock).den : Int) ≤ TI F := a
  exact ⟨p, by omega⟩
/-- all that the law calls -/
structure Calls (P : Program) (w : World) (K : PySem.W.Frag) (mg : Str → Option Value) (base : Heap) (TT : List (Addr × Str)) : Prop where
  T : Blt mg
  pen : Cal P w K mg base 1 "_law_pen" ["_law_script"] (spPen K)
  draw : Cal P w K mg base 1 "_law_draw" ["_law_pen_here", "_law_many"] spDraw
  asked : Cal P w K mg base 3 "_law_asked" ["_law_pen_here"] (spLAsked K)
  bottom : Cal P w K mg base 1 "_law_bottom" ["_law_falls", "_law_t"] (spLBottom K)
  short : Cal P w K mg base 5 "short_table" ["shop", "falls", "days", "stock"] (spShort K)
  late : Cal P w K mg base 6 "least_late" ["shop", "falls", "days", "stock"] (spLate K)
  cost : Cal P w K mg base 4 "_law_cost" ["_law_shop", "_law_falls", "_law_days", "_law_stock", "_law_way"] (spCost P w K mg base)
  told : Cal P w K mg base 2 "_law_told" ["_law_table", "_law_stock", "_law_falls"] (spTold P w K mg base TT)
  any : Cal P w K mg base 1 "_law_any" ["_law_shop", "_law_key"] (spAny P w K mg base TT)
  share : Cal P w K mg base 1 "_law_share" ["_law_top", "_law_bottom_here"] (spShare K)
/-- repr(e, ..) at the law's own place -/
theorem law_body {f a : Addr} {cdv : Value} {s : Shared} {H : Hp} {Q : VK} {ns : List Int} {Pt Pa : Addr} {q1 q2 : Str} (C : Calls P w K mg base [(Pt, q1), (Pa, q2)]) (hr : Room 7 (callerA.deeper (envOfC "law" (defScope sLaw) s.heap.objs.size f cdv)))
    (ha : SqL K H a (ns.map V.int)) (hl : ns.length ≤ 63) (t1 : H Pt = some (.tbl #[])) (t2 : H Pa = some (.tbl #[])) (q : ∀ H', Q (.bl true) H') :
    ∃ t, PSs (cxOf CX0 P w K mg base nLaw "law" (defScope sLaw) f cdv callerA [] s H E0).nox (defBody sLaw) t ∧ t { nx := fun _ H' => Q .non H', rt := Q } (L2.start nLaw [.ref a]) H := by
  have T := C.T
  refine ⟨_, pss_cons (ps_set (i := 1) scLaw.nd rfl (.inr rfl) (pe_cal C.pen hr (by decide) rfl (pa_cons (pv 0) pa_nil)))
    (pss_cons (ps_setLc (i := 2) (own := [("_law_k", 13)]) (g := gName 13) (tt := tYes) rfl scLaw.nd rfl rfl (sw_true rfl rfl rfl (by decide +kernel)) (pi_range1 (by rfl) T.range (pa_cons pe_int pa_nil))
        (blkOk_by (N := nLaw) (sc := defScope sLaw) (by decide +kernel)) (fun _ _ _ _ _ => pg_name (i := 13) scLaw.nd rfl (Or.inl rfl) (Or.inr rfl)) (fun _ _ _ _ _ => pts_nil) (fun _ _ _ _ _ => pe_cal C.draw hr (by decide) rfl (pa_cons (pv 1) (pa_cons (pe_op op_pow pe_int pe_int) pa_nil))))
    (pss_cons (ps_asg (pe_cal C.asked hr (by decide) rfl (pa_cons (pv 1) pa_nil)) (pg_tup rfl (pgs_cons (pg_name (i := 3) scLaw.nd rfl (.inl rfl)) (pgs_cons (pg_name (i := 4) scLaw.nd rfl (.inl rfl)) (pgs_cons (pg_name (i := 5) scLaw.nd rfl (.inl rfl)) pgs_nil)))))
    (pss_cons (ps_set (i := 6) scLaw.nd rfl (.inl rfl) (pe_cal C.bottom hr (by decide) rfl (pa_cons (pv 4) (pa_cons pe_int pa_nil))))
    (pss_cons (ps_for PassesOwn.never rfl (pi_range2 (by rfl) T.range (pa_cons pe_int (pa_cons (pe_op op_add (pe_callB (call_min2 rfl) (by rfl) T.min boot_min' (pa_cons pe_int (pa_cons (pe_op op_sub (pe_callB (r := rLenSeq K) call_len_seq (by rfl) T.len PySem.boot_len (pa_cons (pv 4) pa_nil)) pe_int) pa_nil))) pe_int) pa_nil))) (pg_name (i := 7) scLaw.nd rfl (.inl rfl))
      (pss_cons (ps_set (i := 8) scLaw.nd rfl (.inl rfl) (pe_cal C.short hr (by decide) rfl (pa_cons (pv 3) (pa_cons (pv 4) (pa_cons (pv 7) (pa_cons (pv 5) pa_nil))))))
      (pss_cons (ps_set (i := 9) scLaw.nd rfl (.inl rfl) (pe_cal C.late hr (by decide) rfl (pa_cons (pv 3) (pa_cons (pv 4) (pa_cons (pv 7) (pa_cons (pv 5) pa_nil))))))
      (pss_cons (ps_set (i := 10) scLaw.nd rfl (.inl rfl) (pe_callB (r := rRepr K) (cr_repr rfl hr.units) (by rfl) T.repr boot_repr (pa_cons (pe_tup (pa_cons (pv 8) (pa_cons (pv 9) pa_nil))) pa_nil)))
      (pss_cons (ps_set (i := 11) scLaw.nd rfl (.inl rfl) (pe_cal C.cost hr (by decide) rfl (pa_cons (pv 3) (pa_cons (pv 4) (pa_cons (pv 7) (pa_cons (pv 5) (pa_cons (pe_cal C.told hr (by decide) rfl (pa_cons (pv 8) (pa_cons (pv 5) (pa_cons (pv 4) pa_nil)))) pa_nil)))))))
      (pss_cons (ps_if (pt_cmpR op_ne (pe_callB (r := rRepr K) (cr_repr rfl hr.units) (by rfl) T.repr boot_repr (pa_cons (pv 9) pa_nil)) (pe_callB (r := rRepr K) (cr_repr rfl hr.units) (by rfl) T.repr boot_repr (pa_cons (pe_cal C.share hr (by decide) rfl (pa_cons (pv 11) (pa_cons (pv 6) pa_nil))) pa_nil)) (nomark _)) (pss_one ps_never) pss_nil)
      (pss_cons (ps_for PassesOwn.never rfl (pi_list (pv 2)) (pg_name (i := 12) scLaw.nd rfl (.inl rfl))
        (pss_one (ps_if (pt_cmpR op_lt (pe_op op_mul (pe_cal C.cost hr (by decide) rfl (pa_cons (pv 3) (pa_cons (pv 4) (pa_cons (pv 7) (pa_cons (pv 5) (pa_cons (pe_cal C.any hr (by decide) rfl (pa_cons (pv 3) (pa_cons (pv 12) pa_nil))) pa_nil)))))) (pe_ix ix_tup (pv 9) pe_int (fun _ _ => rfl))) (pe_op op_mul (pe_ix ix_tup (pv 9) pe_int (fun _ _ => rfl)) (pv 6)) (nomark _)) (pss_one ps_never) pss_nil)))
      (pss_one (ps_if (pt_cmpR op_ne (pe_callB (r := rRepr K) (cr_repr rfl hr.units) (by rfl) T.repr boot_repr (pa_cons (pe_tup (pa_cons (pe_cal C.short hr (by decide) rfl (pa_cons (pv 3) (pa_cons (pv 4) (pa_cons (pv 7) (pa_cons (pv 5) pa_nil))))) (pa_cons (pe_cal C.late hr (by decide) rfl (pa_cons (pv 3) (pa_cons (pv 4) (pa_cons (pv 7) (pa_cons (pv 5) pa_nil))))) pa_nil))) pa_nil)) (pv 10) (nomark _)) (pss_one ps_never) pss_nil)))))))))
    (pss_one (ps_ret pe_bl)))))), ?_⟩
  -- the pen
  refine ⟨_, rfl, a, ns, rfl, ha, hl, fun H1 p l e1 np p1 => ?_⟩
  have nep : ∀ {b : Addr} {o : HO}, H b = some o → b ≠ p := fun h => ne_of_none h np
  -- the keys
  refine ⟨4, rfl, by decide, by decide, fun D nD => ?_⟩
  have nDp := p1.ne nD
  refine lc_it (walk_range (lo := 0) (n := 4)) (fun k H' => PenB p H1 H' ∧ PenAt H' p l k ∧ ∃ ws : List Int, H' D = some (.lst (ws.map V.int)) ∧ ws.length = k ∧ ∀ u ∈ ws, 0 ≤ u ∧ u < 1000000000)
    ⟨penB_new (.refl p H1) nD, p1.put nDp, [], upd_same, rfl, fun u hu => by simp at hu⟩ (fun _ _ _ _ => trivial) ?_ ?_
  · rintro k x H2 H3 hk ⟨B2, p2, ws, hD, hlen, hws⟩ ⟨rfl, rfl⟩
    refine ⟨rfl, tyes ?_⟩
    refine ⟨_, rfl, _, _, rfl, rfl, ⟨by decide, by decide, by decide⟩, p, l, 1000000000, k, rfl, by decide, by decide, p2, by omega, fun H5 v5 b5 p5 v50 v5b => ?_⟩
    refine ⟨_, b5.lst p2 hD, ?_, penB_put (B2.trans b5) nD, (p5.put nDp).mono (by omega), ws ++ [v5], ?_, ?_, fun u hu => ?_⟩
    · rw [len_map]
      exact small8 (by omega)
    · rw [upd_same, List.map_append]
      rfl
    · rw [List.length_append, hlen]
      rfl
    · rcases List.mem_append.mp hu with hu | hu
      · exact hws u hu
      · obtain rfl := List.mem_singleton.mp hu
        exact ⟨v50, v5b⟩
  rintro H2 ⟨B2, p2, ws, hD, hlen, hws⟩
  -- the shop, the days, the stock
  refine ⟨_, rfl, p, l, _, rfl, p2, by omega, fun H3 u3 a3 b3 S F stock B3 h3 shop SBd fls FBd F2 sT sF => ?_⟩
  refine ⟨u3, _, rfl, h3, rfl, _, _, rfl, _, _, rfl, _, _, rfl, rfl, ?_⟩
  have hD3 := B3.lst p2 hD
  have keepT : ∀ {b : Addr}, H b = some (.tbl #[]) → H3 b = some (.tbl #[]) := fun h => B3 _ _ (B2 _ _ (e1 _ _ h) (nep h)) (nep h)
  -- the bottom
  refine ⟨_, rfl, b3, F, rfl, fls, FBd, fun H4 e4 => ?_⟩
  have shop4 := shop.same e4
  have fls4 := fls.same e4
  have hD4 := e4 _ _ hD3
  have T4 : Tabs [(Pt, q1), (Pa, q2)] H4 := fun x hx => by
    rcases List.mem_cons.mp hx with rfl | hx
    · exact TabS.nil (e4 _ _ (keepT t1))
    · obtain rfl := List.mem_singleton.mp hx
      exact TabS.nil (e4 _ _ (keepT t2))
  -- the days ahead
  have Fl := FBd.len
  obtain ⟨ps4, hb4, pr4⟩ := id fls4
  have el : (ps4.map V.ref).length = F.length := by rw [List.length_map]; exact pLen pr4
  refine ⟨_, rfl, b3, _, rfl, .inr hb4, _, _, rfl, rfl, _, _, rfl, _, _, rfl, rfl, _, _, rfl, ?_, ?_⟩
  · rw [el]
    show -(2 ^ 62) ≤ (1 : Int) ∧ (1 : Int) < 2 ^ 62 ∧ -(2 ^ 62) ≤ (if (F.length : Int) - 1 < 3 then (F.length : Int) - 1 else 3) + 1 ∧ (if (F.length : Int) - 1 < 3 then (F.length : Int) - 1 else 3) + 1 < 2 ^ 62
    omega
  obtain ⟨n, en, nl⟩ : ∃ n : Nat, ((if ((F.length : Nat) : Int) - 1 < 3 then ((F.length : Nat) : Int) - 1 else 3) + 1 - 1).toNat = n ∧ n < F.length := ⟨_, rfl, by omega⟩
  rw [el]
  refine for_it (walk_range (lo := 1) (n := ((if ((F.length : Nat) : Int) - 1 < 3 then ((F.length : Nat) : Int) - 1 else 3) + 1 - 1).toNat)) (fun k σ H' => ∃ y7 y8 y9 y10 y11 y12 : Option V, σ = [some (.ref a), some (.ref p), some (.ref D), some (.ref a3), some (.ref b3), some (.int stock), some (.int (TI F)), y7, y8, y9, y10, y11, y12, none] ∧ ExtN H4 H' ∧ Tabs [(Pt, q1), (Pa, q2)] H')
    ⟨none, none, none, none, none, none, rfl, .refl _, T4⟩ (fun _ _ _ _ _ => trivial) ?_ ?_
  · rintro k x σ H5' H5 hk ⟨y7, y8, y9, y10, y11, y12, rfl, x5, T5⟩ ⟨rfl, rfl⟩
    rw [en] at hk
    have A : Ask S F (k + 1) stock := ⟨SBd, FBd, ⟨by omega, by omega⟩, sT, sF⟩
    show gName 7 (V.int (1 + (k : Int))) _ _ _
    rw [show (1 + (k : Int)) = ((k + 1 : Nat) : Int) by omega]
    generalize hL : k + 1 = L at A
    have LF := A.L
    have sm := late_sm (L := L) SBd FBd LF.2 sF sT
    have ok1 := okd_tabOf (L := L) SBd FBd sF sT
    have ok2 := okd_sh sm
    have ok3 := okd_two ok1 ok2
    have ok2' : Okd (dSh (late S L F stock)) 5 11210 := ok2.mono (by decide) (by decide)
    have shop5 := shop4.keep (.ofN x5)
    have fls5 := fls4.keep (.ofN x5)
    refine ⟨_, rfl, _, rfl, _, rfl, _, rfl, a3, b3, S, F, L, stock, rfl, shop5, fls5, A, fun H6 tb e6 tab => ?_⟩
    refine ⟨_, rfl, _, rfl, _, rfl, _, rfl, a3, b3, S, F, L, stock, rfl, shop5.same e6, fls5.same e6, A, fun H7 sh e7 told => ?_⟩
    have tab7 := tab.same e7
    refine ⟨_, rfl, _, rfl, (by show 2 ≤ sizeLine; decide), fun t8 n8 => ?_⟩
    have e8 := same_upd (o := .tup [V.ref tb, .ref sh]) n8
    refine ⟨t8, .tuple [dTab (tabOf S L F stock), dSh (late S L F stock)], rfl, .tup (SqT.of upd_same) (.cons (tab7.same e8).dp (.cons (told.same e8).dp .nil)), ok3.sh, ok3.nd, Nat.le_trans ok3.dp (by decide), ok3.size, ?_⟩
    have told8 := told.same e8
    have tab8 := tab7.same e8
    have e58 := (e6.trans e7).trans e8
    have shop8 := shop5.same e58
    have fls8 := fls5.same e58
    have T8 := T5.ext e58
    have x8 : ExtN H4 _ := x5.trans (.of e58)
    generalize upd H7 t8 (.tup [V.ref tb, .ref sh]) = H8 at *
    -- the cost of what the table tells
    refine ⟨_, rfl, _, rfl, _, rfl, _, rfl, _, rfl, _, rfl, _, rfl, tb, b3, S, L, F, stock, rfl, tab8, fls8, FBd, T8, fun H9 fw x9 T9 R => ?_⟩
    refine ⟨a3, b3, fw, S, L, F, stock, wayT S L F, rfl, shop8.keep (.ofN x9), SBd, fls8.keep (.ofN x9), FBd, LF.1, LF.2, sT, lvd_told, R, fun H10 e10 => ?_⟩
    have told10 := (told8.keep (.ofN x9)).same e10
    have tiB := FBd.TI
    have x10 : ExtN H4 H10 := x8.trans (x9.trans (.of e10))
    have T10 := T9.ext e10
    have shop10 := (shop8.keep (.ofN x9)).same e10
    have fls10 := (fls8.keep (.ofN x9)).same e10
    have hD10 := x10 _ _ hD4 fun _ z => by cases z
    -- told twice
    refine ⟨_, rfl, sh, dSh (late S L F stock), rfl, told10.dp, ok2'.sh, ok2'.nd, Nat.le_trans ok2'.dp (by decide), ok2'.size, ?_⟩
    refine ⟨_, rfl, _, rfl, costOf S L F stock (wayT S L F), TI F, rfl, tiB.1, Int.lt_trans tiB.2 (by decide), fun H11 s11 e11 sh11 => ?_⟩
    rw [told_eq A] at sh11
    refine ⟨s11, dSh (late S L F stock), rfl, sh11.dp, ok2'.sh, ok2'.nd, Nat.le_trans ok2'.dp (by decide), ok2'.size, ?_⟩
    refine ⟨rfl, _, rfl, ?_⟩
    rw [decide_eq_true rfl]
    refine iteF ?_
    -- any other way
    have told11 := told10.same e11
    have hD11 := e11 _ _ hD10
    refine ⟨_, rfl, D, rfl, ⟨_, SqL.of hD11⟩, ?_⟩
    refine for_it (walk_list (xs := ws.map V.int)) (fun i σ H' => ∃ y12 : Option V, σ = [some (.ref a), some (.ref p), some (.ref D), some (.ref a3), some (.ref b3), some (.int stock), some (.int (TI F)), some (.int (L : Int)), some (.ref tb), some (.ref sh), some (.str (PyData.tuple [dTab (tabOf S L F stock), dSh (late S L F stock)]).shown), some (.int (costOf S L F stock (wayT S L F))), y12, none] ∧ ExtN H11 H' ∧ Tabs [(Pt, q1), (Pa, q2)] H')
      ⟨y12, rfl, .refl _, T10.ext e11⟩ (fun i σ H' _ ⟨_, _, e, _⟩ => SqL.of (e _ _ hD11 fun _ z => by cases z)) ?_ ?_
    · rintro i x σ H12' H12 hi ⟨z12, rfl, x12, T12⟩ ⟨rfl, g1⟩
      obtain ⟨key, hkey, rfl⟩ := map_get g1
      obtain ⟨k0, k1⟩ := hws key (List.mem_of_getElem? hkey)
      have shop12 := (shop10.same e11).keep (.ofN x12)
      have fls12 := (fls10.same e11).keep (.ofN x12)
      refine ⟨_, rfl, _, rfl, _, rfl, _, rfl, _, rfl, _, rfl, a3, key, S, L, F, stock, rfl, shop12, SBd, FBd, sF, k0, k1, T12, fun H13 fa x13 T13 R13 => ?_⟩
      refine ⟨a3, b3, fa, S, L, F, stock, wayA S key, rfl, shop12.keep (.ofN x13), SBd, fls12.keep (.ofN x13), FBd, LF.1, LF.2, sT, lvd_any, R13, fun H14 e14 => ?_⟩
      have told14 := ((told11.keep (.ofN x12)).keep (.ofN x13)).same e14
      have dB := late_den A
      have c0 : atI [V.int (late S L F stock).num, V.int ((late S L F stock).den : Int)] 0 = some (.int (late S L F stock).num) := rfl
      have c1 : atI [V.int (late S L F stock).num, V.int ((late S L F stock).den : Int)] 1 = some (.int ((late S L F stock).den : Int)) := rfl
      refine ⟨_, rfl, sh, _, _, _, rfl, rfl, told14, c1, _, _, rfl, rfl, .inr ⟨by omega, dB.2⟩, ?_⟩
      refine ⟨_, rfl, sh, _, _, _, rfl, rfl, told14, c0, _, rfl, _, _, rfl, rfl, .inr ⟨by omega, by omega⟩, _, _, rfl, rfl, _, rfl, ?_⟩
      rw [decide_eq_false (by
        have := any_le (key := key) A
        show ¬ costOf S L F stock (wayA S key) * ((late S L F stock).den : Int) < (late S L F stock).num * TI F
        omega)]
      refine iteF ?_
      exact ⟨_, rfl, x12.trans (x13.trans (.of e14)), T13.ext e14⟩
    · rintro σ H12 ⟨z12, rfl, x12, T12⟩
      have shop12 := (shop10.same e11).keep (.ofN x12)
      have fls12 := (fls10.same e11).keep (.ofN x12)
      -- the same again
      refine ⟨_, rfl, _, rfl, _, rfl, _, rfl, a3, b3, S, F, L, stock, rfl, shop12, fls12, A, fun H13 tb' e13 tab' => ?_⟩
      refine ⟨_, rfl, _, rfl, _, rfl, _, rfl, a3, b3, S, F, L, stock, rfl, shop12.same e13, fls12.same e13, A, fun H14 sh' e14 told' => ?_⟩
      have tab14 := tab'.same e14
      refine ⟨(by show 2 ≤ sizeLine; decide), fun t15 n15 => ?_⟩
      have e15 := same_upd (o := .tup [V.ref tb', .ref sh']) n15
      refine ⟨t15, .tuple [dTab (tabOf S L F stock), dSh (late S L F stock)], rfl, .tup (SqT.of upd_same) (.cons (tab14.same e15).dp (.cons (told'.same e15).dp .nil)), ok3.sh, ok3.nd, Nat.le_trans ok3.dp (by decide), ok3.size, ?_⟩
      refine ⟨_, rfl, rfl, _, rfl, ?_⟩
      rw [decide_eq_true rfl]
      refine iteF ?_
      exact ⟨_, _, _, _, _, _, rfl, x10.trans ((ExtN.of e11).trans (x12.trans (.of ((e13.trans e14).trans e15)))), ((T12.ext e13).ext e14).ext e15⟩
  · rintro σ H5 ⟨y7, y8, y9, y10, y11, y12, rfl, x5, T5⟩
    exact q H5
end
end TW
/-! all defs joined -/
namespace TW
open PySem PySem.Spec PyProof.Rows L2 LamX TM
/-- a def of the written part, by its name -/
structure Df (K : PySem.W.Frag) (mg : Str → Option Value) (x : Str) (st : Stmt) : Prop where
  ex : ∃ (f : Addr) (fd : FuncData), mg x = some (.ref f) ∧ Fun K x x st f fd
/-- .. whose code object is known -/
structure DfC (K : PySem.W.Frag) (mg : Str → Option Value) (x : Str) (st : Stmt) (c Pt : Addr) : Prop where
  ex : ∃ (f : Addr) (fd : FuncData), mg x = some (.ref f) ∧ Fun K x x st f fd ∧ fd.code = .ref c
  tab : PySem.W.tabIn K x = some (c, Pt)
theorem dmk {K : PySem.W.Frag} {mg : Str → Option Value} {h : Heap} {x : Str} {st : Stmt} {f : Addr} {oc : Value} {od an : Option Addr} {osl : Array (Option Value)} {kV doc pm cdv ct : Value} (X : K.In h) (G : h.Ns mainGlobals mg) (a : PySem.W.nsIn K mainGlobals x = some (some (.ref f)))
    (l : K.lookup f = some ⟨oc, od, .func (PySem.W.fnOf x x (defArgs st) (defBody st) (defScope st) .none kV doc pm an cdv ct), osl⟩) (c : PySem.W.codeIn K cdv x = true) (k : PySem.W.keepIn K (.ref f) = true) : Df K mg x st := ⟨f, _, PySem.W.mg_of X G a, fun_mk l c k⟩
theorem dmkC {K : PySem.W.Frag} {mg : Str → Option Value} {h : Heap} {x : Str} {st : Stmt} {f c' Pt : Addr} {oc oc2 : Value} {od an od2 : Option Addr} {osl osl2 : Array (Option Value)} {vs : Array Value} {kV doc pm ct : Value} (X : K.In h) (G : h.Ns mainGlobals mg) (a : PySem.W.nsIn K mainGlobals x = some (some (.ref f)))
    (l : K.lookup f = some ⟨oc, od, .func (PySem.W.fnOf x x (defArgs st) (defBody st) (defScope st) .none kV doc pm an (.ref c') ct), osl⟩) (c : PySem.W.codeIn K (.ref c') x = true) (k : PySem.W.keepIn K (.ref f) = true) (lc : K.lookup c' = some ⟨oc2, od2, .fields vs, osl2⟩) (hv : (vs[11]? : Option Value) = some (.ref Pt)) : DfC K mg x st c' Pt :=
  ⟨⟨f, _, PySem.W.mg_of X G a, fun_mk l c k, rfl⟩, by
    have e : (PySem.W.fnOf x x (defArgs st) (defBody st) (defScope st) .none kV doc pm an (.ref c') ct).code = .ref c' := rfl
    unfold PySem.W.tabIn
    rw [a]
    simp only [l, e, lc, hv]⟩
section
variable {P : Program} {w : World} {K : PySem.W.Frag} {mg : Str → Option Value} {base : Heap}
theorem Df.cal {x : Str} {st : Stmt} {k : Nat} {ps : List Str} {sp : Sp} (D : Df K mg x st) (b : ∀ (kV doc pm : Value) (an : Option Addr) (cdv ct : Value) (us : List Value), us.length = ps.length → bindArgs (PySem.W.fnOf x x (defArgs st) (defBody st) (defScope st) .none kV doc pm an cdv ct) ⟨us, []⟩ = pure (ps.zip us))
    (ok : ∀ (f : Addr) (fd : FuncData), Fun K x x st f fd → FnOk P w K mg base CX0 k f fd ps sp) : Cal P w K mg base k x ps sp := by
  obtain ⟨f, fd, m, F⟩ := D.ex
  exact ⟨f, fd, m, ok f fd F, F.kp, F.binds b⟩
theorem DfC.cal {x : Str} {st : Stmt} {c Pt : Addr} {k : Nat} {ps : List Str} {sp : Sp} (D : DfC K mg x st c Pt) (b : ∀ (kV doc pm : Value) (an : Option Addr) (cdv ct : Value) (us : List Value), us.length = ps.length → bindArgs (PySem.W.fnOf x x (defArgs st) (defBody st) (defScope st) .none kV doc pm an cdv ct) ⟨us, []⟩ = pure (ps.zip us))
    (ok : ∀ (f : Addr) (fd : FuncData), Fun K x x st f fd → fd.code = .ref c → FnOk P w K mg base CX0 k f fd ps sp) : Cal P w K mg base k x ps sp := by
  obtain ⟨f, fd, m, F, e⟩ := D.ex
  exact ⟨f, fd, m, ok f fd F e, F.kp, F.binds b⟩
/-- the defs, as written -/
structure Defs (K : PySem.W.Frag) (mg : Str → Option Value) (c1 c2 P1 P2 : Addr) : Prop where
  d_common : Df K mg "common" sCommon
  d_share : Df K mg "share" sShare
  d_plus : Df K mg "plus" sPlus
  d_below : Df K mg "below" sBelow
  d_order : Df K mg "order_cost" sOrder
  d_next : Df K mg "next_stock" sNext
  d_day : Df K mg "day_cost" sDay
  d_end : Df K mg "end_cost" sEnd
  d_gseen : Df K mg "greatest_seen" sGseen
  d_free : Df K mg "free_from" sFree
  d_tog : Df K mg "together" sTog
  d_gfall : Df K mg "greatest_fall" sGfall
  d_mday : Df K mg "mean_day" sMday
  d_mend : Df K mg "mean_end" sMend
  d_mnext : Df K mg "mean_next" sMnext
  d_cheap : Df K mg "cheapest" sCheap
  d_need : Df K mg "need_free" sNeed
  d_short : Df K mg "short_table" sShort
  d_late : Df K mg "least_late" sLate
  d_pen : Df K mg "_law_pen" sPen
  d_draw : Df K mg "_law_draw" sDraw
  d_lday : Df K mg "_law_day" sLDay
  d_lgreat : Df K mg "_law_greatest" sLGreat
  d_lprices : Df K mg "_law_prices" sLPrices
  d_lasked : Df K mg "_law_asked" sLAsked
  d_lorder : Df K mg "_law_order" sLOrder
  d_lrest : Df K mg "_law_rest_cost" sLRest
  d_lend : Df K mg "_law_end" sLEnd
  d_lbottom : Df K mg "_law_bottom" sLBottom
  d_lshare : Df K mg "_law_share" sLShare
  d_lrows : Df K mg "_law_rows" sLRows
  d_lmixed : Df K mg "_law_mixed" sLMixed
  d_walked : Df K mg "_law_walked" sLWalked
  d_cost : Df K mg "_law_cost" sLCost
  d_told : DfC K mg "_law_told" sLTold c1 P1
  d_any : DfC K mg "_law_any" sLAny c2 P2
  T : Blt mg
theorem calls_mk {c1 c2 Pt Pa : Addr} (A : Defs K mg c1 c2 Pt Pa) (TB1 : TabB base mg c1 Pt) (TB2 : TabB base mg c2 Pa) (ne : Pt ≠ Pa) : Calls P w K mg base [(Pt, "_law_told.<locals>.<lambda>"), (Pa, "_law_any.<locals>.<lambda>")] := by
  have T := A.T
  have C_common : Cal P w K mg base 1 "common" ["one", "other"] spCommon := A.d_common.cal (fun _ _ _ _ _ _ us hl => match us, hl with | [_, _], _ => rfl) fun f fd F => ok_common F
  have C_share : Cal P w K mg base 2 "share" ["top", "bottom"] (spShare K) := A.d_share.cal (fun _ _ _ _ _ _ us hl => match us, hl with | [_, _], _ => rfl) fun f fd F => ok_share F T C_common
  have C_plus : Cal P w K mg base 3 "plus" ["one", "other"] (spPlus K) := A.d_plus.cal (fun _ _ _ _ _ _ us hl => match us, hl with | [_, _], _ => rfl) fun f fd F => ok_plus F C_share
  have C_below : Cal P w K mg base 1 "below" ["one", "other"] (spBelow K) := A.d_below.cal (fun _ _ _ _ _ _ us hl => match us, hl with | [_, _], _ => rfl) fun f fd F => ok_below F
  have C_order : Cal P w K mg base 1 "order_cost" ["shop", "stock", "level"] (spOrder K) := A.d_order.cal (fun _ _ _ _ _ _ us hl => match us, hl with | [_, _, _], _ => rfl) fun f fd F => ok_order F
  have C_next : Cal P w K mg base 1 "next_stock" ["shop", "level", "fall"] (spNext K) := A.d_next.cal (fun _ _ _ _ _ _ us hl => match us, hl with | [_, _, _], _ => rfl) fun f fd F => ok_next F T
  have C_day : Cal P w K mg base 2 "day_cost" ["shop", "level", "fall"] (spDay K) := A.d_day.cal (fun _ _ _ _ _ _ us hl => match us, hl with | [_, _, _], _ => rfl) fun f fd F => ok_day F T C_next
  have C_end : Cal P w K mg base 1 "end_cost" ["shop", "stock"] (spEnd K) := A.d_end.cal (fun _ _ _ _ _ _ us hl => match us, hl with | [_, _], _ => rfl) fun f fd F => ok_end F
  have C_gseen : Cal P w K mg base 1 "greatest_seen" ["one"] (spGreat K) := A.d_gseen.cal (fun _ _ _ _ _ _ us hl => match us, hl with | [_], _ => rfl) fun f fd F => ok_gseen F T
  have C_free : Cal P w K mg base 2 "free_from" ["shop", "falls", "t"] (spFree K) := A.d_free.cal (fun _ _ _ _ _ _ us hl => match us, hl with | [_, _, _], _ => rfl) fun f fd F => ok_free F T C_gseen
  have C_tog : Cal P w K mg base 1 "together" ["falls"] (spTog K) := A.d_tog.cal (fun _ _ _ _ _ _ us hl => match us, hl with | [_], _ => rfl) fun f fd F => ok_tog F T
  have C_gfall : Cal P w K mg base 1 "greatest_fall" ["one"] (spGreat K) := A.d_gfall.cal (fun _ _ _ _ _ _ us hl => match us, hl with | [_], _ => rfl) fun f fd F => ok_gfall F T
  have C_mday : Cal P w K mg base 3 "mean_day" ["shop", "falls", "level"] (spMday K) := A.d_mday.cal (fun _ _ _ _ _ _ us hl => match us, hl with | [_, _, _], _ => rfl) fun f fd F => ok_mday F T C_tog C_day C_share
  have C_mend : Cal P w K mg base 3 "mean_end" ["shop", "falls", "level"] (spMend K) := A.d_mend.cal (fun _ _ _ _ _ _ us hl => match us, hl with | [_, _, _], _ => rfl) fun f fd F => ok_mend F T C_tog C_end C_next C_share
  have C_mnext : Cal P w K mg base 4 "mean_next" ["one", "costs", "level"] (spMnext K) := A.d_mnext.cal (fun _ _ _ _ _ _ us hl => match us, hl with | [_, _, _], _ => rfl) fun f fd F => ok_mnext F T C_share C_plus
  have C_cheap : Cal P w K mg base 4 "cheapest" ["shop", "own", "stock"] (spCheap K) := A.d_cheap.cal (fun _ _ _ _ _ _ us hl => match us, hl with | [_, _, _], _ => rfl) fun f fd F => ok_cheap F T C_order C_below C_share C_plus
  have C_need : Cal P w K mg base 3 "need_free" ["shop", "falls", "stock"] (spNeed K) := A.d_need.cal (fun _ _ _ _ _ _ us hl => match us, hl with | [_, _, _], _ => rfl) fun f fd F => ok_need F C_free
  have C_short : Cal P w K mg base 5 "short_table" ["shop", "falls", "days", "stock"] (spShort K) := A.d_short.cal (fun _ _ _ _ _ _ us hl => match us, hl with | [_, _, _, _], _ => rfl) fun f fd F => ok_short F T C_need C_gfall C_mday C_plus C_mend C_mnext C_cheap
  have C_late : Cal P w K mg base 6 "least_late" ["shop", "falls", "days", "stock"] (spLate K) := A.d_late.cal (fun _ _ _ _ _ _ us hl => match us, hl with | [_, _, _, _], _ => rfl) fun f fd F => ok_late F T C_short C_mday C_plus
  have C_pen : Cal P w K mg base 1 "_law_pen" ["_law_script"] (spPen K) := A.d_pen.cal (fun _ _ _ _ _ _ us hl => match us, hl with | [_], _ => rfl) fun f fd F => ok_pen F T
  have C_draw : Cal P w K mg base 1 "_law_draw" ["_law_pen_here", "_law_many"] spDraw := A.d_draw.cal (fun _ _ _ _ _ _ us hl => match us, hl with | [_, _], _ => rfl) fun f fd F => ok_draw F T
  have C_lday : Cal P w K mg base 2 "_law_day" ["_law_pen_here", "_law_most"] (spLDay K) := A.d_lday.cal (fun _ _ _ _ _ _ us hl => match us, hl with | [_, _], _ => rfl) fun f fd F => ok_lday F T C_draw
  have C_lgreat : Cal P w K mg base 1 "_law_greatest" ["_law_falls"] (spLGreat K) := A.d_lgreat.cal (fun _ _ _ _ _ _ us hl => match us, hl with | [_], _ => rfl) fun f fd F => ok_lgreat F T
  have C_lprices : Cal P w K mg base 2 "_law_prices" ["_law_pen_here"] (spLPrices K) := A.d_lprices.cal (fun _ _ _ _ _ _ us hl => match us, hl with | [_], _ => rfl) fun f fd F => ok_lprices F T C_draw
  have C_lasked : Cal P w K mg base 3 "_law_asked" ["_law_pen_here"] (spLAsked K) := A.d_lasked.cal (fun _ _ _ _ _ _ us hl => match us, hl with | [_], _ => rfl) fun f fd F => ok_lasked F T C_draw C_lday C_lgreat C_lprices
  have C_lorder : Cal P w K mg base 1 "_law_order" ["_law_shop", "_law_pieces"] (spLOrder K) := A.d_lorder.cal (fun _ _ _ _ _ _ us hl => match us, hl with | [_, _], _ => rfl) fun f fd F => ok_lorder F T
  have C_lrest : Cal P w K mg base 1 "_law_rest_cost" ["_law_shop", "_law_rest"] (spLRest K) := A.d_lrest.cal (fun _ _ _ _ _ _ us hl => match us, hl with | [_, _], _ => rfl) fun f fd F => ok_lrest F T
  have C_lend : Cal P w K mg base 1 "_law_end" ["_law_shop", "_law_rest"] (spLEnd K) := A.d_lend.cal (fun _ _ _ _ _ _ us hl => match us, hl with | [_, _], _ => rfl) fun f fd F => ok_lend F T
  have C_lbottom : Cal P w K mg base 1 "_law_bottom" ["_law_falls", "_law_t"] (spLBottom K) := A.d_lbottom.cal (fun _ _ _ _ _ _ us hl => match us, hl with | [_, _], _ => rfl) fun f fd F => ok_lbottom F T
  have C_lshare : Cal P w K mg base 1 "_law_share" ["_law_top", "_law_bottom_here"] (spShare K) := A.d_lshare.cal (fun _ _ _ _ _ _ us hl => match us, hl with | [_, _], _ => rfl) fun f fd F => ok_lshare F T
  have C_lrows : Cal P w K mg base 1 "_law_rows" ["_law_falls"] (spLRows K) := A.d_lrows.cal (fun _ _ _ _ _ _ us hl => match us, hl with | [_], _ => rfl) fun f fd F => ok_lrows F T
  have C_lmixed : Cal P w K mg base 1 "_law_mixed" ["_law_key", "_law_t", "_law_counted", "_law_row"] (spLMixed K) := A.d_lmixed.cal (fun _ _ _ _ _ _ us hl => match us, hl with | [_, _, _, _], _ => rfl) fun f fd F => ok_lmixed F
  have C_walked : Cal P w K mg base 3 "_law_walked" ["_law_shop", "_law_days", "_law_stock", "_law_row", "_law_way"] (spWalked P w K mg base) := A.d_walked.cal (fun _ _ _ _ _ _ us hl => match us, hl with | [_, _, _, _, _], _ => rfl) fun f fd F => ok_walked F T C_lorder C_lrest C_lend
  have C_cost : Cal P w K mg base 4 "_law_cost" ["_law_shop", "_law_falls", "_law_days", "_law_stock", "_law_way"] (spCost P w K mg base) := A.d_cost.cal (fun _ _ _ _ _ _ us hl => match us, hl with | [_, _, _, _, _], _ => rfl) fun f fd F => ok_cost F T C_lrows C_walked
  have C_told : Cal P w K mg base 2 "_law_told" ["_law_table", "_law_stock", "_law_falls"] (spTold P w K mg base [(Pt, "_law_told.<locals>.<lambda>"), (Pa, "_law_any.<locals>.<lambda>")]) := A.d_told.cal (fun _ _ _ _ _ _ us hl => match us, hl with | [_, _, _], _ => rfl) fun f fd F e =>
    ok_told F T C_lgreat TB1 e (List.mem_cons_self) (fun x hx hp => by
      rcases List.mem_cons.mp hx with rfl | hx
      · rfl
      · obtain rfl := List.mem_singleton.mp hx
        exact absurd hp.symm ne)
  have C_any : Cal P w K mg base 1 "_law_any" ["_law_shop", "_law_key"] (spAny P w K mg base [(Pt, "_law_told.<locals>.<lambda>"), (Pa, "_law_any.<locals>.<lambda>")]) := A.d_any.cal (fun _ _ _ _ _ _ us hl => match us, hl with | [_, _], _ => rfl) fun f fd F e =>
    ok_any F C_lmixed TB2 e (List.mem_cons_of_mem _ List.mem_cons_self) (fun x hx hp => by
      rcases List.mem_cons.mp hx with rfl | hx
      · exact absurd hp ne
      · obtain rfl := List.mem_singleton.mp hx
        rfl)
  exact ⟨T, C_pen, C_draw, C_lasked, C_lbottom, C_short, C_late, C_cost, C_told, C_any, C_lshare⟩
/-- the law's own run -/
theorem law_go {f a : Addr} {fd : FuncData} {s : Shared} {H : Hp} {ns : List Int} {Pt Pa : Addr} {q1 q2 : Str} (F : Fun K "law" "law" sLaw f fd) (C : Calls P w K mg base [(Pt, q1), (Pa, q2)]) (e0 : Env0 P w K mg base callerA [] s H)
    (ha : SqL K H a (ns.map V.int)) (hl : ns.length ≤ 63) (t1 : H Pt = some (.tbl #[])) (t2 : H Pa = some (.tbl #[])) : codeAny (model P w) callerA (.call (.ref f) ⟨[.ref a], []⟩) (CR CX0 [] P w H s (fun v _ => v = .bl true) E0) s := by
  obtain ⟨oc, od, kV, doc, pm, an, cdv, ct, osl, rfl, lk, hcd⟩ := F.ex
  refine run_ofS (k := 7) (N := nLaw) (ps := ["_law_script"]) (us := [.ref a]) (vs := [.ref a]) lk hcd scLaw ⟨rfl, by decide, by decide⟩ e0 (.of_eq rfl) (.cons rfl .nil) rfl fun hr => ?_
  obtain ⟨t, h, q⟩ := law_body (Q := fun v _ => v = .bl true) C hr ha hl t1 t2 fun _ => rfl
  exact ⟨t, h.nox, q⟩
end
theorem all_mk {l : PySem.W.OpenLaw} {w : World} {K : PySem.W.Frag} {mg : Str → Option Value} {fa c1 c2 P1 P2 : Addr} (hfa : mg "law" = some (.ref fa)) (A : Defs K mg c1 c2 P1 P2) (dl : Df K mg "law" sLaw)
    (n1 : K.lookup P1 = none) (n2 : K.lookup P2 = none) (ne : P1 ≠ P2) :
    ∃ cs : List (Addr × Addr), (∀ p ∈ cs, K.lookup p.2 = none) ∧ (∀ p ∈ cs, ∃ x ∈ (["_law_told", "_law_any"] : List Str), PySem.W.tabIn K x = some p) ∧
      ∀ (base : Heap) (s0 : Shared) (H : Hp) (a : Addr) (ns : List Int), Env0 l.prog w K mg base callerA [] s0 H → K.In base → base.Ns mainGlobals mg → (∀ p ∈ cs, TabB base mg p.1 p.2) → (∀ p ∈ cs, H p.2 = some (.tbl #[])) →
        SqL K H a (ns.map V.int) → ns.length ≤ 63 → codeAny (model l.prog w) callerA (.call (.ref fa) ⟨[.ref a], []⟩) (CR CX0 [] l.prog w H s0 (fun v _ => v = .bl true) E0) s0 := by
  refine ⟨[(c1, P1), (c2, P2)], fun p hp => ?_, fun p hp => ?_, fun base s0 H a ns e0 KB GB TB hH hS hl => ?_⟩
  · rcases List.mem_cons.mp hp with rfl | hp
    · exact n1
    · obtain rfl := List.mem_singleton.mp hp
      exact n2
  · rcases List.mem_cons.mp hp with rfl | hp
    · exact ⟨_, List.mem_cons_self, A.d_told.tab⟩
    · obtain rfl := List.mem_singleton.mp hp
      exact ⟨_, List.mem_cons_of_mem _ List.mem_cons_self, A.d_any.tab⟩
  · obtain ⟨f, fd, m, F⟩ := dl.ex
    have e : f = fa := by
      have := hfa.symm.trans m
      cases this
      rfl
    subst e
    have m1 : (c1, P1) ∈ [(c1, P1), (c2, P2)] := List.mem_cons_self
    have m2 : (c2, P2) ∈ [(c1, P1), (c2, P2)] := List.mem_cons_of_mem _ List.mem_cons_self
    exact law_go F (calls_mk A (TB _ m1) (TB _ m2) ne) e0 hS hl (hH _ m1) (hH _ m2)
end TW
open PySem PySem.W PyProof.Rows
set_option maxRecDepth 100000 in
set_option maxHeartbeats 0 in
theorem PySem.Challenge.cw_twomarks_k44_whole_orders_under_way_holds : PySem.Challenge.rw_twomarks_k44_whole_orders_under_way.Holds := by
  w_on; o_law; k_head; (case hw => w_witness2)
  k_fill
  refine TW.walk_ofG (l := PySem.Challenge.rw_twomarks_k44_whole_orders_under_way) (n := 63) (xs := ["_law_told", "_law_any"]) rfl (by decide) rfl ?R (fun w h Y => PySem.W.km_in_of Y) ?F
  case R => decide +kernel
  case F =>
    intro w mg fa h KX G hmg
    refine' TW.all_mk hmg (TW.Defs.mk (TW.dmk KX G ?a_common ?l_common ?c_common ?k_common) (TW.dmk KX G ?a_share ?l_share ?c_share ?k_share) (TW.dmk KX G ?a_plus ?l_plus ?c_plus ?k_plus) (TW.dmk KX G ?a_below ?l_below ?c_below ?k_below) (TW.dmk KX G ?a_order ?l_order ?c_order ?k_order) (TW.dmk KX G ?a_next ?l_next ?c_next ?k_next) (TW.dmk KX G ?a_day ?l_day ?c_day ?k_day) (TW.dmk KX G ?a_end ?l_end ?c_end ?k_end) (TW.dmk KX G ?a_gseen ?l_gseen ?c_gseen ?k_gseen) (TW.dmk KX G ?a_free ?l_free ?c_free ?k_free) (TW.dmk KX G ?a_tog ?l_tog ?c_tog ?k_tog) (TW.dmk KX G ?a_gfall ?l_gfall ?c_gfall ?k_gfall) (TW.dmk KX G ?a_mday ?l_mday ?c_mday ?k_mday) (TW.dmk KX G ?a_mend ?l_mend ?c_mend ?k_mend) (TW.dmk KX G ?a_mnext ?l_mnext ?c_mnext ?k_mnext) (TW.dmk KX G ?a_cheap ?l_cheap ?c_cheap ?k_cheap) (TW.dmk KX G ?a_need ?l_need ?c_need ?k_need) (TW.dmk KX G ?a_short ?l_short ?c_short ?k_short) (TW.dmk KX G ?a_late ?l_late ?c_late ?k_late) (TW.dmk KX G ?a_pen ?l_pen ?c_pen ?k_pen) (TW.dmk KX G ?a_draw ?l_draw ?c_draw ?k_draw) (TW.dmk KX G ?a_lday ?l_lday ?c_lday ?k_lday) (TW.dmk KX G ?a_lgreat ?l_lgreat ?c_lgreat ?k_lgreat) (TW.dmk KX G ?a_lprices ?l_lprices ?c_lprices ?k_lprices) (TW.dmk KX G ?a_lasked ?l_lasked ?c_lasked ?k_lasked) (TW.dmk KX G ?a_lorder ?l_lorder ?c_lorder ?k_lorder) (TW.dmk KX G ?a_lrest ?l_lrest ?c_lrest ?k_lrest) (TW.dmk KX G ?a_lend ?l_lend ?c_lend ?k_lend) (TW.dmk KX G ?a_lbottom ?l_lbottom ?c_lbottom ?k_lbottom) (TW.dmk KX G ?a_lshare ?l_lshare ?c_lshare ?k_lshare) (TW.dmk KX G ?a_lrows ?l_lrows ?c_lrows ?k_lrows) (TW.dmk KX G ?a_lmixed ?l_lmixed ?c_lmixed ?k_lmixed) (TW.dmk KX G ?a_walked ?l_walked ?c_walked ?k_walked) (TW.dmk KX G ?a_cost ?l_cost ?c_cost ?k_cost) (TW.dmkC KX G ?a_told ?l_told ?c_told ?k_told ?lc_told ?hv_told) (TW.dmkC KX G ?a_any ?l_any ?c_any ?k_any ?lc_any ?hv_any) (TW.Blt.mk (PySem.W.mg_none_of KX G ?z_abs) (PySem.W.mg_none_of KX G ?z_max) (PySem.W.mg_none_of KX G ?z_min) (PySem.W.mg_none_of KX G ?z_sum) (PySem.W.mg_none_of KX G ?z_len) (PySem.W.mg_none_of KX G ?z_int) (PySem.W.mg_none_of KX G ?z_list) (PySem.W.mg_none_of KX G ?z_tuple) (PySem.W.mg_none_of KX G ?z_range) (PySem.W.mg_none_of KX G ?z_enumerate) (PySem.W.mg_none_of KX G ?z_repr))) (TW.dmk KX G ?a_law ?l_law ?c_law ?k_law) ?n1 ?n2 ?ne
    (case a_common => k_is)
    (case l_common => k_is)
    (case c_common => k_is)
    (case k_common => k_is)
    (case a_share => k_is)
    (case l_share => k_is)
    (case c_share => k_is)
    (case k_share => k_is)
    (case a_plus => k_is)
    (case l_plus => k_is)
    (case c_plus => k_is)
    (case k_plus => k_is)
    (case a_below => k_is)
    (case l_below => k_is)
    (case c_below => k_is)
    (case k_below => k_is)
    (case a_order => k_is)
    (case l_order => k_is)
    (case c_order => k_is)
    (case k_order => k_is)
    (case a_next => k_is)
    (case l_next => k_is)
    (case c_next => k_is)
    (case k_next => k_is)
    (case a_day => k_is)
    (case l_day => k_is)
    (case c_day => k_is)
    (case k_day => k_is)
    (case a_end => k_is)
    (case l_end => k_is)
    (case c_end => k_is)
    (case k_end => k_is)
    (case a_gseen => k_is)
    (case l_gseen => k_is)
    (case c_gseen => k_is)
    (case k_gseen => k_is)
    (case a_free => k_is)
    (case l_free => k_is)
    (case c_free => k_is)
    (case k_free => k_is)
    (case a_tog => k_is)
    (case l_tog => k_is)
    (case c_tog => k_is)
    (case k_tog => k_is)
    (case a_gfall => k_is)
    (case l_gfall => k_is)
    (case c_gfall => k_is)
    (case k_gfall => k_is)
    (case a_mday => k_is)
    (case l_mday => k_is)
    (case c_mday => k_is)
    (case k_mday => k_is)
    (case a_mend => k_is)
    (case l_mend => k_is)
    (case c_mend => k_is)
    (case k_mend => k_is)
    (case a_mnext => k_is)
    (case l_mnext => k_is)
    (case c_mnext => k_is)
    (case k_mnext => k_is)
    (case a_cheap => k_is)
    (case l_cheap => k_is)
    (case c_cheap => k_is)
    (case k_cheap => k_is)
    (case a_need => k_is)
    (case l_need => k_is)
    (case c_need => k_is)
    (case k_need => k_is)
    (case a_short => k_is)
    (case l_short => k_is)
    (case c_short => k_is)
    (case k_short => k_is)
    (case a_late => k_is)
    (case l_late => k_is)
    (case c_late => k_is)
    (case k_late => k_is)
    (case a_pen => k_is)
    (case l_pen => k_is)
    (case c_pen => k_is)
    (case k_pen => k_is)
    (case a_draw => k_is)
    (case l_draw => k_is)
    (case c_draw => k_is)
    (case k_draw => k_is)
    (case a_lday => k_is)
    (case l_lday => k_is)
    (case c_lday => k_is)
    (case k_lday => k_is)
    (case a_lgreat => k_is)
    (case l_lgreat => k_is)
    (case c_lgreat => k_is)
    (case k_lgreat => k_is)
    (case a_lprices => k_is)
    (case l_lprices => k_is)
    (case c_lprices => k_is)
    (case k_lprices => k_is)
    (case a_lasked => k_is)
    (case l_lasked => k_is)
    (case c_lasked => k_is)
    (case k_lasked => k_is)
    (case a_lorder => k_is)
    (case l_lorder => k_is)
    (case c_lorder => k_is)
    (case k_lorder => k_is)
    (case a_lrest => k_is)
    (case l_lrest => k_is)
    (case c_lrest => k_is)
    (case k_lrest => k_is)
    (case a_lend => k_is)
    (case l_lend => k_is)
    (case c_lend => k_is)
    (case k_lend => k_is)
    (case a_lbottom => k_is)
    (case l_lbottom => k_is)
    (case c_lbottom => k_is)
    (case k_lbottom => k_is)
    (case a_lshare => k_is)
    (case l_lshare => k_is)
    (case c_lshare => k_is)
    (case k_lshare => k_is)
    (case a_lrows => k_is)
    (case l_lrows => k_is)
    (case c_lrows => k_is)
    (case k_lrows => k_is)
    (case a_lmixed => k_is)
    (case l_lmixed => k_is)
    (case c_lmixed => k_is)
    (case k_lmixed => k_is)
    (case a_walked => k_is)
    (case l_walked => k_is)
    (case c_walked => k_is)
    (case k_walked => k_is)
    (case a_cost => k_is)
    (case l_cost => k_is)
    (case c_cost => k_is)
    (case k_cost => k_is)
    (case a_told => k_is)
    (case l_told => k_is)
    (case c_told => k_is)
    (case k_told => k_is)
    (case a_any => k_is)
    (case l_any => k_is)
    (case c_any => k_is)
    (case k_any => k_is)
    (case a_law => k_is)
    (case l_law => k_is)
    (case c_law => k_is)
    (case k_law => k_is)
    (case z_abs => k_is)
    (case z_max => k_is)
    (case z_min => k_is)
    (case z_sum => k_is)
    (case z_len => k_is)
    (case z_int => k_is)
    (case z_list => k_is)
    (case z_tuple => k_is)
    (case z_range => k_is)
    (case z_enumerate => k_is)
    (case z_repr => k_is)
    (case lc_told => k_is)
    (case hv_told => exact rfl)
    (case lc_any => k_is)
    (case hv_any => exact rfl)
    (case n1 => kernel_rfl)
    (case n2 => kernel_rfl)
    (case ne => decide)
