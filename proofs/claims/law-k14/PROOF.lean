import PyProof.Rows.All
import Wide.All
import OpenK.AllK
import Wide.FinOn
import HandS.ForMost
import HandS.ForExc
import HandS.Wide
import HandS.IsInst
import HandS.RevRange
import HandS.Zip
import HandS.Deep
import HandS.Conv
import HandS.Rev
import HandS.Walk
import HandS.Text
import HandS.RevTup
import KE.GoesRaise
import KE.GoesComp
import KE.KAsSuite
import HandS.HotCalls
import HandS.ExcIs
import KE.RegKIsAll
import KE.RegKTryMore
import PySem.Challenge.RW_countboard_k14_refused_frames
set_option Elab.async false
set_option linter.all false
set_option maxRecDepth 100000
set_option maxHeartbeats 4000000
set_option pp.maxSteps 500
namespace CB
open PySem
def top (i : Nat) : Stmt := PySem.Challenge.pw_countboard_k14_refused_frames.main.body.getD i (.Pass ⟨0, 0, 0, 0⟩)
end CB
namespace CB
open PySem PySem.Spec PyProof.Rows L2
/-! ### a def that stands at its name and keeps its promise; the built-in names; the classes of errors -/
structure Callee (P : Program) (w : World) (K : PySem.W.Frag) (mg : Str → Option Value) (base : Heap) (k : Nat) (x : Str) (ps : List Str) (sp : Sp) : Prop where
  ex : ∃ (f : Addr) (fd : FuncData), FnOk P w K mg base (L2.CX P w) k f fd ps sp ∧ mg x = some (.ref f) ∧ PySem.W.keepIn K (.ref f) = true ∧ Binds K fd ps []
def ErA (mg : Str → Option Value) (x : Str) : Addr := match mg x with
  | some (.ref a) => a
  | _ => 0
structure Er (K : PySem.W.Frag) (mg : Str → Option Value) (x : Str) : Prop where
  gC : mg x = some (.ref (ErA mg x))
  xP : PySem.W.excIn K (ErA mg x) [.type "ValueError", .type "Exception", .type "BaseException", .type "object"] "ValueError.__new__" = true
  kP : PySem.W.keepIn K (.ref (ErA mg x)) = true
  bP : PySem.W.subIn K (.ref (ErA mg x)) (.type "BaseException") = some true
  tP : PySem.W.typeIn K (.ref (ErA mg x)) = some (.type "type")
theorem er_mk {K : PySem.W.Frag} {mg : Str → Option Value} {x : Str} {C : Addr} (g : mg x = some (.ref C)) (x1 : PySem.W.excIn K C [.type "ValueError", .type "Exception", .type "BaseException", .type "object"] "ValueError.__new__" = true)
    (k : PySem.W.keepIn K (.ref C) = true) (b : PySem.W.subIn K (.ref C) (.type "BaseException") = some true) (t : PySem.W.typeIn K (.ref C) = some (.type "type")) : Er K mg x := by
  have e : ErA mg x = C := by unfold ErA; rw [g]
  exact ⟨by rw [e]; exact g, by rw [e]; exact x1, by rw [e]; exact k, by rw [e]; exact b, by rw [e]; exact t⟩
structure Bi (mg : Str → Option Value) : Prop where
  len : mg "len" = none
  list : mg "list" = none
  range : mg "range" = none
  isinstance : mg "isinstance" = none
  zip : mg "zip" = none
  reversed : mg "reversed" = none
  sum : mg "sum" = none
  all : mg "all" = none
  abs : mg "abs" = none
  max : mg "max" = none
  min : mg "min" = none
  str : mg "str" = none
  int : mg "int" = none
  bool : mg "bool" = none
  tuple : mg "tuple" = none
  ValueError : mg "ValueError" = none
section
variable {X : Cx}
theorem pe_f {W : WX} {j k : Nat} {x : Str} {ps : List Str} {sp : Sp} {e : Expr} {es : List Expr} {t : TA} {p pos : Pos} (c : Callee X.prog X.w X.K X.mg X.base k x ps sp) (hr : Room j X.A) (hk : k ≤ j) (tk : Takes X W)
    (ha : PA X (e :: es) t) (hg : Gl X x := by rfl) (hdb : (x == ("__debug__" : Str)) = false := by decide) (he : starEach (e :: es) X.env = (false, eval e X.env) :: starEach es X.env := by rfl) (hpl : (backTo pos (starEach es X.env)).any (·.1) = false := by rfl) :
    PE X (.Call (.Name x p) (e :: es) [] pos) (tCallS sp (WE W) t) := by
  obtain ⟨f, fd, F, hm, hkp, hb⟩ := c
  exact pe_callS F (hr.mono hk) hg hm hkp hb (fun σ => passAt tk σ) ha hdb he hpl
end
theorem ix_listK {X : Cx} (K : PySem.W.Frag) (h : X.K = K) : IxR X (rIxL K) := h ▸ ix_list
theorem ix_tupK {X : Cx} (K : PySem.W.Frag) (h : X.K = K) : IxR X (rIxT K) := h ▸ ix_tup
theorem Callee.mk' {P : Program} {w : World} {K : PySem.W.Frag} {mg : Str → Option Value} {base : Heap} {k : Nat} {x : Str} {ps : List Str} {sp : Sp} {f : Addr} {fd : FuncData} (F : FnOk P w K mg base (L2.CX P w) k f fd ps sp) (hm : mg x = some (.ref f)) (hk : PySem.W.keepIn K (.ref f) = true) (hb : Binds K fd ps []) :
    Callee P w K mg base k x ps sp := ⟨f, fd, F, hm, hk, hb⟩
/-! ### what a def tells: a number, a truth, a text, a new list -/
def TellV (H : Hp) (Q : VK) (v : V) : Prop := ∀ H', Same H H' → Q v H'
def TellL (H : Hp) (Q : VK) (xs : List V) : Prop := ∀ (H' : Hp) (p : Addr), Same H H' → H p = none → H' p = some (.lst xs) → Q (.ref p) H'
def Raise (mg : Str → Option Value) (x : Str) (H : Hp) (E : XK) : Prop := ∀ H', Same H H' → E (.ref (ErA mg x)) none H'
theorem same_upd {H : Hp} {p : Addr} {o : HO} (h : H p = none) : Same H (upd H p o) := fun b u e => by
  rw [upd_ne (ne_of_none e h)]
  exact e
theorem get_map {xs : List Int} {i : Nat} {x : V} (h : (xs.map V.int)[i]? = some x) : ∃ z, xs[i]? = some z ∧ x = .int z := by
  rw [List.getElem?_map] at h
  cases e : xs[i]? with
  | none => rw [e] at h; cases h
  | some z => rw [e] at h; exact ⟨z, rfl, (Option.some.inj h).symm⟩
theorem map_get {xs : List Int} {i : Nat} {z : Int} (h : xs[i]? = some z) : (xs.map V.int)[i]? = some (.int z) := by
  rw [List.getElem?_map, h]
  all_goals rfl
theorem ix_of {n : Nat} {z : Int} {j : Nat} (e : z = (j : Int)) (h : j < n) : ixN n z = some j := by
  subst e
  unfold ixN
  rw [if_pos (by omega), if_pos (by omega), Int.toNat_natCast]
theorem take_more {α : Type} {l : List α} {i : Nat} {x : α} (h : l[i]? = some x) : l.take (i + 1) = l.take i ++ [x] := by
  rw [List.take_add_one, h]
  all_goals rfl
theorem small64 {n : Nat} (h : n ≤ 100000) : n < sizeLine := Nat.lt_of_le_of_lt h (by decide)
theorem small64' {n : Nat} (h : n ≤ 100000) : n ≤ sizeLine := Nat.le_of_lt (small64 h)
theorem ite_t {A B : Prop} {c : Bool} (hc : c = true) (h : A) : if c = true then A else B := by
  rw [if_pos hc]
  exact h
theorem ite_f {A B : Prop} {c : Bool} (hc : c = false) (h : B) : if c = true then A else B := by
  rw [hc, if_neg Bool.false_ne_true]
  exact h
end CB
namespace CB
open PySem PySem.Spec PyProof.Rows L2
/-- what a frame is -/
def GF (rs : List Int) : Prop := rs.length ≤ 11 ∧ ∀ r ∈ rs, 2 ≤ r ∧ r ≤ 12
/-! ### the mathematics: worths -/
def prodL (l : List Int) : Int := l.foldl (· * ·) 1
def worthsL (rs : List Int) : List Int := (List.range (rs.length + 1)).map fun k => prodL (rs.take k)
theorem prodL_snoc (l : List Int) (r : Int) : prodL (l ++ [r]) = prodL l * r := by
  unfold prodL
  rw [List.foldl_append]
  rfl
theorem foldl_mul (l : List Int) (x : Int) : l.foldl (· * ·) x = x * l.foldl (· * ·) 1 := by
  induction l generalizing x with
  | nil => simp
  | cons a l ih =>
    rw [List.foldl_cons, List.foldl_cons, ih (x * a), ih (1 * a), Int.one_mul, Int.mul_assoc]
theorem prodL_cons (r : Int) (l : List Int) : prodL (r :: l) = r * prodL l := by
  unfold prodL
  rw [List.foldl_cons, Int.one_mul, foldl_mul]
theorem prodL_bound {l : List Int} (h : ∀ r ∈ l, 2 ≤ r ∧ r ≤ 12) : 1 ≤ prodL l ∧ prodL l ≤ ((12 ^ l.length : Nat) : Int) := by
  induction l with
  | nil => exact ⟨by decide, by decide⟩
  | cons a l ih =>
    obtain ⟨h1, h2⟩ := ih fun r hr => h r (List.mem_cons_of_mem _ hr)
    obtain ⟨h3, h4⟩ := h a List.mem_cons_self
    rw [prodL_cons, List.length_cons, Nat.pow_succ, Nat.mul_comm, Int.natCast_mul]
    refine ⟨?_, ?_⟩
    · have := Int.mul_le_mul (show (1 : Int) ≤ a by omega) h1 (by decide) (by omega)
      omega
    · exact Int.mul_le_mul h4 h2 (by omega) (by decide)
theorem prodL_lt {l : List Int} (h : ∀ r ∈ l, 2 ≤ r ∧ r ≤ 12) (hl : l.length ≤ 11) : 1 ≤ prodL l ∧ prodL l < 2 ^ 40 := by
  obtain ⟨h1, h2⟩ := prodL_bound h
  refine ⟨h1, ?_⟩
  have h3 : 12 ^ l.length ≤ 12 ^ 11 := Nat.pow_le_pow_right (by decide) hl
  have h4 : 12 ^ 11 < 2 ^ 40 := by decide
  omega
theorem abs_lt_pow {z : Int} {n : Nat} (h0 : 0 ≤ z) (h : z < 2 ^ n) : z.natAbs < 2 ^ n := by
  have e : (z.natAbs : Int) = z := Int.natAbs_of_nonneg h0
  have : (z.natAbs : Int) < ((2 ^ n : Nat) : Int) := by
    rw [e]
    simpa using h
  omega
theorem frame_gf (g : Nat → Int) (n : Nat) (hn : n ≤ 11) : GF ((List.range n).map fun i => 2 + g i % 11) := by
  refine ⟨by rw [List.length_map, List.length_range]; exact hn, fun r hr => ?_⟩
  obtain ⟨i, _, rfl⟩ := List.mem_map.mp hr
  omega
end CB
namespace CB
open PySem PySem.Spec PyProof.Rows L2
/-! ### the mathematics: boards -/
def W : List Int → List Int → Int
  | r :: rs, b :: bs => b + r * W rs bs
  | [], b :: _ => b
  | _, [] => 0
/-- a board's lines -/
def GB (rs bs : List Int) : Prop := bs.length = rs.length + 1 ∧ ∀ b ∈ bs, 0 ≤ b
theorem GB.tail {r b : Int} {rs bs : List Int} (h : GB (r :: rs) (b :: bs)) : GB rs bs := ⟨by have := h.1; simpa using this, fun x hx => h.2 x (List.mem_cons_of_mem _ hx)⟩
def BS (bs : List Int) : Prop := ∀ b ∈ bs, b < 2 ^ 200
def Rat (rs : List Int) : Prop := ∀ r ∈ rs, 2 ≤ r ∧ r ≤ 12
theorem Rat.tail {r : Int} {rs : List Int} (h : Rat (r :: rs)) : Rat rs := fun x hx => h x (List.mem_cons_of_mem _ hx)
theorem Rat.head {r : Int} {rs : List Int} (h : Rat (r :: rs)) : 2 ≤ r ∧ r ≤ 12 := h r List.mem_cons_self
/-- the plain board of n -/
def D : List Int → Int → List Int
  | [], n => [n]
  | r :: rs, n => n % r :: D rs (n / r)
theorem D_len (rs : List Int) (n : Int) : (D rs n).length = rs.length + 1 := by
  induction rs generalizing n with
  | nil => rfl
  | cons r rs ih => simp [D, ih]
/-- how often each line is raised -/
def R : List Int → List Int → Int → List Int
  | r :: rs, b :: bs, c => (b + c) / r :: R rs bs ((b + c) / r)
  | _, _, _ => []
theorem worths_cons (r : Int) (rs : List Int) : worthsL (r :: rs) = 1 :: (worthsL rs).map (r * ·) := by
  unfold worthsL
  rw [List.length_cons, List.range_succ_eq_map, List.map_cons, List.map_map, List.map_map]
  refine congr (congrArg _ rfl) (List.map_congr_left fun k _ => ?_)
  show prodL ((r :: rs).take (k + 1)) = r * prodL (rs.take k)
  rw [List.take_succ_cons, prodL_cons]
theorem zipW_map (r : Int) : ∀ bs os : List Int, (List.zipWith (· * ·) bs (os.map (r * ·))).sum = r * (List.zipWith (· * ·) bs os).sum
  | [], _ => by simp
  | _ :: _, [] => by simp
  | b :: bs, o :: os => by
    rw [List.map_cons, List.zipWith_cons_cons, List.zipWith_cons_cons, List.sum_cons, List.sum_cons, zipW_map r bs os, Int.mul_add, Int.mul_left_comm]
theorem W_sum : ∀ rs bs : List Int, bs.length = rs.length + 1 → (List.zipWith (· * ·) bs (worthsL rs)).sum = W rs bs
  | [], [b], _ => by simp [worthsL, prodL, W]
  | [], [], h => by cases h
  | [], _ :: _ :: _, h => by simp at h
  | _ :: _, [], h => by cases h
  | r :: rs, b :: bs, h => by
    rw [worths_cons, List.zipWith_cons_cons, List.sum_cons, zipW_map, W_sum rs bs (by simpa using h), Int.mul_one]
    rfl
theorem W_nonneg : ∀ (rs bs : List Int), Rat rs → (∀ b ∈ bs, 0 ≤ b) → 0 ≤ W rs bs
  | [], [], _, _ => by simp [W]
  | [], b :: _, _, h => h b List.mem_cons_self
  | _ :: _, [], _, _ => by simp [W]
  | r :: rs, b :: bs, hr, h => by
    have h1 := W_nonneg rs bs hr.tail fun x hx => h x (List.mem_cons_of_mem _ hx)
    have h2 := h b List.mem_cons_self
    have h3 := hr.head
    have h4 := Int.mul_nonneg (show (0 : Int) ≤ r by omega) h1
    show 0 ≤ b + r * W rs bs
    omega
theorem W_lt {B : Nat} : ∀ (rs bs : List Int), Rat rs → (∀ b ∈ bs, 0 ≤ b) → (∀ b ∈ bs, b < ((2 ^ B : Nat) : Int)) → W rs bs < ((13 ^ rs.length * 2 ^ B : Nat) : Int)
  | [], [], _, _, _ => by
    have : 0 < 2 ^ B := Nat.pow_pos (by decide)
    simp only [W, List.length_nil, Nat.pow_zero, Nat.one_mul]
    omega
  | [], b :: _, _, _, h => by
    have := h b List.mem_cons_self
    simp only [W, List.length_nil, Nat.pow_zero, Nat.one_mul]
    exact this
  | r :: rs, [], _, _, _ => by
    have : 0 < 13 ^ (r :: rs).length * 2 ^ B := Nat.mul_pos (Nat.pow_pos (by decide)) (Nat.pow_pos (by decide))
    simp only [W]
    omega
  | r :: rs, b :: bs, hr, h0, h => by
    have h1 := W_nonneg rs bs hr.tail fun x hx => h0 x (List.mem_cons_of_mem _ hx)
    have h2 := W_lt rs bs hr.tail (fun x hx => h0 x (List.mem_cons_of_mem _ hx)) fun x hx => h x (List.mem_cons_of_mem _ hx)
    have h3 := h b List.mem_cons_self
    have h4 := hr.head
    have h5 : r * W rs bs ≤ 12 * W rs bs := Int.mul_le_mul_of_nonneg_right h4.2 h1
    have h6 : 2 ^ B ≤ 13 ^ rs.length * 2 ^ B := Nat.le_mul_of_pos_left _ (Nat.pow_pos (by decide))
    have h7 : 13 ^ (r :: rs).length * 2 ^ B = 13 * (13 ^ rs.length * 2 ^ B) := by rw [List.length_cons, Nat.pow_succ, Nat.mul_comm (13 ^ rs.length) 13, Nat.mul_assoc]
    show b + r * W rs bs < _
    rw [h7]
    omega
theorem W_small {rs bs : List Int} (g : GF rs) (h0 : ∀ b ∈ bs, 0 ≤ b) (h : ∀ b ∈ bs, b < 2 ^ 200) : 0 ≤ W rs bs ∧ W rs bs < 2 ^ 250 := by
  refine ⟨W_nonneg rs bs g.2 h0, ?_⟩
  have h1 := W_lt (B := 200) rs bs g.2 h0 fun b hb => by have := h b hb; rw [Int.natCast_pow]; exact this
  have h2 : 13 ^ rs.length ≤ 13 ^ 11 := Nat.pow_le_pow_right (by decide) g.1
  have h3 : 13 ^ rs.length * 2 ^ 200 ≤ 13 ^ 11 * 2 ^ 200 := Nat.mul_le_mul_right _ h2
  have h4 : 13 ^ 11 * 2 ^ 200 < 2 ^ 250 := by decide
  have h5 : ((13 ^ rs.length * 2 ^ 200 : Nat) : Int) < ((2 ^ 250 : Nat) : Int) := by omega
  have h6 : ((2 ^ 250 : Nat) : Int) = 2 ^ 250 := by rw [Int.natCast_pow]; rfl
  rw [h6] at h5
  omega
theorem D_W : ∀ (rs : List Int) (n : Int), Rat rs → W rs (D rs n) = n
  | [], n, _ => rfl
  | r :: rs, n, h => by
    show n % r + r * W rs (D rs (n / r)) = n
    rw [D_W rs (n / r) h.tail]
    exact Int.emod_add_mul_ediv n r
theorem D_nonneg : ∀ (rs : List Int) (n : Int), Rat rs → 0 ≤ n → ∀ b ∈ D rs n, 0 ≤ b
  | [], n, _, h0, b, hb => by
    have : b = n := by simpa [D] using hb
    omega
  | r :: rs, n, h, h0, b, hb => by
    have h3 := h.head
    rcases List.mem_cons.mp hb with e | hb
    · rw [e]
      exact Int.emod_nonneg n (by omega)
    · exact D_nonneg rs (n / r) h.tail (Int.ediv_nonneg h0 (by omega)) b hb
theorem D_GB (rs : List Int) (n : Int) (h : Rat rs) (h0 : 0 ≤ n) : GB rs (D rs n) := ⟨D_len rs n, D_nonneg rs n h h0⟩
theorem D_le : ∀ (rs : List Int) (n : Int), Rat rs → 0 ≤ n → ∀ b ∈ D rs n, b ≤ n
  | [], n, _, h0, b, hb => by
    have : b = n := by simpa [D] using hb
    omega
  | r :: rs, n, h, h0, b, hb => by
    have h3 := h.head
    have h4 : n / r ≤ n := Int.ediv_le_self _ h0
    rcases List.mem_cons.mp hb with e | hb
    · rw [e]
      have := Int.emod_add_mul_ediv n r
      have h5 := Int.mul_nonneg (show (0 : Int) ≤ r by omega) (Int.ediv_nonneg h0 (show (0 : Int) ≤ r by omega))
      omega
    · have := D_le rs (n / r) h.tail (Int.ediv_nonneg h0 (by omega)) b hb
      omega
/-- fewer counters than its ratio on each line but the last -/
def Pl : List Int → List Int → Prop
  | r :: rs, b :: bs => b < r ∧ Pl rs bs
  | _, _ => True
theorem D_Pl : ∀ (rs : List Int) (n : Int), Rat rs → Pl rs (D rs n)
  | [], _, _ => trivial
  | r :: rs, n, h => by
    have h3 := h.head
    exact ⟨Int.emod_lt_of_pos n (by omega), D_Pl rs (n / r) h.tail⟩
/-- there is just one plain board of a worth -/
theorem D_uniq : ∀ (rs bs : List Int), Rat rs → GB rs bs → Pl rs bs → D rs (W rs bs) = bs
  | [], [b], _, _, _ => rfl
  | [], [], _, h, _ => by cases h.1
  | [], _ :: _ :: _, _, h, _ => by have := h.1; simp at this
  | _ :: _, [], _, h, _ => by cases h.1
  | r :: rs, b :: bs, hr, h, p => by
    have h3 := hr.head
    have h0 := h.2 b List.mem_cons_self
    have e1 : (b + r * W rs bs) % r = b := by
      rw [Int.add_mul_emod_self_left]
      exact Int.emod_eq_of_lt h0 p.1
    have e2 : (b + r * W rs bs) / r = W rs bs := by
      rw [Int.add_mul_ediv_left _ _ (by omega), Int.ediv_eq_zero_of_lt h0 p.1, Int.zero_add]
    show (b + r * W rs bs) % r :: D rs ((b + r * W rs bs) / r) = b :: bs
    rw [e1, e2, D_uniq rs bs hr.tail h.tail p.2]
theorem R_len : ∀ (rs bs : List Int) (c : Int), bs.length = rs.length + 1 → (R rs bs c).length = rs.length
  | [], [], _, _ => rfl
  | [], _ :: _, _, _ => rfl
  | _ :: _, [], _, h => by cases h
  | r :: rs, b :: bs, c, h => by
    show (R rs bs ((b + c) / r)).length + 1 = rs.length + 1
    rw [R_len rs bs _ (by simpa using h)]
end CB
namespace CB
open PySem PySem.Spec PyProof.Rows L2
theorem Pl_iff : ∀ rs bs : List Int, Pl rs bs ↔ ∀ (j : Nat) (r b : Int), rs[j]? = some r → bs[j]? = some b → b < r
  | [], bs => by simp [Pl]
  | r :: rs, [] => by simp [Pl]
  | r :: rs, b :: bs => by
    have ih := Pl_iff rs bs
    constructor
    · rintro ⟨h1, h2⟩ j r' b' hr hb
      cases j with
      | zero =>
        cases hr
        cases hb
        exact h1
      | succ j => exact ih.mp h2 j r' b' hr hb
    · intro h
      exact ⟨h 0 r b rfl rfl, ih.mpr fun j r' b' hr hb => h (j + 1) r' b' hr hb⟩
theorem bs_of20 {bs : List Int} (h : ∀ x ∈ bs, x < 10 ^ 20) : BS bs := fun b hb => by
  have h1 := h b hb
  have h2 : (10 : Int) ^ 20 < 2 ^ 200 := by decide
  omega
theorem and_true {a b : Bool} (h1 : a = true) (h2 : b = true) : (a && b) = true := by rw [h1, h2]; rfl
end CB
namespace CB
open PySem PySem.Spec PyProof.Rows L2
theorem W_step : ∀ (rs fs : List Int) (L : Nat) (r x y m : Int), fs.length = rs.length + 1 → rs[L]? = some r → fs[L]? = some x → fs[L + 1]? = some y → W rs ((fs.set (L + 1) (y - m)).set L (x + m * r)) = W rs fs
  | [], _, _, _, _, _, _, _, h, _, _ => by simp at h
  | r0 :: rs, [], _, _, _, _, _, h, _, _, _ => by cases h
  | r0 :: rs, [_], _, _, _, _, _, h, _, _, _ => by simp at h
  | r0 :: rs, f :: f2 :: fs, 0, r, x, y, m, h, hr, hx, hy => by
    cases hr
    cases hx
    cases hy
    show (f + m * r0) + r0 * W rs ((f2 - m) :: fs) = f + r0 * W rs (f2 :: fs)
    have e : W rs ((f2 - m) :: fs) = W rs (f2 :: fs) - m := by
      cases rs with
      | nil => rfl
      | cons s rs => show f2 - m + s * W rs fs = f2 + s * W rs fs - m; omega
    rw [e, Int.mul_sub, Int.mul_comm m r0]
    omega
  | r0 :: rs, f :: f2 :: fs, L + 1, r, x, y, m, h, hr, hx, hy => by
    have ih := W_step rs (f2 :: fs) L r x y m (by simpa using h) hr hx hy
    show f + r0 * W rs (((f2 :: fs).set (L + 1) (y - m)).set L (x + m * r)) = f + r0 * W rs (f2 :: fs)
    rw [ih]
theorem set_comm' {α : Type} {l : List α} {i j : Nat} {x y : α} (h : i ≠ j) : (l.set i x).set j y = (l.set j y).set i x := by
  refine List.ext_getElem? fun k => ?_
  rw [List.getElem?_set, List.getElem?_set, List.getElem?_set, List.getElem?_set]
  simp only [List.length_set]
  by_cases h1 : j = k <;> by_cases h2 : i = k
  · exact absurd (h2.trans h1.symm) h
  · simp [h1, h2]
  · simp [h1, h2]
  · simp [h1, h2]
theorem W_head (rs : List Int) (b c : Int) (bs : List Int) : W rs ((b + c) :: bs) = W rs (b :: bs) + c := by
  cases rs with
  | nil => rfl
  | cons r rs => show b + c + r * W rs bs = b + r * W rs bs + c; omega
/-- raising once for all on the lowest line -/
theorem D_carry (r : Int) (rs : List Int) (b b2 : Int) (bs : List Int) (h : 0 < r) : D (r :: rs) (W (r :: rs) (b :: b2 :: bs)) = b % r :: D rs (W rs ((b2 + b / r) :: bs)) := by
  show (b + r * W rs (b2 :: bs)) % r :: D rs ((b + r * W rs (b2 :: bs)) / r) = _
  rw [Int.add_mul_emod_self_left, Int.add_mul_ediv_left _ _ (by omega), W_head, Int.add_comm (b / r)]
theorem sumD : ∀ rs bs : List Int, Rat rs → GB rs bs → (D rs (W rs bs)).sum ≤ bs.sum ∧ ((D rs (W rs bs)).sum = bs.sum → D rs (W rs bs) = bs)
  | [], [b], _, _ => ⟨Int.le_refl _, fun _ => rfl⟩
  | [], [], _, h => by cases h.1
  | [], _ :: _ :: _, _, h => by have := h.1; simp at this
  | _ :: _, [], _, h => by cases h.1
  | _ :: _, [_], _, h => by have := h.1; simp at this
  | r :: rs, b :: b2 :: bs, hr, h => by
    have h3 := hr.head
    have hb := h.2 b List.mem_cons_self
    have hb2 := h.2 b2 (List.mem_cons_of_mem _ List.mem_cons_self)
    have hq : 0 ≤ b / r := Int.ediv_nonneg hb (by omega)
    have hg : GB rs ((b2 + b / r) :: bs) := ⟨by have := h.1; simpa using this, fun x hx => by
      rcases List.mem_cons.mp hx with e | hx
      · omega
      · exact h.2 x (List.mem_cons_of_mem _ (List.mem_cons_of_mem _ hx))⟩
    obtain ⟨i1, i2⟩ := sumD rs ((b2 + b / r) :: bs) hr.tail hg
    have e := Int.emod_add_mul_ediv b r
    have e2 : 2 * (b / r) ≤ r * (b / r) := Int.mul_le_mul_of_nonneg_right h3.1 hq
    rw [D_carry r rs b b2 bs (by omega)]
    rw [List.sum_cons] at i1 i2
    rw [List.sum_cons, List.sum_cons, List.sum_cons]
    refine ⟨by omega, fun hs => ?_⟩
    have hz : b / r = 0 := by omega
    rw [hz] at i2 hs e ⊢
    rw [Int.mul_zero, Int.add_zero] at e
    rw [Int.add_zero] at i2
    rw [Int.add_zero] at hs ⊢
    rw [i2 (by omega), e]
end CB
namespace CB
open PySem PySem.Spec PyProof.Rows L2
/-- the nets -/
def N (rs bs cs : List Int) : List Int := List.zipWith (· - ·) (R rs bs 0) (R rs cs 0)
def abs' (i : Int) : Int := if i < 0 then -i else i
def Nabs (rs bs cs : List Int) : Int := ((N rs bs cs).map abs').sum
theorem N_len {rs bs cs : List Int} (h1 : bs.length = rs.length + 1) (h2 : cs.length = rs.length + 1) : (N rs bs cs).length = rs.length := by
  unfold N
  rw [List.length_zipWith, R_len rs bs 0 h1, R_len rs cs 0 h2, Nat.min_self]
def Du : List Int → List Int → List Int → Int → List Int
  | r :: rs, b :: bs, b' :: cs, c => (b - b' + c) / r :: Du rs bs cs ((b - b' + c) / r)
  | _, _, _, _ => []
theorem N_due : ∀ (rs bs cs : List Int) (c1 c2 : Int), Rat rs → bs.length = rs.length + 1 → cs.length = rs.length + 1 → W rs bs + c1 = W rs cs + c2 → List.zipWith (· - ·) (R rs bs c1) (R rs cs c2) = Du rs bs cs (c1 - c2)
  | [], bs, cs, c1, c2, _, _, _, _ => by simp [R, Du]
  | r :: rs, [], cs, c1, c2, _, h, _, _ => by cases h
  | r :: rs, b :: bs, [], c1, c2, _, _, h, _ => by cases h
  | r :: rs, b :: bs, b' :: cs, c1, c2, hr, h1, h2, hw => by
    have hw' : b + r * W rs bs + c1 = b' + r * W rs cs + c2 := hw
    have h3 := hr.head
    have e1 : (b + c1) / r = (b' + c2) / r + (W rs cs - W rs bs) := by
      have : b + c1 = b' + c2 + r * (W rs cs - W rs bs) := by rw [Int.mul_sub]; omega
      rw [this, Int.add_mul_ediv_left _ _ (by omega)]
    have e2 : (b - b' + (c1 - c2)) / r = W rs cs - W rs bs := by
      have : b - b' + (c1 - c2) = r * (W rs cs - W rs bs) := by rw [Int.mul_sub]; omega
      rw [this, Int.mul_ediv_cancel_left _ (by omega)]
    have ih := N_due rs bs cs ((b + c1) / r) ((b' + c2) / r) hr.tail (by simpa using h1) (by simpa using h2) (by omega)
    show ((b + c1) / r - (b' + c2) / r) :: List.zipWith (· - ·) (R rs bs ((b + c1) / r)) (R rs cs ((b' + c2) / r)) = (b - b' + (c1 - c2)) / r :: Du rs bs cs ((b - b' + (c1 - c2)) / r)
    rw [ih, e2]
    have e3 : (b + c1) / r - (b' + c2) / r = W rs cs - W rs bs := by omega
    rw [e3]
theorem N_is {rs bs cs : List Int} (hr : Rat rs) (h1 : bs.length = rs.length + 1) (h2 : cs.length = rs.length + 1) (hw : W rs bs = W rs cs) : N rs bs cs = Du rs bs cs 0 := by
  have := N_due rs bs cs 0 0 hr h1 h2 (by omega)
  exact this
theorem N_swap (rs bs cs : List Int) : N rs cs bs = (N rs bs cs).map (0 - ·) := by
  unfold N
  generalize R rs bs 0 = xs
  generalize R rs cs 0 = ys
  induction xs generalizing ys with
  | nil => cases ys <;> rfl
  | cons x xs ih =>
    cases ys with
    | nil => rfl
    | cons y ys =>
      rw [List.zipWith_cons_cons, List.zipWith_cons_cons, List.map_cons, ih ys]
      congr 1
      omega
end CB
namespace CB
open PySem PySem.Spec PyProof.Rows L2
/-! ### equality of lists of numbers, of lists of such, of lists of steps -/
def dL (xs : List Int) : PyData := .list (xs.map .int)
def dStep (p : Int × Bool) : PyData := .tuple [.int p.1, .bool p.2]
theorem layAll {ds : List PyData} {n : Nat} (h : ∀ d ∈ ds, d.canLay0 = true ∧ d.depth ≤ n) : PyData.canLayAll0 ds = true ∧ PyData.depthAll ds ≤ n := by
  induction ds with
  | nil => exact ⟨rfl, by simp [PyData.depthAll]⟩
  | cons d ds ih =>
    obtain ⟨h1, h2⟩ := ih fun x hx => h x (List.mem_cons_of_mem _ hx)
    obtain ⟨h3, h4⟩ := h d List.mem_cons_self
    refine ⟨by simp [PyData.canLayAll0, h1, h3], ?_⟩
    simp only [PyData.depthAll]
    omega
theorem lay_int (i : Int) : (PyData.int i).canLay0 = true ∧ (PyData.int i).depth ≤ 0 := ⟨by simp [PyData.canLay0], by simp [PyData.depth]⟩
theorem lay_list {ds : List PyData} {n : Nat} (h : ∀ d ∈ ds, d.canLay0 = true ∧ d.depth ≤ n) : (PyData.list ds).canLay0 = true ∧ (PyData.list ds).depth ≤ n + 1 := by
  obtain ⟨h1, h2⟩ := layAll h
  refine ⟨by simpa [PyData.canLay0] using h1, ?_⟩
  simp only [PyData.depth]
  omega
theorem lay_dL (xs : List Int) : (dL xs).canLay0 = true ∧ (dL xs).depth ≤ 1 := lay_list (n := 0) fun d hd => by
  obtain ⟨i, _, rfl⟩ := List.mem_map.mp hd
  exact lay_int i
theorem lay_dStep (p : Int × Bool) : (dStep p).canLay0 = true ∧ (dStep p).depth ≤ 1 := ⟨by simp [dStep, PyData.canLay0, PyData.canLayAll0], by simp [dStep, PyData.depth, PyData.depthAll]⟩
theorem shaped_of {d : PyData} {n : Nat} (h : d.canLay0 = true ∧ d.depth ≤ n) (hn : n ≤ 64) : SeqAt.shaped d = true := by
  unfold SeqAt.shaped
  rw [h.1, Bool.true_and]
  exact decide_eq_true (Nat.le_trans h.2 hn)
theorem shaped_dL (xs : List Int) : SeqAt.shaped (dL xs) = true := shaped_of (lay_dL xs) (by decide)
theorem shaped_dLL (xss : List (List Int)) : SeqAt.shaped (.list (xss.map dL)) = true := shaped_of (lay_list (n := 1) fun d hd => by
  obtain ⟨xs, _, rfl⟩ := List.mem_map.mp hd
  exact lay_dL xs) (by decide)
theorem shaped_dStep (p : Int × Bool) : SeqAt.shaped (dStep p) = true := shaped_of (lay_dStep p) (by decide)
theorem shaped_dLT (ps : List (Int × Bool)) : SeqAt.shaped (.list (ps.map dStep)) = true := shaped_of (lay_list (n := 1) fun d hd => by
  obtain ⟨p, _, rfl⟩ := List.mem_map.mp hd
  exact lay_dStep p) (by decide)
theorem eqvAll_map {α : Type} [DecidableEq α] {f : α → PyData} (h : ∀ a b, PyData.eqv (f a) (f b) = decide (a = b)) : ∀ xs ys : List α, PyData.eqvAll (xs.map f) (ys.map f) = decide (xs = ys)
  | [], [] => by simp [PyData.eqvAll]
  | [], _ :: _ => by simp [PyData.eqvAll]
  | _ :: _, [] => by simp [PyData.eqvAll]
  | x :: xs, y :: ys => by
    simp only [List.map_cons, PyData.eqvAll, h, eqvAll_map h xs ys]
    by_cases e1 : x = y <;> by_cases e2 : xs = ys <;> simp [e1, e2]
theorem eqv_int (a b : Int) : PyData.eqv (.int a) (.int b) = decide (a = b) := by simp only [PyData.eqv]; exact Bool.beq_eq_decide_eq _ _
theorem eqv_dL (xs ys : List Int) : PyData.eqv (dL xs) (dL ys) = decide (xs = ys) := by
  unfold dL
  simp only [PyData.eqv]
  exact eqvAll_map eqv_int xs ys
theorem eqv_dLL (xs ys : List (List Int)) : PyData.eqv (.list (xs.map dL)) (.list (ys.map dL)) = decide (xs = ys) := by
  simp only [PyData.eqv]
  exact eqvAll_map eqv_dL xs ys
theorem eqv_dStep (p q : Int × Bool) : PyData.eqv (dStep p) (dStep q) = decide (p = q) := by
  obtain ⟨a, b⟩ := p
  obtain ⟨c, d⟩ := q
  unfold dStep
  simp only [PyData.eqv, PyData.eqvAll, Bool.and_true]
  by_cases e1 : a = c <;> by_cases e2 : b = d <;> simp [e1, e2]
theorem eqv_dLT (xs ys : List (Int × Bool)) : PyData.eqv (.list (xs.map dStep)) (.list (ys.map dStep)) = decide (xs = ys) := by
  simp only [PyData.eqv]
  exact eqvAll_map eqv_dStep xs ys
section
variable {K : PySem.W.Frag} {H : Hp}
theorem dpAll_int : ∀ xs : List Int, DpAll K H (xs.map V.int) (xs.map PyData.int)
  | [] => .nil
  | x :: xs => .cons (.int x) (dpAll_int xs)
theorem dp_L {a : Addr} {xs : List Int} (h : SqL K H a (xs.map V.int)) : Dp K H (.ref a) (dL xs) := .lst h (dpAll_int xs)
theorem dp_L2 {a p q : Addr} {xs ys : List Int} (h : SqL K H a [.ref p, .ref q]) (hp : SqL K H p (xs.map V.int)) (hq : SqL K H q (ys.map V.int)) : Dp K H (.ref a) (.list ([xs, ys].map dL)) :=
  .lst h (.cons (dp_L hp) (.cons (dp_L hq) .nil))
theorem dp_L3 {a p q r : Addr} {xs ys zs : List Int} (h : SqL K H a [.ref p, .ref q, .ref r]) (hp : SqL K H p (xs.map V.int)) (hq : SqL K H q (ys.map V.int)) (hr : SqL K H r (zs.map V.int)) : Dp K H (.ref a) (.list ([xs, ys, zs].map dL)) :=
  .lst h (.cons (dp_L hp) (.cons (dp_L hq) (.cons (dp_L hr) .nil)))
end
end CB
namespace CB
open PySem PySem.Spec PyProof.Rows L2
/-! ### a list that grows; walks over zip of any two lists -/
def Gr (H : Hp) (D : Addr) (out : List V) (i : Nat) (H' : Hp) : Prop := Same H H' ∧ H' D = some (.lst (out.take i))
theorem Gr.zero {H : Hp} {D : Addr} (out : List V) (h : H D = none) : Gr H D out 0 (upd H D (.lst [])) := ⟨same_upd h, upd_same⟩
theorem Gr.step {H H' H'' : Hp} {D : Addr} {out : List V} {i : Nat} {y : V} (g : Gr H D out i H') (h : H D = none) (hl : out.length ≤ 100000) (hy : out[i]? = some y) (s : Same H' H'') :
    H'' D = some (.lst (out.take i)) ∧ (out.take i).length < sizeLine ∧ Gr H D out (i + 1) (upd H'' D (.lst (out.take i ++ [y]))) := by
  refine ⟨s _ _ g.2, small64 (by rw [List.length_take]; omega), fun b o e => ?_, ?_⟩
  · rw [upd_ne (ne_of_none e h)]
    exact s _ _ (g.1 _ _ e)
  · rw [upd_same, take_more hy]
theorem Gr.done {H H' : Hp} {D : Addr} {out : List V} {i : Nat} (g : Gr H D out i H') (h : out.length ≤ i) : H' D = some (.lst out) := by
  have := g.2
  rw [List.take_of_length_le h] at this
  exact this
theorem lc_zip {K : PySem.W.Frag} {a b : Addr} {xs ys : List V} {g : TG} {tt : TT} {te : TE} {vs : List Nat} {σ : L2.St} {H1 : Hp} {D : Addr} {Qd : Hp → Prop} (n : Nat) (hn : n = min xs.length ys.length) (Pv : Nat → Hp → Prop) (h0 : Pv 0 (upd H1 D (.lst [])))
    (hq : ∀ i H, Pv i H → SqL K H a xs ∧ SqL K H b ys)
    (hs : ∀ (i : Nat) (x y : V) (T : Addr) (H : Hp), xs[i]? = some x → ys[i]? = some y → Pv i H → H T = none → g (.ref T) (wipe σ vs) (upd H T (.tup [x, y])) fun σ2 H2 => wipe σ2 vs = wipe σ vs ∧ tt σ2 H2 fun b H3 =>
      if b = true then te σ2 H3 fun y H4 => ∃ acc, H4 D = some (.lst acc) ∧ acc.length < sizeLine ∧ Pv (i + 1) (upd H4 D (.lst (acc ++ [y]))) else Pv (i + 1) H3) (hd : ∀ H, Pv n H → Qd H) :
    ∃ W : Nat → Nat → Hp → Prop, (∃ m, W 0 m (upd H1 D (.lst []))) ∧ ∀ i m H, W i m H →
      ((Itz K a b).stop i H ∧ Qd H) ∨ ((Itz K a b).go i H ∧ ∃ Nx : Hp → Prop, (∀ H', Nx H' → ∃ m', m' < m ∧ W (i + 1) m' H') ∧ ∀ x H', (Itz K a b).yld i H x H' → g x (wipe σ vs) H' fun σ2 H2 => wipe σ2 vs = wipe σ vs ∧ tt σ2 H2 fun b H3 =>
        if b = true then te σ2 H3 fun y H4 => ∃ acc, H4 D = some (.lst acc) ∧ acc.length < sizeLine ∧ Nx (upd H4 D (.lst (acc ++ [y]))) else Nx H3) := by
  refine ⟨fun i m H => m = n - i ∧ i ≤ n ∧ Pv i H, ⟨n, by simp, Nat.zero_le _, h0⟩, ?_⟩
  rintro i m H ⟨rfl, hi, p⟩
  obtain ⟨qx, qy⟩ := hq i H p
  by_cases hlt : i < n
  · have hl1 : i < xs.length := by omega
    have hl2 : i < ys.length := by omega
    refine .inr ⟨⟨xs, ys, _, _, qx, qy, List.getElem?_eq_getElem hl1, List.getElem?_eq_getElem hl2⟩, Pv (i + 1), fun H' p' => ⟨n - (i + 1), by omega, rfl, hlt, p'⟩, fun v H' y => ?_⟩
    obtain ⟨T, x', y', rfl, hT, rfl, f1, f2⟩ := y
    exact hs i x' y' T H (f1 xs qx) (f2 ys qy) p hT
  · have e : i = n := by omega
    subst e
    exact .inl ⟨⟨xs, ys, qx, qy, by omega⟩, hd H p⟩
theorem for_zip {K : PySem.W.Frag} {a b : Addr} {xs ys : List V} {g : TG} {tb : TS} {D : Ends} {σ : L2.St} {H : Hp} (n : Nat) (hn : n = min xs.length ys.length) (Pv : Nat → L2.St → Hp → Prop) (h0 : Pv 0 σ H) (hq : ∀ i σ H, Pv i σ H → SqL K H a xs ∧ SqL K H b ys)
    (hs : ∀ (i : Nat) (x y : V) (T : Addr) (σ : L2.St) (H : Hp), xs[i]? = some x → ys[i]? = some y → Pv i σ H → H T = none → g (.ref T) σ (upd H T (.tup [x, y])) fun σ2 H2 => tb { D with nx := Pv (i + 1), ct := Pv (i + 1), bk := D.nx } σ2 H2) (hd : ∀ σ H, Pv n σ H → D.nx σ H) :
    ∃ W : Nat → Nat → L2.St → Hp → Prop, (∃ m, W 0 m σ H) ∧ ∀ i m σ H, W i m σ H →
      ((Itz K a b).stop i H ∧ D.nx σ H) ∨ ((Itz K a b).go i H ∧ ∃ N : L2.St → Hp → Prop, (∀ σ' H', N σ' H' → ∃ m', m' < m ∧ W (i + 1) m' σ' H') ∧ ∀ v H', (Itz K a b).yld i H v H' → g v σ H' fun σ2 H2 => tb { D with nx := N, ct := N, bk := D.nx } σ2 H2) := by
  refine ⟨fun i m σ H => m = n - i ∧ i ≤ n ∧ Pv i σ H, ⟨n, rfl, Nat.zero_le _, h0⟩, ?_⟩
  rintro i m σ H ⟨rfl, hi, p⟩
  obtain ⟨qx, qy⟩ := hq i σ H p
  by_cases hlt : i < n
  · have hl1 : i < xs.length := by omega
    have hl2 : i < ys.length := by omega
    refine .inr ⟨⟨xs, ys, _, _, qx, qy, List.getElem?_eq_getElem hl1, List.getElem?_eq_getElem hl2⟩, Pv (i + 1), fun σ' H' p' => ⟨n - (i + 1), by omega, rfl, hlt, p'⟩, fun v H' y => ?_⟩
    obtain ⟨T, x', y', rfl, hT, rfl, f1, f2⟩ := y
    exact hs i x' y' T σ H (f1 xs qx) (f2 ys qy) p hT
  · have e : i = n := by omega
    subst e
    exact .inl ⟨⟨xs, ys, qx, qy, by omega⟩, hd σ H p⟩
end CB
namespace CB
open PySem PySem.Spec PyProof.Rows L2
theorem small20 {rs bs : List Int} (g : GF rs) (gb : GB rs bs) (hb : ∀ x ∈ bs, x < 10 ^ 20) : 0 ≤ W rs bs ∧ W rs bs < 2 ^ 150 := by
  refine ⟨W_nonneg rs bs g.2 gb.2, ?_⟩
  have h1 := W_lt (B := 70) rs bs g.2 gb.2 fun b hb' => by
    have h2 := hb b hb'
    have h3 : (10 : Int) ^ 20 < ((2 ^ 70 : Nat) : Int) := by decide
    omega
  have h2 : 13 ^ rs.length ≤ 13 ^ 11 := Nat.pow_le_pow_right (by decide) g.1
  have h3 : 13 ^ rs.length * 2 ^ 70 ≤ 13 ^ 11 * 2 ^ 70 := Nat.mul_le_mul_right _ h2
  have h4 : 13 ^ 11 * 2 ^ 70 < 2 ^ 150 := by decide
  omega
theorem D_150 {rs : List Int} {n : Int} (g : GF rs) (h0 : 0 ≤ n) (h1 : n < 2 ^ 150) : ∀ x ∈ D rs n, x < 2 ^ 150 := fun x hx => by
  have := D_le rs n g.2 h0 x hx
  omega
theorem two151 : (2 : Int) ^ 150 + 361 < 2 ^ 200 := by decide
end CB
namespace CB
open PySem PySem.Spec PyProof.Rows L2
/-! ### steps -/
def sg (up : Bool) : Int := if up then 1 else -1
def goesB (rs bs : List Int) (L : Nat) (up : Bool) : Bool := if up then decide (rs.getD L 0 ≤ bs.getD L 0) else decide (1 ≤ bs.getD (L + 1) 0)
def stepL (rs bs : List Int) (L : Nat) (up : Bool) : List Int := (bs.set L (bs.getD L 0 - sg up * rs.getD L 0)).set (L + 1) (bs.getD (L + 1) 0 + sg up)
def optP (rs bs : List Int) (L : Nat) (up : Bool) : List (Int × Bool) := if goesB rs bs L up = true then [((L : Int), up)] else []
def canP (rs bs : List Int) (i : Nat) : List (Int × Bool) := (List.range i).flatMap fun L => optP rs bs L true ++ optP rs bs L false
def canL (rs bs : List Int) : List (Int × Bool) := canP rs bs rs.length
theorem canP_succ (rs bs : List Int) (i : Nat) : canP rs bs (i + 1) = (canP rs bs i ++ optP rs bs i true) ++ optP rs bs i false := by
  unfold canP
  rw [List.range_succ, List.flatMap_append, List.flatMap_cons, List.flatMap_nil, List.append_nil, List.append_assoc]
theorem optP_len (rs bs : List Int) (L : Nat) (up : Bool) : (optP rs bs L up).length ≤ 1 := by
  unfold optP
  split <;> simp
theorem canP_len (rs bs : List Int) (i : Nat) : (canP rs bs i).length ≤ 2 * i := by
  induction i with
  | zero => exact Nat.le_refl _
  | succ i ih =>
    rw [canP_succ, List.length_append, List.length_append]
    have := optP_len rs bs i true
    have := optP_len rs bs i false
    omega
theorem mem_opt {rs bs : List Int} {L : Nat} {up : Bool} {p : Int × Bool} : p ∈ optP rs bs L up ↔ p = ((L : Int), up) ∧ goesB rs bs L up = true := by
  unfold optP
  split
  · rename_i h
    simp [h]
  · rename_i h
    simp [h]
theorem mem_can {rs bs : List Int} {p : Int × Bool} : p ∈ canL rs bs ↔ ∃ L : Nat, L < rs.length ∧ p.1 = (L : Int) ∧ goesB rs bs L p.2 = true := by
  unfold canL canP
  rw [List.mem_flatMap]
  constructor
  · rintro ⟨L, hL, hp⟩
    rcases List.mem_append.mp hp with h | h
    · obtain ⟨e, g⟩ := mem_opt.mp h
      subst e
      exact ⟨L, List.mem_range.mp hL, rfl, g⟩
    · obtain ⟨e, g⟩ := mem_opt.mp h
      subst e
      exact ⟨L, List.mem_range.mp hL, rfl, g⟩
  · rintro ⟨L, hL, e, g⟩
    obtain ⟨l, up⟩ := p
    simp only at e g
    subst e
    refine ⟨L, List.mem_range.mpr hL, List.mem_append.mpr ?_⟩
    cases up with
    | true => exact .inl (mem_opt.mpr ⟨rfl, g⟩)
    | false => exact .inr (mem_opt.mpr ⟨rfl, g⟩)
theorem stepL_len (rs bs : List Int) (L : Nat) (up : Bool) : (stepL rs bs L up).length = bs.length := by
  unfold stepL
  rw [List.length_set, List.length_set]
theorem stepL_get {rs bs : List Int} {L j : Nat} {up : Bool} (h : L + 1 < bs.length) : (stepL rs bs L up)[j]? = if j = L then some (bs.getD L 0 - sg up * rs.getD L 0) else if j = L + 1 then some (bs.getD (L + 1) 0 + sg up) else bs[j]? := by
  unfold stepL
  rw [List.getElem?_set, List.getElem?_set, List.length_set]
  by_cases h1 : j = L
  · subst h1
    rw [if_pos rfl, if_neg (by omega), if_pos rfl, if_pos (by omega)]
  · rw [if_neg h1]
    by_cases h2 : j = L + 1
    · subst h2
      rw [if_pos rfl, if_pos rfl, if_pos h]
    · rw [if_neg h2, if_neg (by omega), if_neg (by omega)]
theorem getD_of {l : List Int} {i : Nat} (h : i < l.length) : l[i]? = some (l.getD i 0) := by
  rw [List.getD_eq_getElem?_getD, List.getElem?_eq_getElem h]
  rfl
theorem W_stepL {rs bs : List Int} {L : Nat} (up : Bool) (hb : bs.length = rs.length + 1) (h : L < rs.length) : W rs (stepL rs bs L up) = W rs bs := by
  have := W_step rs bs L (rs.getD L 0) (bs.getD L 0) (bs.getD (L + 1) 0) (-(sg up)) hb (getD_of h) (getD_of (by omega)) (getD_of (by omega))
  unfold stepL
  rw [set_comm' (by omega)]
  rw [← this]
  congr 2
  · congr 1
    omega
  · rw [Int.neg_mul]
    omega
theorem GB_stepL {rs bs : List Int} {L : Nat} {up : Bool} (hr : Rat rs) (gb : GB rs bs) (h : L < rs.length) (hg : goesB rs bs L up = true) : GB rs (stepL rs bs L up) := by
  have hb := gb.1
  refine ⟨by rw [stepL_len]; exact hb, fun x hx => ?_⟩
  obtain ⟨j, hj⟩ := List.getElem?_of_mem hx
  rw [stepL_get (by omega)] at hj
  have hr0 := hr (rs.getD L 0) (List.mem_of_getElem? (getD_of h))
  have hb0 := gb.2 (bs.getD L 0) (List.mem_of_getElem? (getD_of (by omega)))
  have hb1 := gb.2 (bs.getD (L + 1) 0) (List.mem_of_getElem? (getD_of (by omega)))
  by_cases h1 : j = L
  · rw [if_pos h1] at hj
    have e := Option.some.inj hj
    cases up with
    | true =>
      have := of_decide_eq_true (show decide (rs.getD L 0 ≤ bs.getD L 0) = true from hg)
      simp only [sg, if_true, Int.one_mul] at e
      omega
    | false =>
      have e' : bs.getD L 0 - -1 * rs.getD L 0 = x := e
      omega
  · rw [if_neg h1] at hj
    by_cases h2 : j = L + 1
    · rw [if_pos h2] at hj
      have e := Option.some.inj hj
      cases up with
      | true =>
        have e' : bs.getD (L + 1) 0 + 1 = x := e
        omega
      | false =>
        have := of_decide_eq_true (show decide (1 ≤ bs.getD (L + 1) 0) = true from hg)
        have e' : bs.getD (L + 1) 0 + -1 = x := e
        omega
    · rw [if_neg h2] at hj
      exact gb.2 x (List.mem_of_getElem? hj)
theorem sg_not (up : Bool) : sg (!up) = - sg up := by cases up <;> rfl
theorem stepL_getD {rs bs : List Int} {L : Nat} {up : Bool} (h : L + 1 < bs.length) : (stepL rs bs L up).getD L 0 = bs.getD L 0 - sg up * rs.getD L 0 ∧ (stepL rs bs L up).getD (L + 1) 0 = bs.getD (L + 1) 0 + sg up := by
  constructor
  · rw [List.getD_eq_getElem?_getD, stepL_get h, if_pos rfl]
    rfl
  · rw [List.getD_eq_getElem?_getD, stepL_get h, if_neg (by omega), if_pos rfl]
    rfl
/-- the contrary step can be done and leads back -/
theorem step_back {rs bs : List Int} {L : Nat} {up : Bool} (hr : Rat rs) (gb : GB rs bs) (h : L < rs.length) : goesB rs (stepL rs bs L up) L (!up) = true ∧ stepL rs (stepL rs bs L up) L (!up) = bs := by
  have hb := gb.1
  have hl : L + 1 < bs.length := by omega
  have hb0 := gb.2 (bs.getD L 0) (List.mem_of_getElem? (getD_of (by omega)))
  have hb1 := gb.2 (bs.getD (L + 1) 0) (List.mem_of_getElem? (getD_of (by omega)))
  obtain ⟨e1, e2⟩ := stepL_getD (rs := rs) (bs := bs) (L := L) (up := up) hl
  constructor
  · cases up with
    | true =>
      show decide (1 ≤ (stepL rs bs L true).getD (L + 1) 0) = true
      rw [e2]
      exact decide_eq_true (show 1 ≤ bs.getD (L + 1) 0 + 1 by omega)
    | false =>
      show decide (rs.getD L 0 ≤ (stepL rs bs L false).getD L 0) = true
      rw [e1]
      exact decide_eq_true (show rs.getD L 0 ≤ bs.getD L 0 - -1 * rs.getD L 0 by omega)
  · refine List.ext_getElem? fun j => ?_
    rw [stepL_get (by rw [stepL_len]; exact hl), e1, e2, sg_not]
    by_cases h1 : j = L
    · rw [if_pos h1, h1, getD_of (show L < bs.length by omega)]
      congr 1
      rw [Int.neg_mul]
      omega
    · rw [if_neg h1]
      by_cases h2 : j = L + 1
      · rw [if_pos h2, h2, getD_of hl]
        congr 1
        omega
      · rw [if_neg h2, stepL_get hl, if_neg h1, if_neg h2]
/-! ### steps in the heap -/
def Tups (H : Hp) : List Addr → List (Int × Bool) → Prop
  | [], [] => True
  | t :: ts, s :: ss => H t = some (.tup [.int s.1, .bl s.2]) ∧ Tups H ts ss
  | _, _ => False
theorem Tups.imp {H H' : Hp} (k : ∀ t xs, H t = some (.tup xs) → H' t = some (.tup xs)) : ∀ {ts : List Addr} {ss : List (Int × Bool)}, Tups H ts ss → Tups H' ts ss
  | [], [], _ => trivial
  | [], _ :: _, h => h.elim
  | _ :: _, [], h => h.elim
  | t :: ts, s :: ss, h => ⟨k _ _ h.1, Tups.imp k h.2⟩
theorem Tups.same {H H' : Hp} {ts : List Addr} {ss : List (Int × Bool)} (h : Tups H ts ss) (s : Same H H') : Tups H' ts ss := h.imp fun t xs e => s _ _ e
theorem Tups.upd {H : Hp} {p : Addr} {xs : List V} {o : HO} {ts : List Addr} {ss : List (Int × Bool)} (h : Tups H ts ss) (e : H p = some (.lst xs)) : Tups (L2.upd H p o) ts ss := h.imp fun t ys e' => by
  rw [upd_ne (ne_of e' e (fun z => by cases z))]
  exact e'
theorem Tups.len {H : Hp} : ∀ {ts : List Addr} {ss : List (Int × Bool)}, Tups H ts ss → ts.length = ss.length
  | [], [], _ => rfl
  | [], _ :: _, h => h.elim
  | _ :: _, [], h => h.elim
  | t :: ts, s :: ss, h => by rw [List.length_cons, List.length_cons, Tups.len h.2]
theorem Tups.append {H : Hp} : ∀ {ts us : List Addr} {ss rr : List (Int × Bool)}, Tups H ts ss → Tups H us rr → Tups H (ts ++ us) (ss ++ rr)
  | [], _, [], _, _, h => h
  | [], _, _ :: _, _, h, _ => h.elim
  | _ :: _, _, [], _, h, _ => h.elim
  | t :: ts, us, s :: ss, rr, h, h2 => ⟨h.1, Tups.append h.2 h2⟩
theorem Tups.get {H : Hp} : ∀ {ts : List Addr} {ss : List (Int × Bool)} {i : Nat} {s : Int × Bool}, Tups H ts ss → ss[i]? = some s → ∃ t, ts[i]? = some t ∧ H t = some (.tup [.int s.1, .bl s.2])
  | [], [], i, s, _, e => by simp at e
  | [], _ :: _, _, _, h, _ => h.elim
  | _ :: _, [], _, _, h, _ => h.elim
  | t :: ts, s :: ss, 0, s', h, e => by
    cases e
    exact ⟨t, rfl, h.1⟩
  | t :: ts, s :: ss, i + 1, s', h, e => Tups.get (i := i) h.2 e
def TellT (H : Hp) (Q : VK) (ss : List (Int × Bool)) : Prop := ∀ (H' : Hp) (p : Addr) (ts : List Addr), Same H H' → H p = none → H' p = some (.lst (ts.map V.ref)) → Tups H' ts ss → Q (.ref p) H'
theorem dpAll_T {K : PySem.W.Frag} {H : Hp} : ∀ {ts : List Addr} {ss : List (Int × Bool)}, Tups H ts ss → DpAll K H (ts.map V.ref) (ss.map dStep)
  | [], [], _ => .nil
  | [], _ :: _, h => h.elim
  | _ :: _, [], h => h.elim
  | t :: ts, s :: ss, h => .cons (.tup (SqT.of h.1) (.cons (.int _) (.cons (.bl _) .nil))) (dpAll_T h.2)
theorem dp_LT {K : PySem.W.Frag} {H : Hp} {a : Addr} {ts : List Addr} {ss : List (Int × Bool)} (h : SqL K H a (ts.map V.ref)) (t : Tups H ts ss) : Dp K H (.ref a) (.list (ss.map dStep)) := .lst h (dpAll_T t)
theorem dp_T {K : PySem.W.Frag} {H : Hp} {a : Addr} {s : Int × Bool} (h : H a = some (.tup [.int s.1, .bl s.2])) : Dp K H (.ref a) (dStep s) := .tup (SqT.of h) (.cons (.int _) (.cons (.bl _) .nil))
theorem units65 {A : Around} {k : Nat} (hr : Room k A) : A.units + 65 < cLine := by
  have := hr.un
  omega
theorem any_step (ss : List (Int × Bool)) (s : Int × Bool) : ((ss.map dStep).any fun z => PyData.eqv z (dStep s)) = decide (s ∈ ss) := by
  induction ss with
  | nil => simp
  | cons x xs ih =>
    rw [List.map_cons, List.any_cons, ih, eqv_dStep]
    by_cases h : x = s
    · simp [h]
    · have h' : ¬ s = x := fun z => h z.symm
      simp [h, h']
end CB
namespace CB
open PySem PySem.Spec PyProof.Rows L2
theorem opt_t {rs bs : List Int} {i : Nat} {up : Bool} (h : goesB rs bs i up = true) : optP rs bs i up = [((i : Int), up)] := by unfold optP; rw [if_pos h]
theorem opt_f {rs bs : List Int} {i : Nat} {up : Bool} (h : goesB rs bs i up = false) : optP rs bs i up = [] := by unfold optP; rw [h, if_neg Bool.false_ne_true]
/-- one more step at the end of a list of steps -/
theorem tup_app {H : Hp} {p t : Addr} {ts : List Addr} {ss : List (Int × Bool)} (s : Int × Bool) (hP : H p = some (.lst (ts.map V.ref))) (ht : Tups H ts ss) (nt : H t = none) :
    Tups (upd (upd H t (.tup [.int s.1, .bl s.2])) p (.lst (ts.map V.ref ++ [.ref t]))) (ts ++ [t]) (ss ++ [s]) ∧ (upd (upd H t (.tup [.int s.1, .bl s.2])) p (.lst (ts.map V.ref ++ [.ref t]))) p = some (.lst ((ts ++ [t]).map V.ref)) ∧
      ∀ H0, Same H0 H → H0 p = none → Same H0 (upd (upd H t (.tup [.int s.1, .bl s.2])) p (.lst (ts.map V.ref ++ [.ref t]))) := by
  have s1 := same_upd (o := .tup [.int s.1, .bl s.2]) nt
  have hp1 := s1 _ _ hP
  have dtp : p ≠ t := ne_of_none hP nt
  refine ⟨?_, by rw [upd_same, List.map_append]; rfl, fun H0 s0 n0 c o z => ?_⟩
  · refine Tups.append ((ht.same s1).upd hp1) ⟨?_, trivial⟩
    rw [upd_ne dtp.symm, upd_same]
  · rw [upd_ne (ne_of_none z n0)]
    exact s1 _ _ (s0 _ _ z)
end CB
namespace CB
open PySem PySem.Spec PyProof.Rows L2
/-! ### the way: lowering from the last lines down, then raising from the lowest up -/
def downP (ns : List Int) : Nat → List (Int × Bool)
  | 0 => []
  | i + 1 => downP ns i ++ List.replicate (0 - ns.getD (ns.length - 1 - i) 0).toNat (((ns.length - 1 - i : Nat) : Int), false)
def upP (ns : List Int) : Nat → List (Int × Bool)
  | 0 => []
  | i + 1 => upP ns i ++ List.replicate (ns.getD i 0).toNat ((i : Int), true)
def wayL (ns : List Int) : List (Int × Bool) := downP ns ns.length ++ upP ns ns.length
theorem abs'_split (x : Int) : abs' x = ((0 - x).toNat : Int) + (x.toNat : Int) := by
  unfold abs'
  split <;> omega
def posS (ns : List Int) (i : Nat) : Int := ((ns.take i).map fun x => (x.toNat : Int)).sum
theorem sum_append' (xs ys : List Int) : (xs ++ ys).sum = xs.sum + ys.sum := by
  induction xs with
  | nil => rw [List.nil_append, List.sum_nil]; omega
  | cons x xs ih => rw [List.cons_append, List.sum_cons, List.sum_cons, ih]; omega
theorem upP_len (ns : List Int) : ∀ i, i ≤ ns.length → ((upP ns i).length : Int) = ((ns.take i).map fun x => (x.toNat : Int)).sum
  | 0, _ => by simp [upP]
  | i + 1, h => by
    show ((upP ns i ++ _).length : Int) = _
    rw [List.length_append, List.length_replicate, take_more (getD_of (show i < ns.length by omega)), List.map_append, sum_append', ← upP_len ns i (by omega)]
    simp
theorem drop_more {α : Type} {l : List α} {i : Nat} {x : α} (h : l[i]? = some x) : l.drop i = x :: l.drop (i + 1) := by
  obtain ⟨hi, e⟩ := List.getElem?_eq_some_iff.mp h
  rw [List.drop_eq_getElem_cons hi, e]
theorem downP_len (ns : List Int) : ∀ i, i ≤ ns.length → ((downP ns i).length : Int) = ((ns.drop (ns.length - i)).map fun x => ((0 - x).toNat : Int)).sum
  | 0, _ => by simp [downP]
  | i + 1, h => by
    show ((downP ns i ++ _).length : Int) = _
    have e : ns.length - (i + 1) = ns.length - 1 - i := by omega
    rw [List.length_append, List.length_replicate, e, drop_more (getD_of (show ns.length - 1 - i < ns.length by omega)), List.map_cons, List.sum_cons, show ns.length - 1 - i + 1 = ns.length - i by omega, ← downP_len ns i (by omega)]
    omega
theorem wayL_len (ns : List Int) : ((wayL ns).length : Int) = (ns.map abs').sum := by
  have h1 := upP_len ns ns.length (Nat.le_refl _)
  have h2 := downP_len ns ns.length (Nat.le_refl _)
  rw [List.take_length] at h1
  rw [Nat.sub_self, List.drop_zero] at h2
  unfold wayL
  rw [List.length_append, Int.natCast_add, h1, h2]
  clear h1 h2
  induction ns with
  | nil => rfl
  | cons x xs ih =>
    rw [List.map_cons, List.map_cons, List.map_cons, List.sum_cons, List.sum_cons, List.sum_cons, ← ih, abs'_split]
    omega
theorem abs_le_sum {ns : List Int} {x : Int} (h : x ∈ ns) : abs' x ≤ (ns.map abs').sum := by
  induction ns with
  | nil => cases h
  | cons y ys ih =>
    rw [List.map_cons, List.sum_cons]
    have nn : ∀ zs : List Int, 0 ≤ (zs.map abs').sum := fun zs => by
      induction zs with
      | nil => exact Int.le_refl _
      | cons z zs ih => rw [List.map_cons, List.sum_cons]; have : 0 ≤ abs' z := by unfold abs'; split <;> omega
                        omega
    have h0 : 0 ≤ abs' y := by unfold abs'; split <;> omega
    rcases List.mem_cons.mp h with rfl | h
    · have := nn ys; omega
    · have := ih h; omega
theorem downP_le (ns : List Int) (i : Nat) : (downP ns i).length ≤ (downP ns (i + 1)).length := by
  show _ ≤ (downP ns i ++ _).length
  rw [List.length_append]
  omega
theorem downP_mono (ns : List Int) {i j : Nat} (h : i ≤ j) : (downP ns i).length ≤ (downP ns j).length := by
  induction j with
  | zero => rw [show i = 0 by omega]; exact Nat.le_refl _
  | succ j ih =>
    rcases Nat.lt_or_ge i (j + 1) with h1 | h1
    · exact Nat.le_trans (ih (by omega)) (downP_le ns j)
    · rw [show i = j + 1 by omega]; exact Nat.le_refl _
theorem upP_mono (ns : List Int) {i j : Nat} (h : i ≤ j) : (upP ns i).length ≤ (upP ns j).length := by
  induction j with
  | zero => rw [show i = 0 by omega]; exact Nat.le_refl _
  | succ j ih =>
    rcases Nat.lt_or_ge i (j + 1) with h1 | h1
    · refine Nat.le_trans (ih (by omega)) ?_
      show _ ≤ (upP ns j ++ _).length
      rw [List.length_append]
      omega
    · rw [show i = j + 1 by omega]; exact Nat.le_refl _
end CB
namespace CB
open PySem PySem.Spec PyProof.Rows L2
/-- what a def of two boards asks of them; P: what it tells of good ones -/
def Two (mg : Str → Option Value) (H : Hp) (E : XK) (rs bs cs : List Int) (P : Prop) : Prop :=
  (GF rs → GB rs bs → BS bs ∧ (GB rs cs → BS cs ∧ P) ∧ (¬ GB rs cs → Raise mg "NoBoard" H E)) ∧ (¬ GF rs → E (.ref (ErA mg "NoFrame")) none H) ∧ (GF rs → ¬ GB rs bs → E (.ref (ErA mg "NoBoard")) none H)
theorem Two.good {mg : Str → Option Value} {H : Hp} {E : XK} {rs bs cs : List Int} {P : Prop} (g : GF rs) (gb : GB rs bs) (gc : GB rs cs) (sb : BS bs) (sc : BS cs) (p : P) : Two mg H E rs bs cs P :=
  ⟨fun _ _ => ⟨sb, fun _ => ⟨sc, p⟩, fun z => absurd gc z⟩, fun z => absurd g z, fun _ z => absurd gb z⟩
end CB
namespace CB
open PySem PySem.Spec PyProof.Rows L2
/-! ### a comprehension that a call in its element may leave by an exception -/
section
variable {X : Cx} {pins pins' : List (Addr × Obj)} {σ σ' : L2.St} {H3 H : Hp} {s3 s s' : Shared} {scope : Scope} {ce : Env} {fp : List Addr} {E0 : XK} {e : Value}
/-- an exception that came out of a call in the block: the block's names are let go, then it flies on in the def's own frame -/
theorem block_fails (I3 : Inv X pins σ H3 s3) (hst : X.stack = X.env :: X.outer) (hfl : X.env.frame = some X.env.locals) (tk : Takes X (fun cls d _ H => E0 cls d H)) (hcf : ce.frame = X.env.frame) (hcl : ce.locals = s3.heap.objs.size)
    (hfp : ∀ b ∈ fp, FpOk X pins H3 b) (Ib : Inv (X.blk s3 H3 scope ce fp) pins' σ' H s) (c : L2.CX X.prog X.w X.stack H s E0 e s') :
    notedBy (model X.prog X.w) X.A ce (CompFails (model X.prog X.w) X.A X.xe ce) e s' := by
  obtain ⟨a, B, H', cls, d, rfl, fl, hok, ub, na, os, ag, hE⟩ := c
  have hfr : X.A.frames = some (X.env :: X.outer) := by rw [I3.ok.frames, hst]
  have hC : H ce.locals = none := Ib.free
  obtain ⟨m, ⟨oC, es, ep, hoC, rN⟩, _⟩ := Ib.loc
  have hoC : s.heap.get? ce.locals = some oC := hoC
  have small : ∀ b o, s3.heap.get? b = some o → b ≠ ce.locals := fun b o q => by rw [hcl]; exact Nat.ne_of_lt (Heap.lt_size q)
  have Cfr : ce.locals ∉ frs X.stack := fun hm => by
    rcases List.mem_cons.mp (I3.stkSub _ hm) with z | z
    · have := I3.lt
      rw [← z, hcl] at this
      exact absurd this (Nat.lt_irrefl _)
    · exact I3.nofs (a := ce.locals) (by rw [hcl]; exact Nat.le_refl _) z
  have BC : B.get? ce.locals = some oC := ub.keep _ _ hoC hC Cfr
  have HC : H' ce.locals = none := ub.free _ _ hoC hC
  -- the ground and the state without the block's names
  obtain ⟨G, g1, g2⟩ := restrict s'.heap fun b => ((B.get? b).isSome && !decide (b = ce.locals)) || decide (b ∈ frs X.stack)
  obtain ⟨B', b1, b2⟩ := restrict B fun b => !decide (b = ce.locals)
  have st : B.StaysIn s'.heap := fl.1
  have gB : ∀ b o, B.get? b = some o → b ≠ ce.locals → G.get? b = some o := fun b o q hb => by
    rw [g1 b (by simp [q, hb])]
    exact st b o q
  have gF : ∀ b, b ∈ frs X.stack → G.get? b = s'.heap.get? b := fun b hb => g1 b (by simp [hb])
  have oG : ∀ b o, G.get? b = some o → s'.heap.get? b = some o ∧ (((B.get? b).isSome = true ∧ b ≠ ce.locals) ∨ b ∈ frs X.stack) := fun b o q => by
    cases z : (((B.get? b).isSome && !decide (b = ce.locals)) || decide (b ∈ frs X.stack)) with
    | false => rw [g2 b z] at q; cases q
    | true =>
      rw [g1 b z] at q
      refine ⟨q, ?_⟩
      simpa [Bool.or_eq_true] using z
  have B'C : B'.get? ce.locals = none := b2 _ (by simp)
  have B'o : ∀ b, b ≠ ce.locals → B'.get? b = B.get? b := fun b hb => b1 b (by simp [hb])
  have hokG : HOk X.prog X.w H' G := fun b o q => (hok b o q).stay (fun c u hc r => gB c u r fun z => by
    subst z
    rcases hc with hc | hc
    · rw [hc, q] at HC; cases HC
    · rw [hc] at HC; cases HC) (fun _ r => r) fun _ _ r => r
  have IX : Inv X pins σ H' { s' with heap := G } := by
    refine I3.call' (s' := { s' with heap := G }) (ch := fp) (os.trans Ib.os) ⟨fun b o q n hb hx => ?_, fun b o q n hb hx => ?_, fun b o q n hx => ?_, fun b o q hx => ?_, fun b xs q => ub.tups b xs (Ib.base.tups b xs q), fun b o u q => ub.frzs b o u (Ib.base.frzs b o u q), fun b ps q => ?_⟩ hokG ag
      fun b hb => ⟨(hfp b hb).2.2.2.1, (hfp b hb).2.1, (hfp b hb).2.2.2.2.1, (hfp b hb).2.2.2.2.2⟩
    · exact gB b o (ub.keep b o (Ib.base.keep b o q n hb hx) (Ib.base.free b o q n hx) hb) (small b o q)
    · obtain ⟨sl, q1⟩ := Ib.base.slot b o q n hb hx
      obtain ⟨sl2, q2⟩ := ub.slot b _ q1 hb
      exact ⟨sl2, by rw [gF b hb]; exact q2⟩
    · obtain ⟨sl, q1⟩ := Ib.base.any q n hx
      exact ub.free b _ q1 (Ib.base.free b o q n hx)
    · obtain ⟨o1, q1⟩ := Ib.base.there b o q hx
      by_cases hb : b ∈ frs X.stack
      · obtain ⟨sl, q2⟩ := ub.slot b o1 q1 hb
        exact ⟨_, by rw [gF b hb]; exact q2⟩
      · obtain ⟨o2, q2⟩ := ub.there b o1 q1 hb
        exact ⟨o2, gB b o2 q2 (small b o q)⟩
    · obtain ⟨m1, q1⟩ := Ib.base.tbls b ps q
      obtain ⟨m2, q2⟩ := ub.tbls b _ q1
      exact ⟨m1 ++ m2, by rw [q2, Array.append_assoc]⟩
  -- noted by the def's own frame
  show wpAny (model X.prog X.w) X.A (noteFrame (.ref a) ce) _ _ s'
  rw [noteFrame_env _ hcf]
  refine HandSPX.looks_onZ Zc.steady hfr hfl (by rw [← hst]; exact fl) fun h1 hh1 up1 => ?_
  obtain ⟨k1, k2, k3, oe, vs, T, oT, ts, he, hz, hd, h1f, hnT, hTe, hT, hdT, ht3⟩ := hh1
  have aC : a ≠ ce.locals := fun z => by rw [z, BC] at k2; cases k2
  have TC : T ≠ ce.locals := fun z => by rw [z, BC] at hnT; cases hnT
  refine ⟨m, ⟨oC, es, ep, k1 _ _ BC, rN⟩, fun h2 m2 hn2 sb => ?_⟩
  have he2 : h2.get? a = some oe := (sb.2 a aC).trans he
  have hT2 : h2.get? T = some oT := (sb.2 T TC).trans hT
  have st2 : B'.StaysIn h2 := fun b o q => by
    have hb : b ≠ ce.locals := fun z => by rw [z, B'C] at q; cases q
    rw [B'o b hb] at q
    exact (sb.2 b hb).trans (k1 b o q)
  have f2 : h2.FunFrames B' (X.env :: X.outer) := funFrames_none (Heap.FunFrames.sameBut sb hn2 k3) fun L hL => by
    by_cases z : L = ce.locals
    · rw [z]; exact B'C
    · rw [B'o L z]; exact (k3.mem hL).1
  have tr2 : HandSPX.TracedZ h2 B' a (Zc cls d) (rawInt X.env.locals) := ⟨oe, vs, T, oT, ts, he2, hz, hd, h1f, (by rw [B'o T TC]; exact hnT), hTe, hT2, hdT, ht3⟩
  unfold PySem.passOn
  refine wpAny_bind (wpAny_field he2 hd h1f ?_)
  rw [if_neg (show ¬ ((Value.ref T == Value.none) = true) from by simp)]
  rw [hcf, hfl]
  refine wpAny_bind (HandSPX.setFlight_anyZ (fr := some X.env.locals) st2 f2 tr2 fun h4 q1 q2 q3 q4 => wpAny_throw (tk _ _ ?_))
  refine ⟨a, B', { s' with heap := G }, pins, σ, H', cls, d, rfl, IX, fun b o q hb => ?_, fun b o q hnf => ?_, .inr (.inr ⟨q1, (by rw [B'o a aC]; exact k2), (by rw [hst]; exact q2), q3⟩), na, rfl, ag, hE⟩
  · obtain ⟨q5, q6⟩ := oG b o q
    rcases q6 with ⟨q6, q7⟩ | q6
    · obtain ⟨o', q8⟩ := Option.isSome_iff_exists.mp q6
      have q9 := st b o' q8
      rw [q5] at q9
      rw [B'o b q7, q8, ← q9]
    · exact absurd q6 hb
  · obtain ⟨q5, q6⟩ := oG b o q
    have hb : b ≠ ce.locals := by
      rcases q6 with ⟨_, q7⟩ | q7
      · exact q7
      · exact fun z => Cfr (by rw [← z]; exact q7)
    obtain ⟨sl1, r1⟩ := up1 b o q5 hnf
    have r2 : h2.get? b = some { o with slots := sl1 } := (sb.2 b hb).trans r1
    obtain ⟨sl2, r3⟩ := q4 b _ r2 hnf
    exact ⟨sl2, r3⟩
end
section
variable {X : Cx} {elt tg iter : Expr} {scope : Scope} {own : List (Str × Nat)} {pos spos py : Pos} {wi : TI} {g : TG} {te : TE} {E0 : XK} {i : Nat} {y : Str}
/-- name = [elt for tg in iter], where a call in elt may raise -/
theorem ps_setLcX (hst : X.stack = X.env :: X.outer) (hfl : X.env.frame = some X.env.locals) (tk : Takes X (fun cls d _ H => E0 cls d H)) (hc : X.calm = true) (hN : X.N.Nodup) (hy : X.N[i]? = some y) (hyl : X.env.scope.names.lookup y = some .local)
    (hsw : swapsWith (.ListComp elt [⟨tg, iter, [], 0⟩] scope pos) (some (.Name y py)) spos.line X.env = pure true) (hi : PI X tg iter wi) (ok : BlkOk X.N X.env.scope scope own)
    (hg : ∀ (s : Shared) (H : Hp) (C : Addr) (cl : List (Str × Addr)) (fp : List Addr), PG (X.blk s H scope (compEnvC scope cl C X.env) fp) tg g)
    (he : ∀ (s : Shared) (H : Hp) (C : Addr) (cl : List (Str × Addr)) (fp : List Addr) (xe : Value → Shared → Prop), (∀ σ, PassesAt (L2.CX X.prog X.w) ((X.blk s H scope (compEnvC scope cl C X.env) fp).wish xe) σ E0) → PE ((X.blk s H scope (compEnvC scope cl C X.env) fp).wish xe) elt te)
    (hs : ∀ x, foldedSetIterable iter X.env x = pure x := by intro _; rfl) :
    PS X (.Assign [.Name y py] (.ListComp elt [⟨tg, iter, [], 0⟩] scope pos) spos) (tAsg (tLc wi g tYes te (own.map (·.2))) (gName i)) := by
  refine ⟨fun pins s σ H D I h => ?_⟩
  rw [exec_Assign_Name_used _ _ _ _ hsw]
  refine wpAny_bind (wpAny_standAt (wpAny_bind ?_))
  have h : tLc wi g tYes te (own.map (·.2)) σ H (fun x H1 => gName i x σ H1 D.nx) := h
  have hfree : ∀ z ∈ scope.names, z.2 = .free → ∃ c, X.env.cells.lookup z.1 = some c := fun z hz q => (ok.free z hz q).elim (fun k => I.ok.has _ (.inl k)) (fun k => I.ok.has _ (.inr k))
  show wpAny _ X.A (do let _ ← comprehension (.ListComp elt [⟨tg, iter, [], 0⟩] scope pos) scope X.env (firstIterPos [⟨tg, iter, [], 0⟩] pos) (newList []) false (eval iter X.env) (some (assign (.Name y py) X.env))) _ _ s
  refine wpAny_bind (wpAny_mono (comprehension_at (use := some (assign (.Name y py) X.env)) (Q := fun _ s' => SP X pins D .next s') rfl hs (closure_ok hfree) ok.kind (fun z hz q => by rw [ok.uniq z hz, q])
    (thn (hi.run pins s σ H _ I h) fun xv s1 hx => thn hx fun itv s2 h2 => ?_)) (fun _ s' hq => wpAny_pure (wpAny_pure hq)) fun _ _ q => q)
  obtain ⟨it, fp, tn, J, H2, e, I2, T, st2, f2, q⟩ := h2
  subst e
  refine wpAny_newObj_type (newEnv_comp ?_) (by show 0 ≤ sizeLine; decide)
  generalize hL : s2.heap.objs.size = L
  have hLn : H2 L = none := I2.hok.fresh (Nat.le_of_eq hL)
  obtain ⟨W, ⟨m0, w0⟩, turn⟩ := q L hLn
  generalize hs3 : ({ s2 with heap := s2.heap.push { cls := .type "list", data := .seq ([] : List Value).toArray } } : Shared) = s3
  have h3 : s3.heap = s2.heap.push { cls := .type "list", data := .seq ([] : List Value).toArray } := by rw [← hs3]
  have I3 : Inv X pins σ (upd H2 L (.lst [])) s3 := by
    rw [← hs3]
    refine I2.laid (t' := s2.toks) (fun b o q => Heap.get?_push_of_some _ q) (Nat.le_of_eq hL) ⟨Nat.zero_le _, [], 0, .nil, ?_⟩
    rw [← hL]
    exact Heap.get?_push_size _ rfl
  have f3 : ∀ b ∈ fp, FpOk X pins (upd H2 L (.lst [])) b ∧ b < s3.heap.objs.size := fun b hb => by
    obtain ⟨o, q, _⟩ := T.obj _ _ st2 b hb
    have hlt := Heap.lt_size q
    refine ⟨⟨?_, (f2 b hb).2⟩, by rw [h3, Heap.size_push]; exact Nat.lt_succ_of_lt hlt⟩
    rw [upd_ne (by rw [← hL]; exact Nat.ne_of_lt hlt)]
    exact (f2 b hb).1
  have I4 := block_start I3 ok hN f3
  have pg := hg s3 (upd H2 L (.lst [])) s3.heap.objs.size (cellsFrom (s3.heap.objs.size + 1) scope.names (cloFrom X.env.cells scope.names [])) fp
  have pe := he s3 (upd H2 L (.lst [])) s3.heap.objs.size (cellsFrom (s3.heap.objs.size + 1) scope.names (cloFrom X.env.cells scope.names [])) fp
  have st3 : tn 0 s3.heap := T.keep _ _ _ st2 fun b _ o q => by rw [h3]; exact Heap.get?_push_of_some _ q
  show codeAny _ _ (.compStart (.ListComp elt [⟨tg, iter, [], 0⟩] scope pos) 0 (.ref it) (.ref L) (compEnvC scope (cellsFrom (s3.heap.objs.size + 1) scope.names (cloFrom X.env.cells scope.names [])) s3.heap.objs.size X.env))
    (compEnds (model X.prog X.w) X.A X.xe (some (assign (.Name y py) X.env)) (fun _ s' => SP X pins D .next s') (.ref L) (compEnvC scope (cellsFrom (s3.heap.objs.size + 1) scope.names (cloFrom X.env.cells scope.names [])) s3.heap.objs.size X.env)) { s3 with heap := pushCells (s3.heap.push { cls := .type "dict", data := .dict #[] }) scope.names }
  generalize hce : compEnvC scope (cellsFrom (s3.heap.objs.size + 1) scope.names (cloFrom X.env.cells scope.names [])) s3.heap.objs.size X.env = ce at I4 pg pe ⊢
  have cL : ce.locals = s3.heap.objs.size := by subst hce; rfl
  have cF : ce.frame = X.env.frame := by subst hce; rfl
  generalize hH3 : upd H2 L (.lst []) = H3 at I3 I4 pg pe w0 f3
  generalize hs4 : ({ s3 with heap := pushCells (s3.heap.push { cls := .type "dict", data := .dict #[] }) scope.names } : Shared) = s4 at I4 ⊢
  have st4 : tn 0 s4.heap := T.keep _ _ _ st3 fun b _ o q => by rw [← hs4]; exact pushCells_keeps _ _ _ _ (Heap.get?_push_of_some _ q)
  have out : ∀ {pins' : List (Addr × Obj)} {σ' : L2.St} {H' : Hp} {s' : Shared}, Inv (X.blk s3 H3 scope ce fp) pins' σ' H' s' → ∀ u s'', L2.CX X.prog X.w X.stack H' s' E0 u s'' → notedBy (model X.prog X.w) X.A ce (CompFails (model X.prog X.w) X.A X.xe ce) u s'' :=
    fun I' u s'' c => block_fails I3 hst hfl tk cF cL (fun b hb => (f3 b hb).1) I' c
  have pe := pe (notedBy (model X.prog X.w) X.A ce (CompFails (model X.prog X.w) X.A X.xe ce)) fun σ' pins' H' s' u s'' I' c => out (Inv.unwish (X := X.blk s3 H3 scope ce fp) I') u s'' c
  have stat : ∀ {σ' : L2.St} {H' : Hp} {s' : Shared}, Inv (X.blk s3 H3 scope ce fp) [] σ' H' s' → (∀ b ∈ fp, H' b = none) → ∀ b ∈ fp, FpOk (X.blk s3 H3 scope ce fp) [] H' b := fun {σ' H' s'} I' hn b hb =>
    ⟨hn b hb, (I'.ok.exf b hb).1, I'.ok.exfs b hb, .inl hb, fun x c q => (I'.ok.exf b hb).2 x c q, fun p hp => absurd (show p ∈ ([] : List (Addr × Obj)) ++ [] from hp) (by simp)⟩
  refine codeAny_compStart_list ?_ (T.self X.A 0 _ _ _ st4 ?_)
  all_goals
    refine compLoop_any (fun n s' => ∃ i H', Inv (X.blk s3 H3 scope ce fp) [] (wipe σ (own.map (·.2))) H' s' ∧ tn i s'.heap ∧ (∀ b ∈ fp, H' b = none) ∧ W i n H') ?_ m0 ⟨0, H3, I4, st4, fun b hb => (f3 b hb).1.1, w0⟩
    rintro n s5 ⟨k, H5, I5, st5, n5, w5⟩
    rcases turn k n H5 w5 with ⟨stop, qq⟩ | ⟨go, Nx, hNx, step⟩
    · refine thnF (T.done (X.blk s3 H3 scope ce fp) rfl rfl rfl hc k [] s5 _ H5 (fun _ _ => False) I5 (stat I5 n5) st5 stop) fun r s6 ⟨hr, I6⟩ => ?_
      subst hr
      have I7 : Inv X pins σ H5 s6 := I3.call' (ch := fp) I6.os I6.base I6.hok I6.bare fun b hb => ⟨(f3 b hb).1.2.2.2.1, (f3 b hb).1.2.1, (f3 b hb).1.2.2.2.2.1, (f3 b hb).1.2.2.2.2.2⟩
      have nC : H5 ce.locals = none := I6.free
      obtain ⟨m, hn, _⟩ := I6.loc
      have hn : s6.heap.Ns ce.locals m := hn
      obtain ⟨f0, f1, _, f3', f4, f5⟩ := I3.fpOk (b := ce.locals) (by rw [cL]; exact Nat.le_refl _) nC
      show wpAny _ _ (assign (.Name y py) X.env (.ref L)) _ _ _
      refine wpAny_assign_Name (store_ok2 (v := V.ref L) I7 hN hy (.inl hyl) rfl (fun s8 I8 ⟨a, sb, ha⟩ => ?_) (.inr hyl))
      have haC : ce.locals ≠ a := by
        rcases ha with z | z
        · rw [z]; exact f1
        · exact fun q => f4 y a z q.symm
      exact ⟨m, hn.sameBut sb haC, fun h9 sb9 => ⟨_, H5, I8.turned (t' := s8.toks) (fun b o hb q => (sb9.2 b hb).trans q) f0 f1 f3' f4 f5, qq⟩⟩
    · refine thnF (T.item (X.blk s3 H3 scope ce fp) rfl rfl rfl hc k [] s5 _ H5 (fun _ _ => False) I5 (stat I5 n5) st5 go) fun r s6 ⟨u, hr, h6⟩ => ?_
      subst hr
      refine thnF h6 fun _ s7 ⟨x, H7, I7, r7, y7, st7, n7⟩ => ?_
      have I7' := I7.pinned (stat I7 n7) (T.obj _ _ st7)
      refine thnF (pg.run _ s7 _ H7 x u _ I7' r7 (step x H7 y7)) fun _ s8 ⟨σ8, H8, I8, hw8, q8⟩ => ?_
      refine wpAny_tests_nil ?_
      rw [if_pos rfl]
      have q8 : te σ8 H8 fun z H4 => ∃ acc, H4 L = some (.lst acc) ∧ acc.length < sizeLine ∧ Nx (upd H4 L (.lst (acc ++ [z]))) := q8
      have fin : ∀ {s' : Shared} {H' : Hp}, Inv (X.blk s3 H3 scope ce fp) ([] ++ pinsAt fp s7.heap) σ8 H' s' → Nx H' → ∃ m, m < n ∧ ∃ i H', Inv (X.blk s3 H3 scope ce fp) [] (wipe σ (own.map (·.2))) H' s' ∧ tn i s'.heap ∧ (∀ b ∈ fp, H' b = none) ∧ W i m H' := fun {s' H'} I' nx => by
        obtain ⟨m', hm, w'⟩ := hNx H' nx
        have pin' : ∀ b ∈ fp, ∀ o, s7.heap.get? b = some o → s'.heap.get? b = some o ∧ H' b = none := fun b hb o q =>
          let z := I'.pin (b, o) (List.mem_append_right _ (List.mem_append_right _ (mem_pinsAt hb q)))
          ⟨z.1, z.2.1⟩
        have hl : (wipe σ (own.map (·.2))).length = σ8.length := by rw [← hw8, wipe_length]
        refine ⟨m', hm, k + 1, H', (I'.unpinned (pins := [])).weak hl (fun j v q => ?_), T.keep _ _ _ st7 fun b hb o q => (pin' b hb o q).1, fun b hb => ?_, w'⟩
        · rw [← hw8] at q
          exact (wipe_some q).1
        · obtain ⟨o, q, _⟩ := T.obj _ _ st7 b hb
          exact (pin' b hb o q).2
      refine wpAny_mono (pe.run _ s8 σ8 H8 _ (I8.wish _) q8) (fun z s10 ⟨yv, H10, I10, r10, acc, hD10, hz10, nx⟩ => ?_) fun _ _ q => q
      exact app_ok (X := X.blk s3 H3 scope ce fp) (Inv.unwish (X := X.blk s3 H3 scope ce fp) I10) hD10 hz10 r10 fun s11 I11 => fin I11 nx
end
theorem pe_fA {X : Cx} {E0 : XK} {j k : Nat} {x : Str} {ps : List Str} {sp : Sp} {e : Expr} {es : List Expr} {t : TA} {p pos : Pos} (c : Callee X.prog X.w X.K X.mg X.base k x ps sp) (hr : Room j X.A) (hk : k ≤ j) (pa : ∀ σ, PassesAt (L2.CX X.prog X.w) X σ E0)
    (ha : PA X (e :: es) t) (hg : Gl X x := by rfl) (hdb : (x == ("__debug__" : Str)) = false := by decide) (he : starEach (e :: es) X.env = (false, eval e X.env) :: starEach es X.env := by rfl) (hpl : (backTo pos (starEach es X.env)).any (·.1) = false := by rfl) :
    PE X (.Call (.Name x p) (e :: es) [] pos) (tCallS sp (fun _ => E0) t) := by
  obtain ⟨f, fd, F, hm, hkp, hb⟩ := c
  exact pe_callS F (hr.mono hk) hg hm hkp hb pa ha hdb he hpl
end CB
namespace CB
open PySem PySem.Spec PyProof.Rows L2
open RT
/-! ### list(reversed(x)), x a list -/
section
variable {prog : Program} {w : World} {A : Around} {E : Value → Shared → Prop} {s : Shared}
theorem call_list_revIter {it l : Addr} {items : Array Value} {Q : Value → Shared → Prop} (hh : A.handled = none) (hit : s.heap.IsRevIter it l ((items.size : Int) - 1)) (hl : s.heap.IsList l items) (hne : l ≠ it) (hn : items.size ≤ sizeLine)
    (hQ : ∀ (h' : Heap) (tk : Nat) (acc : Array Value) (c' : Nat), (∀ b o, b ≠ it → s.heap.get? b = some o → h'.get? b = some o) → h'.get? s.heap.objs.size = some { cls := .type "list", dict := none, data := .seq acc c', slots := #[] } →
      ItemsOf (fun i v => items[items.size - 1 - i]? = some v) acc items.size → Q (.ref s.heap.objs.size) { s with heap := h', toks := tk }) :
    wpAny (model prog w) A (call (.type "list") [.ref it]) Q E s := by
  refine callType_codes (Q₁ := fun obj s₁ => obj = .ref s.heap.objs.size ∧ s₁ = { s with heap := s.heap.push { cls := .type "list", data := .seq #[] } }) F.called_list (F.typeCall_list_1 _) F.entry_list_init
    (code_list_new _ ⟨rfl, rfl⟩) fun obj s₁ h₁ => ?_
  obtain ⟨rfl, rfl⟩ := h₁
  have hS : (s.heap.push { cls := .type "list", data := .seq #[] }).get? s.heap.objs.size = some { cls := .type "list", data := .seq #[] } := Heap.get?_push_size _ rfl
  obtain ⟨oi, hoi, _⟩ := id hit
  obtain ⟨ol, hol, _⟩ := id hl
  have hSi : s.heap.objs.size ≠ it := Nat.ne_of_gt (Heap.lt_size hoi)
  have hSl : s.heap.objs.size ≠ l := Nat.ne_of_gt (Heap.lt_size hol)
  have hSf : s.heap.objs.size ∉ [it, l] := by simp only [List.mem_cons, List.not_mem_nil, or_false, not_or]; exact ⟨hSi, hSl⟩
  refine ⟨⟨_, hS, rfl⟩, F.args_list_init_2 _ _, ?_⟩
  show wpAny _ _ (do let old ← Builtin.List.listItems (.ref s.heap.objs.size); Builtin.List.listUpdate (.ref s.heap.objs.size) (fun _ => #[]); letGo old.toList.reverse; Builtin.List.listExtendWith (.ref s.heap.objs.size) (.ref it) .none) _ _ _
  refine wpAny_bind ?_
  unfold Builtin.List.listItems
  refine wpAny_bind (wpAny_seqItems hS rfl (wpAny_pure ?_))
  show wpAny _ _ (updateSeq s.heap.objs.size (fun _ => #[]) >>= fun _ => letGo (#[] : Array Value).toList.reverse >>= fun _ => Builtin.List.listExtendWith (.ref s.heap.objs.size) (.ref it) .none) _ _ _
  refine wpAny_bind (wpAny_updateSeq hS rfl ?_)
  have hS₂ := Heap.get?_update_self (Obj.mapSeq (fun _ => (#[] : Array Value))) hS rfl
  have oth : ∀ b o, s.heap.get? b = some o → ((s.heap.push { cls := .type "list", data := .seq #[] }).update s.heap.objs.size (Obj.mapSeq (fun _ => (#[] : Array Value)))).get? b = some o :=
    fun b o e => (Heap.get?_update_other _ _ (Nat.ne_of_gt (Heap.lt_size e))).trans (Heap.get?_push_of_some _ e)
  refine wpAny_bind (wpAny_letGo ?_)
  have hit1 := hit.at (oth it)
  have hl1 : ((s.heap.push { cls := .type "list", data := .seq #[] }).update s.heap.objs.size (Obj.mapSeq (fun _ => (#[] : Array Value)))).IsList l items := by
    obtain ⟨o, h1, r⟩ := hl
    exact ⟨o, oth l o h1, r⟩
  generalize (s.heap.push { cls := .type "list", data := .seq #[] }).update s.heap.objs.size (Obj.mapSeq (fun _ => (#[] : Array Value))) = h2 at hS₂ oth hit1 hl1
  have W := (Walks.listRev (prog := prog) (w := w) (A := A.in1.in1) hh it l hne items).toS
  have hT : ({ s with heap := h2 } : Shared).TypeIs (.ref it) "list_reverseiterator" := Heap.IsRevIter.typeIs (s := { s with heap := h2 }) hit1
  have h1 : Builtin.List.listSameRef (.ref s.heap.objs.size) (.ref it) = false := by simp [Builtin.List.listSameRef, hSi]
  unfold Builtin.List.listExtendWith
  refine wpAny_bind (wpAny_typeOf hT ?_)
  rw [if_neg (by rw [h1]; decide)]
  refine wpAny_bind (wpAny_pyIter_revIter (s := { s with heap := h2 }) hit1 ?_)
  refine wpAny_bind (wpAny_holding ?_)
  unfold Builtin.List.listLengthHint
  refine wpAny_bind (wpAny_specialOf hT nolen_lri ?_)
  show wpAny _ _ (specialOf (Value.ref it) (Str.ofString "__length_hint__") >>= _) _ _ _
  refine wpAny_bind (wpAny_specialOf hT hint_lri ?_)
  generalize hid : ("list_reverseiterator.__length_hint__" : String) = id0
  wp_delta
  rw [show splitId id0 = some ("list_reverseiterator", "__length_hint__") from by subst hid; decide +kernel]
  subst hid
  refine wpAny_bind (wpAny_isInstance (b := true) hT (by rw [isSubtype_type]; kernel_rfl) ?_)
  refine wpAny_pure ?_
  rw [if_neg (by decide)]
  have e0 : ((items.size : Nat) : Int) - 1 - ((0 : Nat) : Int) = (items.size : Int) - 1 := by omega
  refine wpAny_pure ⟨plainId_quiet F.plain_extend_loop _, codeAny_extend_loopS W hn _ hSf _ items.size 0 _ _ _ rfl (Nat.zero_le _) ⟨Nat.zero_le _, by rw [e0]; exact hit1, hl1⟩ hS₂ (ItemsOf.nil _) fun s' acc' c' hm hS' hacc => ?_⟩
  refine ⟨rfl, ?_⟩
  rw [Moved.eq_with hm]
  refine hQ s'.heap s'.toks acc' c' (fun b o hb e => hm.heap b o (fun hmem => ?_) (oth b o e)) hS' hacc
  rcases List.mem_cons.mp hmem with e' | hmem
  · exact absurd (Heap.lt_size e) (by rw [e']; exact Nat.lt_irrefl _)
  · exact hb (List.mem_singleton.mp hmem)
end
def tLstRev (K : PySem.W.Frag) (te : TE) : TE := fun σ H Q => te σ H fun v H1 => ∃ (a : Addr) (xs : List V), v = .ref a ∧ SqL K H1 a xs ∧ ∀ q, H1 q = none → Q (.ref q) (upd H1 q (.lst xs.reverse))
section
variable {X : Cx}
theorem pe_lrev {e : Expr} {te : TE} {p p2 pos pos2 : Pos} (hc : X.calm = true) (hg : Gl X "list") (hm : X.mg "list" = none) (hg2 : Gl X "reversed") (hm2 : X.mg "reversed" = none) (he : PE X e te)
    (hs : starEach [e] X.env = (false, eval e X.env) :: starEach [] X.env := by rfl)
    (hs2 : starEach [.Call (.Name "reversed" p2) [e] [] pos2] X.env = (false, eval (.Call (.Name "reversed" p2) [e] [] pos2) X.env) :: starEach [] X.env := by rfl) :
    PE X (.Call (.Name "list" p) [.Call (.Name "reversed" p2) [e] [] pos2] [] pos) (tLstRev X.K te) := by
  refine ⟨fun pins s σ H Q I h => ?_⟩
  refine Call_ (ld_blt I hg hm boot_list (PyProof.Rows.callWith_type1 (args_cons (Call_ (ld_blt I hg2 hm2 PyProof.Rows.boot_reversed (PyProof.Rows.callWith_type1 (args_cons (thn (he.run pins s σ H _ I h) fun u s1 ⟨v, H1, I1, r1, q1⟩ => args_nil ?_) hs) hs rfl))) hs2) hs2 rfl))
  obtain ⟨a, xs, ev, hq, q⟩ := q1
  subst ev
  obtain rfl : u = Value.ref a := r1
  obtain ⟨its, rv, p', hz⟩ := I1.list hq
  refine call_reversed_list p'.isList (args_nil ?_)
  have I2 : Inv X pins σ H1 { s1 with heap := s1.heap.push (revObj a ((its.toArray.size : Int) - 1)) } := I1.kept (t' := s1.toks) fun b o e => Heap.get?_push_of_some _ e
  obtain ⟨f0, f1, f2, f3, f4, f5⟩ := I1.fpOk (H' := H1) (b := s1.heap.objs.size) (Nat.le_refl _) (I1.hok.fresh (Nat.le_refl _))
  have hl := p'.isList
  obtain ⟨ol, hol, _⟩ := id hl
  have hne : a ≠ s1.heap.objs.size := Nat.ne_of_lt (Heap.lt_size hol)
  have hn : its.toArray.size ≤ sizeLine := by rw [List.size_toArray, ← rv.length]; exact hz
  refine call_list_revIter (s := { s1 with heap := s1.heap.push (revObj a ((its.toArray.size : Int) - 1)) }) (I1.ok.hd hc) ⟨_, Heap.get?_push_size _ rfl, rfl, rfl⟩ (hl.push _) hne hn fun h' tk acc c' hk hS' hi => ?_
  have sz : (s1.heap.push (revObj a ((its.toArray.size : Int) - 1))).objs.size = s1.heap.objs.size + 1 := Heap.size_push ..
  have hS'' : h'.get? (s1.heap.push (revObj a ((its.toArray.size : Int) - 1))).objs.size = some { cls := .type "list", dict := none, data := .seq acc c', slots := #[] } := hS'
  refine ⟨.ref (s1.heap.push (revObj a ((its.toArray.size : Int) - 1))).objs.size, upd H1 _ (.lst xs.reverse), I1.laid (t' := tk) (fun b o e => hk b o (Nat.ne_of_lt (Heap.lt_size e)) (Heap.get?_push_of_some _ e)) (by rw [sz]; exact Nat.le_succ _)
    (show ObjOk X.prog X.w _ _ _ (.lst xs.reverse) from ⟨by rw [List.length_reverse]; exact hz, acc.toList, c', vals_rev rv hi, ?_⟩), rfl, q _ (I1.hok.fresh (by rw [sz]; exact Nat.le_succ _))⟩
  rw [Array.toArray_toList]
  exact hS''
end
end CB
namespace CB
open PySem PySem.Spec PyProof.Rows L2
/-! ### "0" * 30 -/
def zeros : Str := ⟨(List.replicate 30 (Str.ofString "0").cps).foldl (· ++ ·) #[]⟩
def rMulS : R2 := fun x y H Q => x = .str (Str.ofString "0") ∧ y = .int 30 ∧ Q (.str zeros) H
theorem op_mulS {X : Cx} : OpR X (binaryOp .Mult) rMulS := by
  intro pins s σ H x y v u Q I rx ry h
  obtain ⟨rfl, rfl, q⟩ := h
  obtain ⟨t, rfl⟩ := rx
  obtain ⟨t', rfl⟩ := ry
  refine PySem.P.mul_str (by decide) (fun _ _ => by decide +kernel) (fun _ _ => by decide +kernel) ?_
  rw [if_neg (by decide), if_neg (by decide +kernel)]
  exact ⟨by decide +kernel, .str zeros, H, I.tok _, ⟨_, rfl⟩, q⟩
theorem tl_zeros : TL.tl zeros = List.replicate 30 48 := by decide +kernel
end CB
namespace CB
open PySem PySem.Spec PyProof.Rows L2
/-! ### a def that is called on the exception that an except suite holds -/
/-- xs.count(y), flat items -/
def rCntV (K : PySem.W.Frag) : V → List V → Hp → VK → Prop := fun x xs H Q => ∃ (p : Addr) (ys : List V) (y : V), x = V.ref p ∧ xs = [y] ∧ SqL K H p ys ∧ flatV y = true ∧ ys.all flatV = true ∧ Q (.int (ys.countP (fun z => eqV z y) : Nat)) H
theorem count_eqU {y : V} : ∀ {xs : List V} {us : List Value}, Vals xs us → xs.all flatV = true → us.countP (eqU y) = xs.countP fun z => eqV z y
  | _, _, .nil, _ => rfl
  | _ :: _, _ :: _, .cons r t, f => by
    rw [List.all_cons, Bool.and_eq_true] at f
    rw [List.countP_cons, List.countP_cons, count_eqU t f.2, eqU_of r f.1]
theorem mt_countV {X : Cx} : MtR X "list.count" (rCntV X.K) := by
  intro pins s σ H x xs v us Q I rx rxs h
  obtain ⟨p, ys, y, rfl, rfl, hs, fy, fys, q⟩ := h
  cases rx
  obtain ⟨u, rfl, ru⟩ := rxs.one
  obtain ⟨its, rv, ⟨⟨cls, dd, data, sl⟩, n, ho, hc, hdn, hd⟩, hlen⟩ := I.list hs
  simp only at hc hd
  subst hc hd
  refine call_meets PySem.F.slot_list_count ⟨_, ho, rfl⟩ PySem.F.entry_list_count (PySem.F.args_list_count_2 _ _)
    (SeqAt.list_countAt p its.toArray n dd sl u (eqU y)) ⟨ho, fun w hw => mem_eqAt ru fy rv fys w (by simpa using hw), ?_⟩
  have ec : its.toArray.toList.countP (eqU y) = ys.countP fun z => eqV z y := count_eqU rv fys
  refine ⟨.int (ys.countP (fun z => eqV z y) : Nat), H, I.tok _, ⟨s.toks, ?_⟩, q⟩
  show Value.int ((its.toArray.toList.countP (eqU y) : Nat) : Int) s.toks = _
  rw [ec]
/-- isinstance of the exception that stands pinned -/
theorem call_isP {X : Cx} {a D : Addr} {oe : Obj} (hp : (a, oe) ∈ X.pn) (C : ExcC X.K D) (hz : Zc (.ref D) none oe) (hf : ∃ vs, oe.data = .fields vs) : CallR X (.builtin "isinstance") (rIsE X.K D a) := by
  intro pins s σ H xs us Q I r h
  obtain ⟨c, cv, b, rfl, hcv, e, q⟩ := h
  obtain ⟨u1, u2, rfl, r1, r2⟩ := vals2 r
  cases (show u1 = Value.ref a from r1)
  cases hcv _ r2
  obtain ⟨hget, _⟩ := I.pin (a, oe) (List.mem_append_left _ hp)
  obtain ⟨vs, hv⟩ := hf
  have J : PySem.W.InstAt s.heap a oe D none := by
    obtain ⟨oc, od, oda, osl⟩ := oe
    obtain ⟨h1, h2⟩ := hz
    dsimp only at h1 h2 hv
    subst h1 h2 hv
    exact ⟨hget, rfl, rfl, trivial⟩
  exact PySem.W.kia_one (PySem.W.handS_kitx_exc C.hg C.hk C.hs C.hd C.ha C.hn C.ht C.hm) I.kIn J e (fun z => nomatch z) fun tk => ⟨.bl b, H, I.kept (t' := tk) fun _ _ z => z, rfl, q⟩
/-- what such a def promises: of the exception at a, of the class at D -/
abbrev SpE := Addr → Addr → Sp
structure ExIs (D : Addr) (p : Addr × Obj) : Prop where
  z : Zc (.ref D) none p.2
  f : ∃ vs, p.2.data = .fields vs
structure FnE (P : Program) (w : World) (K : PySem.W.Frag) (mg : Str → Option Value) (base : Heap) (k : Nat) (f : Addr) (fd : FuncData) (ps : List Str) (sp : SpE) : Prop where
  len : ∀ a D vs H Q E, sp a D vs H Q E → vs.length = ps.length
  run : ∀ (A : Around) (outer : List Env) (s : Shared) (H : Hp) (args : Args) (us : List Value) (vs : List V) (Q : VK) (E : XK) (p : Addr × Obj) (D : Addr), L2H.RoomH k A → ExIs D p → L2H.PinOk outer H s p → Env0 P w K mg base A outer s H → BindsTo s fd args (ps.zip us) → Vals vs us → sp p.1 D vs H Q E →
    codeAny (model P w) A (.call (.ref f) args) (CR (L2.CX P w) outer P w H s Q E) s
theorem fn_ofE {P : Program} {w : World} {K : PySem.W.Frag} {mg : Str → Option Value} {base : Heap} {k : Nat} {f : Addr} {name qual : Str} {params : Arguments} {body : List Stmt} {scope : Scope} {dV kV doc pm cdv ct oc : Value} {an od : Option Addr}
    {osl : Array (Option Value)} {N ps : List Str} {sp : SpE} (lk : K.lookup f = some ⟨oc, od, .func (PySem.W.fnOf name qual params body scope dV kV doc pm an cdv ct), osl⟩) (hcd : PySem.W.codeIn K cdv qual = true) (S : FnScope N ps scope)
    (len : ∀ a D vs H Q E, sp a D vs H Q E → vs.length = ps.length)
    (hbody : ∀ (A : Around) (outer : List Env) (s : Shared) (H : Hp) (vs : List V) (Q : VK) (E : XK) (p : Addr × Obj) (D : Addr), ExIs D p → L2H.RoomH k (A.deeper (envOfC qual scope s.heap.objs.size f cdv)) → sp p.1 D vs H Q E →
      ∃ t, PSs (L2H.cxH (L2.CX P w) P w K mg base N qual scope f cdv A outer s H E p) body t ∧ t { nx := fun _ H' => Q .non H', rt := Q } (L2.start N vs) H) :
    FnE P w K mg base (k + 1) f (PySem.W.fnOf name qual params body scope dV kV doc pm an cdv ct) ps sp := by
  refine ⟨len, fun A outer s H args us vs Q E p D hr hex hpin e0 hb r hsp => ?_⟩
  have hl := len _ _ _ _ _ _ hsp
  have KX : K.In s.heap := e0.mod.kin.keeps fun b o e => (e0.bs b o e).1
  have lim : s.heap.NoLimit := e0.mod.nolimit.keeps fun b o e => (e0.bs b o e).1
  have hkind : ∀ y ∈ ps.zip us, scope.names.lookup y.1 = some .local ∨ (scope.names.lookup y.1 = some .cell ∧ ((cellsFrom (s.heap.objs.size + 1) scope.names []).lookup y.1).isSome = true) := fun ⟨n, v⟩ hy => by
    rcases S.par n (List.of_mem_zip hy).1 with q | q
    · exact .inl q
    · exact .inr ⟨q, PySem.W.cellsFrom_some _ _ _ (.inl q)⟩
  refine codeAny_call_function hr.depth (KX _ _ lk) rfl S.co S.gen rfl (PySem.W.codeRec_of KX hcd) (hb _ _ _ _ ?_)
  refine wpAny_newFunctionEnv_cells S.kind hkind fun env he s1 x => ?_
  subst he
  refine ⟨lim.keeps x.toInCall.keep, codeAny_func ?_⟩
  obtain ⟨t, ht, hq⟩ := hbody A outer s H vs Q E p D hex (hr.deeper _) hsp
  have I : Inv (L2H.cxH (L2.CX P w) P w K mg base N qual scope f cdv A outer s H E p) [] (L2.start N vs) H s1 := L2H.inv_startH S hpin e0 hl r x
  refine wpAny_mono (ht.run [] s1 (L2.start N vs) H _ I hq) (fun fl s' hs => ?_) fun e s' hs => hs
  have fin : ∀ {σ' : L2.St} {H' : Hp} {v : V} {u : Value}, Inv (L2H.cxH (L2.CX P w) P w K mg base N qual scope f cdv A outer s H E p) [] σ' H' s' → RelV v u → Q v H' → CE outer P w H s Q u s' :=
    fun {σ' H' v u} J rv q => ⟨v, H', J.os, J.bare, J.base, J.hok, rv, q⟩
  cases fl with
  | ret u =>
    obtain ⟨v, σ', H', J, rv, q⟩ := hs
    exact fin J rv q
  | next =>
    obtain ⟨σ', H', J, q⟩ := hs
    exact fin (v := V.non) (u := Value.none) J rfl q
  | brk =>
    obtain ⟨_, _, _, q⟩ := hs
    exact False.elim q
  | cont =>
    obtain ⟨_, _, _, q⟩ := hs
    exact False.elim q
theorem fun_okE {P : Program} {w : World} {K : PySem.W.Frag} {mg : Str → Option Value} {base : Heap} {x qual : Str} {st : Stmt} {f : Addr} {fd : FuncData} {N ps : List Str} {k : Nat} {sp : SpE} (F : Fun K x qual st f fd) (S : FnScope N ps (defScope st)) (len : ∀ a D vs H Q E, sp a D vs H Q E → vs.length = ps.length)
    (hbody : ∀ (cdv : Value) (A : Around) (outer : List Env) (s : Shared) (H : Hp) (vs : List V) (Q : VK) (E : XK) (p : Addr × Obj) (D : Addr), ExIs D p → L2H.RoomH k (A.deeper (envOfC qual (defScope st) s.heap.objs.size f cdv)) → sp p.1 D vs H Q E →
      ∃ t, PSs (L2H.cxH (L2.CX P w) P w K mg base N qual (defScope st) f cdv A outer s H E p) (defBody st) t ∧ t { nx := fun _ H' => Q .non H', rt := Q } (L2.start N vs) H) : FnE P w K mg base (k + 1) f fd ps sp := by
  obtain ⟨oc, od, kV, doc, pm, an, cdv, ct, osl, rfl, lk, hcd⟩ := F.ex
  exact fn_ofE lk hcd S len fun A outer s H vs Q E p D hex hr hsp => hbody cdv A outer s H vs Q E p D hex hr hsp
structure CalleeE (P : Program) (w : World) (K : PySem.W.Frag) (mg : Str → Option Value) (base : Heap) (k : Nat) (x : Str) (ps : List Str) (sp : SpE) : Prop where
  ex : ∃ (f : Addr) (fd : FuncData), FnE P w K mg base k f fd ps sp ∧ mg x = some (.ref f) ∧ PySem.W.keepIn K (.ref f) = true ∧ Binds K fd ps []
theorem CalleeE.mk' {P : Program} {w : World} {K : PySem.W.Frag} {mg : Str → Option Value} {base : Heap} {k : Nat} {x : Str} {ps : List Str} {sp : SpE} {f : Addr} {fd : FuncData} (F : FnE P w K mg base k f fd ps sp) (hm : mg x = some (.ref f)) (hk : PySem.W.keepIn K (.ref f) = true) (hb : Binds K fd ps []) :
    CalleeE P w K mg base k x ps sp := ⟨f, fd, F, hm, hk, hb⟩
/-- f(e) in the suite that holds the exception at a -/
def tCallE (a : Addr) (cls : Value) (d : Option Addr) (sp : SpE) (t : TA) : TE := fun σ H Q => t σ H fun vs H1 => ∃ D, cls = .ref D ∧ d = none ∧ sp a D vs H1 Q (fun _ _ _ => False)
theorem pe_callE {X : Cx} {j k : Nat} {x : Str} {ps : List Str} {sp : SpE} {e : Expr} {es : List Expr} {t : TA} {q pos : Pos} {a : Addr} {oe : Obj} {cls : Value} {d : Option Addr} {pn : List (Addr × Obj)} (c : CalleeE X.prog X.w X.K X.mg X.base k x ps sp) (hr : Room j X.A) (hk : k ≤ j)
    (hz : Zc cls d oe) (hf : ∃ vs, oe.data = .fields vs) (ha : PA (X.suite a ((a, oe) :: pn)) (e :: es) t) (hg : Gl X x := by rfl) (hdb : (x == ("__debug__" : Str)) = false := by decide)
    (he : starEach (e :: es) X.env = (false, eval e X.env) :: starEach es X.env := by rfl) (hpl : (backTo pos (starEach es X.env)).any (·.1) = false := by rfl) :
    PE (X.suite a ((a, oe) :: pn)) (.Call (.Name x q) (e :: es) [] pos) (tCallE a cls d sp t) := by
  obtain ⟨f, fd, F, hm, hkp, hb⟩ := c
  refine ⟨fun pins s σ H Q I h => ?_⟩
  refine wpAny_Call_Name_kw (ld_glob (X := X.suite a ((a, oe) :: pn)) I hg hm ?_ hdb)
  refine PySem.W.callWith_K (h₀ := X.base) I.ok.mod.kin hkp (thn (ha.run pos pins s σ H _ I h) fun us s1 ⟨vs, H1, I1, r, D, ec, ed, hsp⟩ => ⟨I1.kIn, ?_⟩) he hpl
  subst ec ed
  have hl : us.length = ps.length := by rw [← r.length]; exact F.len _ _ _ _ _ _ hsp
  have b := hb s1 us I1.kIn (by rw [List.append_nil]; exact hl)
  rw [List.append_nil] at b
  have P1 := I1.pin (a, oe) (List.mem_append_left _ List.mem_cons_self)
  have hpin : L2H.PinOk X.stack H1 s1 (a, oe) := ⟨P1.1, P1.2.1, fun hm => (List.mem_cons.mp (I1.stkSub a hm)).elim P1.2.2.1 P1.2.2.2.1, P1.2.2.2.2⟩
  have hrH : L2H.RoomH k (X.A.mark (some (.ref a))) := ⟨by have := hr.dp; show X.A.depth + 3 * k + 5 < _; omega, by have := hr.un; show X.A.units + 16 * k + 200 < _; omega⟩
  refine wpAny_call (codeAny_mono (F.run _ X.stack s1 H1 ⟨us, []⟩ us vs Q _ (a, oe) D hrH ⟨hz, hf⟩ hpin I1.env0 b r hsp) fun rr s' hq => ?_)
  cases rr with
  | error ee => exact passAt (X := X.suite a ((a, oe) :: pn)) (W := fun _ _ _ _ => False) takes0 σ pins H1 s1 ee s' I1 hq
  | ok fl =>
    cases fl with
    | ret u => exact I1.after hq
    | next => exact False.elim hq
    | brk => exact False.elim hq
    | cont => exact False.elim hq
end CB
namespace CB
open PySem PySem.Spec PyProof.Rows L2
abbrev s_asked_frame : Stmt := top 12
abbrev N_asked_frame : List Str := ["ratios", "ratio"]
theorem sc_asked_frame : FnScope N_asked_frame ["ratios"] (defScope s_asked_frame) := ⟨rfl, rfl, rfl, by decide +kernel, rfl, by decide +kernel, by decide +kernel⟩
end CB

namespace CB
open PySem PySem.Spec PyProof.Rows L2
def sp_asked_frame (K : PySem.W.Frag) (mg : Str → Option Value) : Sp := fun vs H Q E => ∃ (a : Addr) (rs : List Int), vs = [.ref a] ∧ SqL K H a (rs.map V.int) ∧
  (GF rs → Q .non H) ∧ (¬ GF rs → E (.ref (ErA mg "NoFrame")) none H)
section
variable {P : Program} {w : World} {K : PySem.W.Frag} {mg : Str → Option Value} {base : Heap}
theorem ok_asked_frame {f : Addr} {fd : FuncData} (F : Fun K "asked_frame" "asked_frame" s_asked_frame f fd) (B : Bi mg) (m_MOST : ∃ t, mg "MOST" = some (.int 11 t)) (e_NoFrame : Er K mg "NoFrame") :
    FnOk P w K mg base (L2.CX P w) 1 f fd ["ratios"] (sp_asked_frame K mg) := by
  obtain ⟨tM, m_MOST⟩ := m_MOST
  refine F.okX sc_asked_frame (fun vs H Q E h => ?_) (fun cdv A outer s H vs Q E hr h => ?_)
  · obtain ⟨a, rs, rfl, _⟩ := h
    rfl
  · obtain ⟨a, rs, rfl, hS, kG, kB⟩ := h
    have tk : Takes (cxOf (L2.CX P w) P w K mg base N_asked_frame "asked_frame" (defScope s_asked_frame) f cdv A outer s H E) (fun cls d _ H => E cls d H) := takes_of rfl rfl rfl rfl
    refine ⟨_, (pss_cons (ps_if (pt_cmpR op_gt (pe_callB call_len_seq (by rfl) B.len PySem.boot_len (pa_cons (pv 0) pa_nil)) (pe_glob (v := .int 11) (by rfl) m_MOST ⟨_, rfl⟩) (nomark _)) (pss_one (ps_raise rfl tk (pmk_own PySem.F.excBase_ValueError e_NoFrame.xP e_NoFrame.gC e_NoFrame.kP (raises_own e_NoFrame.bP e_NoFrame.tP) (by rfl)))) pss_nil)
  (pss_one (ps_for (passes_of rfl) rfl (pi_list (pv 0)) (pg_name (i := 1) sc_asked_frame.nd rfl (Or.inl rfl)) (pss_one (ps_if (pw_or (pt_cmpR op_lt (pv 1) pe_int (nomark _)) (pw_or1 (pt_cmpR op_gt (pv 1) pe_int (nomark _)))).pt (pss_one (ps_raise rfl tk (pmk_own PySem.F.excBase_ValueError e_NoFrame.xP e_NoFrame.gC e_NoFrame.kP (raises_own e_NoFrame.bP e_NoFrame.tP) (by rfl)))) pss_nil))))), ?_⟩
    refine ⟨_, rfl, a, _, rfl, .inl hS, _, _, rfl, rfl, _, rfl, ite2 (fun e => ?_) (fun e => ?_)⟩
    · refine kB fun g => ?_
      have e1 := of_decide_eq_true e
      rw [List.length_map] at e1
      have := g.1
      omega
    · have hl : rs.length ≤ 11 := by
        have e1 : ¬ (11 < ((rs.map V.int).length : Int)) := fun z => e (decide_eq_true z)
        rw [List.length_map] at e1
        omega
      refine ⟨_, rfl, a, rfl, ⟨_, hS⟩, for_list (K := K) (a := a) (xs := rs.map V.int) (fun i σ H' => ∃ v, σ = [some (.ref a), v] ∧ H' = H ∧ ∀ (j : Nat) (r : Int), j < i → rs[j]? = some r → 2 ≤ r ∧ r ≤ 12)
        ⟨none, rfl, rfl, fun j r hj => absurd hj (Nat.not_lt_zero _)⟩ (fun i σ H' _ ⟨_, _, e, _⟩ => by rw [e]; exact hS) ?_ ?_⟩
      · rintro i y σ H' hi ⟨v, rfl, rfl, hg⟩
        obtain ⟨z, hz, rfl⟩ := get_map hi
        have bad : ¬ (2 ≤ z ∧ z ≤ 12) → ¬ GF rs := fun h g => h (g.2 z (List.mem_of_getElem? hz))
        refine ⟨_, rfl, _, _, rfl, rfl, _, rfl, ite2 (fun e => ?_) (fun e => ?_)⟩
        · refine ite_t rfl (kB (bad ?_))
          have := of_decide_eq_true e
          omega
        · have h1 : ¬ z < 2 := fun q => e (decide_eq_true q)
          refine ⟨_, rfl, _, _, rfl, rfl, _, rfl, ite2 (fun e2 => ?_) (fun e2 => ?_)⟩
          · refine kB (bad ?_)
            have := of_decide_eq_true e2
            omega
          · have h2 : ¬ 12 < z := fun q => e2 (decide_eq_true q)
            refine ⟨_, rfl, rfl, fun j r hj hr => ?_⟩
            rcases Nat.lt_succ_iff_lt_or_eq.mp hj with q | q
            · exact hg j r q hr
            · subst q
              rw [hz] at hr
              cases hr
              omega
      · rintro σ H' ⟨v, rfl, rfl, hg⟩
        rw [List.length_map] at hg
        refine kG ⟨hl, fun r hr => ?_⟩
        obtain ⟨j, hj, e⟩ := List.getElem_of_mem hr
        exact hg j r hj (by rw [List.getElem?_eq_getElem hj, e])
end
end CB
namespace CB
open PySem PySem.Spec PyProof.Rows L2
abbrev s_asked_board : Stmt := top 13
abbrev N_asked_board : List Str := ["ratios", "board", "counters"]
theorem sc_asked_board : FnScope N_asked_board ["ratios", "board"] (defScope s_asked_board) := ⟨rfl, rfl, rfl, by decide +kernel, rfl, by decide +kernel, by decide +kernel⟩
end CB

namespace CB
open PySem PySem.Spec PyProof.Rows L2
def sp_asked_board (K : PySem.W.Frag) (mg : Str → Option Value) : Sp := fun vs H Q E => ∃ (a b : Addr) (rs bs : List Int), vs = [.ref a, .ref b] ∧ SqL K H a (rs.map V.int) ∧ SqL K H b (bs.map V.int) ∧
  (GF rs → GB rs bs → Q .non H) ∧ (¬ GF rs → E (.ref (ErA mg "NoFrame")) none H) ∧ (GF rs → ¬ GB rs bs → E (.ref (ErA mg "NoBoard")) none H)
section
variable {P : Program} {w : World} {K : PySem.W.Frag} {mg : Str → Option Value} {base : Heap}
theorem ok_asked_board {f : Addr} {fd : FuncData} (F : Fun K "asked_board" "asked_board" s_asked_board f fd) (B : Bi mg) (e_NoBoard : Er K mg "NoBoard") (c_asked_frame : Callee P w K mg base 1 "asked_frame" ["ratios"] (sp_asked_frame K mg)) :
    FnOk P w K mg base (L2.CX P w) 2 f fd ["ratios", "board"] (sp_asked_board K mg) := by
  refine F.okX sc_asked_board (fun vs H Q E h => ?_) (fun cdv A outer s H vs Q E hr h => ?_)
  · obtain ⟨a, b, rs, bs, rfl, _⟩ := h
    rfl
  · obtain ⟨a, b, rs, bs, rfl, hA, hB, kG, kF, kB⟩ := h
    have tk : Takes (cxOf (L2.CX P w) P w K mg base N_asked_board "asked_board" (defScope s_asked_board) f cdv A outer s H E) (fun cls d _ H => E cls d H) := takes_of rfl rfl rfl rfl
    refine ⟨_, (pss_cons (ps_expr (pe_f c_asked_frame hr (by decide) tk (pa_cons (pv 0) pa_nil)))
  (pss_cons (ps_if (pt_cmpR op_ne (pe_callB call_len_seq (by rfl) B.len PySem.boot_len (pa_cons (pv 1) pa_nil)) (pe_op op_add (pe_callB call_len_seq (by rfl) B.len PySem.boot_len (pa_cons (pv 0) pa_nil)) pe_int) (nomark _)) (pss_one (ps_raise rfl tk (pmk_own PySem.F.excBase_ValueError e_NoBoard.xP e_NoBoard.gC e_NoBoard.kP (raises_own e_NoBoard.bP e_NoBoard.tP) (by rfl)))) pss_nil)
  (pss_one (ps_for (passes_of rfl) rfl (pi_list (pv 1)) (pg_name (i := 2) sc_asked_board.nd rfl (Or.inl rfl)) (pss_one (ps_if (pt_cmpR op_lt (pv 2) pe_int (nomark _)) (pss_one (ps_raise rfl tk (pmk_own PySem.F.excBase_ValueError e_NoBoard.xP e_NoBoard.gC e_NoBoard.kP (raises_own e_NoBoard.bP e_NoBoard.tP) (by rfl)))) pss_nil)))))), ?_⟩
    refine ⟨_, rfl, a, rs, rfl, hA, fun g => ?_, kF⟩
    refine ⟨_, rfl, b, _, rfl, .inl hB, _, rfl, a, _, rfl, .inl hA, _, _, rfl, rfl, rfl, _, rfl, ?_⟩
    rw [List.length_map, List.length_map]
    by_cases hl : bs.length = rs.length + 1
    · refine ite_f (by simp [hl]) ?_
      refine ⟨_, rfl, b, rfl, ⟨_, hB⟩, for_list (K := K) (a := b) (xs := bs.map V.int) (fun i σ H' => ∃ v, σ = [some (.ref a), some (.ref b), v] ∧ H' = H ∧ ∀ (j : Nat) (r : Int), j < i → bs[j]? = some r → 0 ≤ r)
        ⟨none, rfl, rfl, fun j r hj => absurd hj (Nat.not_lt_zero _)⟩ (fun i σ H' _ ⟨_, _, e, _⟩ => by rw [e]; exact hB) ?_ ?_⟩
      · rintro i y σ H' hi ⟨v, rfl, rfl, hg⟩
        obtain ⟨z, hz, rfl⟩ := get_map hi
        refine ⟨_, rfl, _, _, rfl, rfl, _, rfl, ite2 (fun e => ?_) (fun e => ?_)⟩
        · refine kB g fun q => ?_
          have h1 := q.2 z (List.mem_of_getElem? hz)
          have := of_decide_eq_true e
          omega
        · have h1 : ¬ z < 0 := fun q => e (decide_eq_true q)
          refine ⟨_, rfl, rfl, fun j r hj hr => ?_⟩
          rcases Nat.lt_succ_iff_lt_or_eq.mp hj with q | q
          · exact hg j r q hr
          · subst q
            rw [hz] at hr
            cases hr
            omega
      · rintro σ H' ⟨v, rfl, rfl, hg⟩
        rw [List.length_map] at hg
        refine kG g ⟨hl, fun r hr => ?_⟩
        obtain ⟨j, hj, e⟩ := List.getElem_of_mem hr
        exact hg j r hj (by rw [List.getElem?_eq_getElem hj, e])
    · refine ite_t ?_ (kB g fun q => hl q.1)
      have : ¬ ((bs.length : Int) = (rs.length : Int) + 1) := by omega
      simp [this]
end
end CB
namespace CB
open PySem PySem.Spec PyProof.Rows L2
abbrev s_worths : Stmt := top 14
abbrev N_worths : List Str := ["ratios", "found", "ratio"]
theorem sc_worths : FnScope N_worths ["ratios"] (defScope s_worths) := ⟨rfl, rfl, rfl, by decide +kernel, rfl, by decide +kernel, by decide +kernel⟩
end CB

namespace CB
open PySem PySem.Spec PyProof.Rows L2
def sp_worths (K : PySem.W.Frag) (mg : Str → Option Value) : Sp := fun vs H Q E => ∃ (a : Addr) (rs : List Int), vs = [.ref a] ∧ SqL K H a (rs.map V.int) ∧
  (GF rs → TellL H Q ((worthsL rs).map V.int)) ∧ (¬ GF rs → E (.ref (ErA mg "NoFrame")) none H)
theorem worths_take (rs : List Int) (i : Nat) (h : i ≤ rs.length) : worthsL (rs.take i) = (List.range i).map (fun k => prodL (rs.take k)) ++ [prodL (rs.take i)] := by
  unfold worthsL
  rw [List.length_take, Nat.min_eq_left h, List.range_succ, List.map_append]
  congr 1
  · refine List.map_congr_left fun k hk => ?_
    rw [List.take_take, Nat.min_eq_left (Nat.le_of_lt (List.mem_range.mp hk))]
  · rw [List.map_singleton, List.take_take, Nat.min_self]
theorem worths_more (rs : List Int) (i : Nat) (r : Int) (h : rs[i]? = some r) : worthsL (rs.take (i + 1)) = worthsL (rs.take i) ++ [prodL (rs.take i) * r] := by
  obtain ⟨hi, _⟩ := List.getElem?_eq_some_iff.mp h
  rw [worths_take rs (i + 1) hi, worths_take rs i (Nat.le_of_lt hi), List.range_succ, List.map_append, List.map_singleton, take_more h, prodL_snoc]
theorem worths_len (rs : List Int) : (worthsL rs).length = rs.length + 1 := by
  unfold worthsL
  rw [List.length_map, List.length_range]
section
variable {P : Program} {w : World} {K : PySem.W.Frag} {mg : Str → Option Value} {base : Heap}
theorem ok_worths {f : Addr} {fd : FuncData} (F : Fun K "worths" "worths" s_worths f fd) (B : Bi mg) (c_asked_frame : Callee P w K mg base 1 "asked_frame" ["ratios"] (sp_asked_frame K mg)) :
    FnOk P w K mg base (L2.CX P w) 2 f fd ["ratios"] (sp_worths K mg) := by
  refine F.okX sc_worths (fun vs H Q E h => ?_) (fun cdv A outer s H vs Q E hr h => ?_)
  · obtain ⟨a, rs, rfl, _⟩ := h
    rfl
  · obtain ⟨a, rs, rfl, hS, kG, kB⟩ := h
    have tk : Takes (cxOf (L2.CX P w) P w K mg base N_worths "worths" (defScope s_worths) f cdv A outer s H E) (fun cls d _ H => E cls d H) := takes_of rfl rfl rfl rfl
    refine ⟨_, (pss_cons (ps_expr (pe_f c_asked_frame hr (by decide) tk (pa_cons (pv 0) pa_nil)))
  (pss_cons (ps_set (i := 1) sc_worths.nd rfl (Or.inl rfl) (pe_lst (pa_cons pe_int pa_nil)))
  (pss_cons (ps_for (passes_of rfl) rfl (pi_list (pv 0)) (pg_name (i := 2) sc_worths.nd rfl (Or.inl rfl)) (pss_one (ps_expr (pe_bm PySem.F.plainAttrs_list PySem.F.slot_list_append PySem.F.type_list_append mt_append (pv 1) (pa_cons (pe_op op_mulW (pe_ix ix_list (pv 1) (pe_un un_neg pe_int) (fun _ _ => rfl)) (pv 2)) pa_nil)))))
  (pss_one (ps_ret (pv 1)))))), ?_⟩
    refine ⟨.ref a, rfl, a, rs, rfl, hS, fun g => ?_, kB⟩
    refine ⟨by show 1 ≤ sizeLine; decide, fun p hp => ?_⟩
    have hpa : SqL K (upd H p (.lst [.int 1])) a (rs.map V.int) := (same_upd hp).seq hS
    refine ⟨_, rfl, a, rfl, ⟨_, hpa⟩, for_list (K := K) (a := a) (xs := rs.map V.int) (fun i σ H' => ∃ v, σ = [some (.ref a), some (.ref p), v] ∧ Same H H' ∧ H' p = some (.lst ((worthsL (rs.take i)).map V.int)))
        ⟨none, rfl, same_upd hp, upd_same⟩ (fun i σ H' _ ⟨_, _, e, _⟩ => e.seq hS) ?_ ?_⟩
    · rintro i y σ H' hi ⟨v, rfl, sm, hp'⟩
      obtain ⟨z, hz, rfl⟩ := get_map hi
      obtain ⟨hil, _⟩ := List.getElem?_eq_some_iff.mp hz
      have hil' : i ≤ 11 := by have := g.1; omega
      have e1 : (worthsL (rs.take i)).map V.int = ((List.range i).map (fun k => prodL (rs.take k))).map V.int ++ [.int (prodL (rs.take i))] := by
        rw [worths_take rs i (Nat.le_of_lt hil), List.map_append]
        all_goals rfl
      have gz := g.2 z (List.mem_of_getElem? hz)
      have gp := prodL_lt (l := rs.take i) (fun r hr => g.2 r (List.mem_of_mem_take hr)) (by rw [List.length_take]; omega)
      refine ⟨_, rfl, .inl ⟨rfl, _, SqL.of hp'⟩, _, rfl, _, rfl, p, _, -1, .int (prodL (rs.take i)), rfl, rfl, SqL.of hp', by rw [e1]; exact atI_last _ _, .int z, rfl, _, _, rfl, rfl, ?_, p, _, _, rfl, rfl, hp', ?_, ?_⟩
      · exact wide_mul (a := 40) (b := 40) (abs_lt_pow (by omega) gp.2) (abs_lt_pow (by omega) (by omega)) (by decide) (by decide) (by decide)
      · rw [List.length_map, worths_len, List.length_take]
        exact small64 (by omega)
      · refine ⟨some (.int z), rfl, fun b o e => ?_, ?_⟩
        · rw [upd_ne (ne_of_none e hp)]
          exact sm b o e
        · rw [upd_same, worths_more rs i z hz, List.map_append]
          all_goals rfl
    · rintro σ H' ⟨v, rfl, sm, hp'⟩
      rw [List.length_map, List.take_length] at hp'
      exact ⟨_, rfl, kG g H' p sm hp hp'⟩
end
end CB
namespace CB
open PySem PySem.Spec PyProof.Rows L2
abbrev s_worth : Stmt := top 15
abbrev N_worth : List Str := ["ratios", "board", "counters", "one"]
theorem sc_worth : FnScope N_worth ["ratios", "board"] (defScope s_worth) := ⟨rfl, rfl, rfl, by decide +kernel, rfl, by decide +kernel, by decide +kernel⟩
end CB

namespace CB
open PySem PySem.Spec PyProof.Rows L2
def sp_worth (K : PySem.W.Frag) (mg : Str → Option Value) : Sp := fun vs H Q E => ∃ (a b : Addr) (rs bs : List Int), vs = [.ref a, .ref b] ∧ SqL K H a (rs.map V.int) ∧ SqL K H b (bs.map V.int) ∧
  (GF rs → GB rs bs → BS bs ∧ TellV H Q (.int (W rs bs))) ∧ (¬ GF rs → E (.ref (ErA mg "NoFrame")) none H) ∧ (GF rs → ¬ GB rs bs → E (.ref (ErA mg "NoBoard")) none H)
section
variable {P : Program} {w : World} {K : PySem.W.Frag} {mg : Str → Option Value} {base : Heap}
theorem ok_worth {f : Addr} {fd : FuncData} (F : Fun K "worth" "worth" s_worth f fd) (B : Bi mg) (c_asked_board : Callee P w K mg base 2 "asked_board" ["ratios", "board"] (sp_asked_board K mg))
    (c_worths : Callee P w K mg base 2 "worths" ["ratios"] (sp_worths K mg)) :
    FnOk P w K mg base (L2.CX P w) 3 f fd ["ratios", "board"] (sp_worth K mg) := by
  refine F.okX sc_worth (fun vs H Q E h => ?_) (fun cdv A outer s H vs Q E hr h => ?_)
  · obtain ⟨a, b, rs, bs, rfl, _⟩ := h
    rfl
  · obtain ⟨a, b, rs, bs, rfl, hA, hB, kG, kF, kB⟩ := h
    have tk : Takes (cxOf (L2.CX P w) P w K mg base N_worth "worth" (defScope s_worth) f cdv A outer s H E) (fun cls d _ H => E cls d H) := takes_of rfl rfl rfl rfl
    refine ⟨_, (pss_cons (ps_expr (pe_f c_asked_board hr (by decide) tk (pa_cons (pv 0) (pa_cons (pv 1) pa_nil))))
  (pss_one (ps_ret (pe_callB (cr_sum rfl) (by rfl) B.sum (by decide +kernel) (pa_cons (pe_lc (own := [("counters", 2), ("one", 3)]) (g := gTup K 2 (gCons (gName 2) (gCons (gName 3) gNil))) (tt := tYes) rfl sc_worth.nd (pi_zip (by rfl) B.zip (pa_cons (pv 1) (pa_cons (pe_f c_worths hr (by decide) tk (pa_cons (pv 0) pa_nil)) pa_nil))) (blkOk_by (own := [("counters", 2), ("one", 3)]) (N := N_worth) (sc := defScope s_worth) (by decide +kernel)) (fun _ _ _ _ _ => pg_tup rfl (pgs_cons (pg_name (i := 2) sc_worth.nd rfl (Or.inl rfl)) (pgs_cons (pg_name (i := 3) sc_worth.nd rfl (Or.inl rfl)) pgs_nil))) (fun _ _ _ _ _ => pts_nil) (fun _ _ _ _ _ => (pe_op op_mulW (pv 2) (pv 3)))) pa_nil))))), ?_⟩
    refine ⟨_, rfl, _, rfl, a, b, rs, bs, rfl, hA, hB, fun g gb => ?_, kF, kB⟩
    obtain ⟨hs, k⟩ := kG g gb
    refine ⟨_, rfl, _, rfl, a, rs, rfl, hA, fun _ H1 p s1 n1 e1 => ?_, fun z => absurd g z⟩
    refine ⟨b, p, _, _, rfl, s1.seq hB, SqL.of e1, fun T hT => ?_⟩
    have hlen : bs.length = rs.length + 1 := gb.1
    have hl : (List.zipWith (· * ·) bs (worthsL rs)).length = rs.length + 1 := by rw [List.length_zipWith, worths_len]; omega
    refine lc_zip (K := K) (rs.length + 1) (by rw [List.length_map, List.length_map, worths_len]; omega) (Gr H1 T ((List.zipWith (· * ·) bs (worthsL rs)).map V.int)) (Gr.zero _ hT) (fun i H' gr => ⟨gr.1.seq (s1.seq hB), gr.1.seq (SqL.of e1)⟩) ?_ ?_
    · rintro i x y T' H' hx hy gr nT
      obtain ⟨z, hz, rfl⟩ := get_map hx
      obtain ⟨o, ho, rfl⟩ := get_map hy
      refine ⟨T', _, rfl, SqT.of upd_same, rfl, _, _, rfl, _, _, rfl, rfl, rfl, ?_⟩
      have ho' : ∃ k, k < rs.length + 1 ∧ o = prodL (rs.take k) := by
        have hm := List.mem_of_getElem? ho
        unfold worthsL at hm
        obtain ⟨k, hk, e⟩ := List.mem_map.mp hm
        exact ⟨k, List.mem_range.mp hk, e.symm⟩
      obtain ⟨k', hk', rfl⟩ := ho'
      have gp := prodL_lt (l := rs.take k') (fun r hr => g.2 r (List.mem_of_mem_take hr)) (by rw [List.length_take]; have := g.1; omega)
      have hz0 := gb.2 z (List.mem_of_getElem? hz)
      have hz1 := hs z (List.mem_of_getElem? hz)
      refine ⟨_, rfl, _, rfl, _, _, rfl, rfl, wide_mul (a := 200) (b := 40) (abs_lt_pow hz0 hz1) (abs_lt_pow (by omega) gp.2) (by decide) (by decide) (by decide), ?_⟩
      refine ⟨_, gr.step hT (by rw [List.length_map, hl]; have := g.1; omega) (map_get (z := z * prodL (rs.take k')) ?_) (same_upd nT)⟩
      rw [List.getElem?_zipWith, hz, ho]
    · intro H' gr
      refine ⟨T, _, rfl, SqL.of (gr.done (by rw [List.length_map, hl]; exact Nat.le_refl _)), ?_⟩
      rw [W_sum rs bs hlen]
      refine k H' fun b' o' e' => gr.1 _ _ (s1 _ _ e')
end
end CB
namespace CB
open PySem PySem.Spec PyProof.Rows L2
abbrev s_is_plain : Stmt := top 16
abbrev N_is_plain : List Str := ["ratios", "board", "counters", "ratio"]
theorem sc_is_plain : FnScope N_is_plain ["ratios", "board"] (defScope s_is_plain) := ⟨rfl, rfl, rfl, by decide +kernel, rfl, by decide +kernel, by decide +kernel⟩
end CB

namespace CB
open PySem PySem.Spec PyProof.Rows L2
def plB (rs bs : List Int) : Bool := (List.zipWith (fun b r => decide (b < r)) bs rs).all id
theorem plB_iff : ∀ rs bs : List Int, plB rs bs = true ↔ Pl rs bs
  | [], [] => by simp [plB, Pl]
  | [], _ :: _ => by simp [plB, Pl]
  | _ :: _, [] => by simp [plB, Pl]
  | r :: rs, b :: bs => by
    have := plB_iff rs bs
    unfold plB at this ⊢
    rw [List.zipWith_cons_cons, List.all_cons, Bool.and_eq_true, this]
    simp [Pl]
def sp_is_plain (K : PySem.W.Frag) (mg : Str → Option Value) : Sp := fun vs H Q E => ∃ (a b : Addr) (rs bs : List Int), vs = [.ref a, .ref b] ∧ SqL K H a (rs.map V.int) ∧ SqL K H b (bs.map V.int) ∧
  (GF rs → GB rs bs → TellV H Q (.bl (plB rs bs))) ∧ (¬ GF rs → E (.ref (ErA mg "NoFrame")) none H) ∧ (GF rs → ¬ GB rs bs → E (.ref (ErA mg "NoBoard")) none H)
section
variable {P : Program} {w : World} {K : PySem.W.Frag} {mg : Str → Option Value} {base : Heap}
theorem ok_is_plain {f : Addr} {fd : FuncData} (F : Fun K "is_plain" "is_plain" s_is_plain f fd) (B : Bi mg) (c_asked_board : Callee P w K mg base 2 "asked_board" ["ratios", "board"] (sp_asked_board K mg)) :
    FnOk P w K mg base (L2.CX P w) 3 f fd ["ratios", "board"] (sp_is_plain K mg) := by
  refine F.okX sc_is_plain (fun vs H Q E h => ?_) (fun cdv A outer s H vs Q E hr h => ?_)
  · obtain ⟨a, b, rs, bs, rfl, _⟩ := h
    rfl
  · obtain ⟨a, b, rs, bs, rfl, hA, hB, kG, kF, kB⟩ := h
    have tk : Takes (cxOf (L2.CX P w) P w K mg base N_is_plain "is_plain" (defScope s_is_plain) f cdv A outer s H E) (fun cls d _ H => E cls d H) := takes_of rfl rfl rfl rfl
    refine ⟨_, (pss_cons (ps_expr (pe_f c_asked_board hr (by decide) tk (pa_cons (pv 0) (pa_cons (pv 1) pa_nil))))
  (pss_one (ps_ret (pe_callB (cr_all rfl) (by rfl) B.all (by decide +kernel) (pa_cons (pe_lc (own := [("counters", 2), ("ratio", 3)]) (g := gTup K 2 (gCons (gName 2) (gCons (gName 3) gNil))) (tt := tYes) rfl sc_is_plain.nd (pi_zip (by rfl) B.zip (pa_cons (pv 1) (pa_cons (pv 0) pa_nil))) (blkOk_by (own := [("counters", 2), ("ratio", 3)]) (N := N_is_plain) (sc := defScope s_is_plain) (by decide +kernel)) (fun _ _ _ _ _ => pg_tup rfl (pgs_cons (pg_name (i := 2) sc_is_plain.nd rfl (Or.inl rfl)) (pgs_cons (pg_name (i := 3) sc_is_plain.nd rfl (Or.inl rfl)) pgs_nil))) (fun _ _ _ _ _ => pts_nil) (fun _ _ _ _ _ => (pe_cmpR op_lt (pv 2) (pv 3) (nomark _)))) pa_nil))))), ?_⟩
    refine ⟨_, rfl, _, rfl, a, b, rs, bs, rfl, hA, hB, fun g gb => ?_, kF, kB⟩
    have k := kG g gb
    refine ⟨_, rfl, _, rfl, b, a, _, _, rfl, hB, hA, fun T hT => ?_⟩
    have hlen : bs.length = rs.length + 1 := gb.1
    have hl : (List.zipWith (fun b r => decide (b < r)) bs rs).length = rs.length := by rw [List.length_zipWith]; omega
    refine lc_zip (K := K) rs.length (by rw [List.length_map, List.length_map]; omega) (Gr H T ((List.zipWith (fun b r => decide (b < r)) bs rs).map V.bl)) (Gr.zero _ hT) (fun i H' gr => ⟨gr.1.seq hB, gr.1.seq hA⟩) ?_ ?_
    · rintro i x y T' H' hx hy gr nT
      obtain ⟨z, hz, rfl⟩ := get_map hx
      obtain ⟨o, ho, rfl⟩ := get_map hy
      refine ⟨T', _, rfl, SqT.of upd_same, rfl, _, _, rfl, _, _, rfl, rfl, rfl, ?_⟩
      refine ⟨_, rfl, _, rfl, _, _, rfl, rfl, ?_⟩
      refine ⟨_, gr.step hT (by rw [List.length_map, hl]; have := g.1; omega) ?_ (same_upd nT)⟩
      rw [List.getElem?_map, List.getElem?_zipWith, hz, ho]
      rfl
    · intro H' gr
      refine ⟨T, _, rfl, SqL.of (gr.done (by rw [List.length_map, hl]; exact Nat.le_refl _)), ?_⟩
      exact k H' gr.1
end
end CB
namespace CB
open PySem PySem.Spec PyProof.Rows L2
abbrev s_board_of : Stmt := top 17
abbrev N_board_of : List Str := ["ratios", "number", "found", "ratio"]
theorem sc_board_of : FnScope N_board_of ["ratios", "number"] (defScope s_board_of) := ⟨rfl, rfl, rfl, by decide +kernel, rfl, by decide +kernel, by decide +kernel⟩
end CB

namespace CB
open PySem PySem.Spec PyProof.Rows L2
def sp_board_of (K : PySem.W.Frag) (mg : Str → Option Value) : Sp := fun vs H Q E => ∃ (a : Addr) (n : Int) (rs : List Int), vs = [.ref a, .int n] ∧ SqL K H a (rs.map V.int) ∧
  (GF rs → 0 ≤ n → TellL H Q ((D rs n).map V.int)) ∧ (¬ GF rs → E (.ref (ErA mg "NoFrame")) none H) ∧ (GF rs → ¬ 0 ≤ n → E (.ref (ErA mg "NoNumber")) none H)
section
variable {P : Program} {w : World} {K : PySem.W.Frag} {mg : Str → Option Value} {base : Heap}
theorem ok_board_of {f : Addr} {fd : FuncData} (F : Fun K "board_of" "board_of" s_board_of f fd) (B : Bi mg) (e_NoNumber : Er K mg "NoNumber") (c_asked_frame : Callee P w K mg base 1 "asked_frame" ["ratios"] (sp_asked_frame K mg)) :
    FnOk P w K mg base (L2.CX P w) 2 f fd ["ratios", "number"] (sp_board_of K mg) := by
  refine F.okX sc_board_of (fun vs H Q E h => ?_) (fun cdv A outer s H vs Q E hr h => ?_)
  · obtain ⟨a, n, rs, rfl, _⟩ := h
    rfl
  · obtain ⟨a, n, rs, rfl, hA, kG, kF, kB⟩ := h
    have tk : Takes (cxOf (L2.CX P w) P w K mg base N_board_of "board_of" (defScope s_board_of) f cdv A outer s H E) (fun cls d _ H => E cls d H) := takes_of rfl rfl rfl rfl
    refine ⟨_, (pss_cons (ps_expr (pe_f c_asked_frame hr (by decide) tk (pa_cons (pv 0) pa_nil)))
  (pss_cons (ps_if (pt_cmpR op_lt (pv 1) pe_int (nomark _)) (pss_one (ps_raise rfl tk (pmk_own PySem.F.excBase_ValueError e_NoNumber.xP e_NoNumber.gC e_NoNumber.kP (raises_own e_NoNumber.bP e_NoNumber.tP) (by rfl)))) pss_nil)
  (pss_cons (ps_set (i := 2) sc_board_of.nd rfl (Or.inl rfl) (pe_lst pa_nil))
  (pss_cons (ps_for (passes_of rfl) rfl (pi_list (pv 0)) (pg_name (i := 3) sc_board_of.nd rfl (Or.inl rfl)) (pss_cons (ps_expr (pe_bm PySem.F.plainAttrs_list PySem.F.slot_list_append PySem.F.type_list_append mt_append (pv 2) (pa_cons (pe_op op_mod (pv 1) (pv 3)) pa_nil)))
  (pss_one (ps_set (i := 1) sc_board_of.nd rfl (Or.inl rfl) (pe_op op_fdiv (pv 1) (pv 3))))))
  (pss_cons (ps_expr (pe_bm PySem.F.plainAttrs_list PySem.F.slot_list_append PySem.F.type_list_append mt_append (pv 2) (pa_cons (pv 1) pa_nil)))
  (pss_one (ps_ret (pv 2)))))))), ?_⟩
    refine ⟨_, rfl, a, rs, rfl, hA, fun g => ?_, kF⟩
    refine ⟨_, rfl, _, _, rfl, rfl, _, rfl, ite2 (fun e => kB g (by have := of_decide_eq_true e; omega)) (fun e => ?_)⟩
    have h0 : 0 ≤ n := by
      have : ¬ n < 0 := fun q => e (decide_eq_true q)
      omega
    have k := kG g h0
    refine ⟨by show 0 ≤ sizeLine; decide, fun p hp => ?_⟩
    have hlen : ((D rs n).map V.int).length ≤ 100000 := by rw [List.length_map, D_len]; have := g.1; omega
    refine ⟨_, rfl, a, rfl, ⟨_, (same_upd hp).seq hA⟩, for_list (K := K) (a := a) (xs := rs.map V.int) (fun i σ H' => ∃ v m, σ = [some (.ref a), some (.int m), some (.ref p), v] ∧ Gr H p ((D rs n).map V.int) i H' ∧ ∃ l, D rs n = l ++ D (rs.drop i) m ∧ l.length = i)
        ⟨none, n, rfl, Gr.zero _ hp, [], rfl, rfl⟩ (fun i σ H' _ ⟨_, _, _, gr, _⟩ => gr.1.seq hA) ?_ ?_⟩
    · rintro i y σ H' hi ⟨v, m, rfl, gr, l, e1, e2⟩
      obtain ⟨z, hz, rfl⟩ := get_map hi
      have gz := g.2 z (List.mem_of_getElem? hz)
      have e3 : rs.drop i = z :: rs.drop (i + 1) := by
        obtain ⟨hl, e⟩ := List.getElem?_eq_some_iff.mp hz
        rw [List.drop_eq_getElem_cons hl, e]
      rw [e3] at e1
      have e4 : ((D rs n).map V.int)[i]? = some (.int (m % z)) := by
        refine map_get ?_
        rw [e1, List.getElem?_append_right (by omega), e2, Nat.sub_self]
        rfl
      have st := gr.step hp hlen e4 (Same.refl H')
      refine ⟨_, rfl, .inl ⟨rfl, _, SqL.of st.1⟩, _, rfl, _, rfl, _, _, rfl, rfl, (by show 0 < z; omega), p, _, _, rfl, rfl, st.1, st.2.1, ?_⟩
      refine ⟨_, rfl, _, rfl, _, _, rfl, rfl, ⟨by omega, by omega⟩, ?_⟩
      refine ⟨some (.int z), m / z, rfl, st.2.2, l ++ [m % z], ?_, by rw [List.length_append, e2]; rfl⟩
      rw [e1, List.append_assoc]
      rfl
    · rintro σ H' ⟨v, m, rfl, gr, l, e1, e2⟩
      rw [List.length_map] at gr e1 e2
      have e3 : D (rs.drop rs.length) m = [m] := by rw [List.drop_length]; rfl
      rw [e3] at e1
      have e4 : ((D rs n).map V.int)[rs.length]? = some (.int m) := by
        refine map_get ?_
        rw [e1, List.getElem?_append_right (by omega), e2, Nat.sub_self]
        rfl
      have st := gr.step hp hlen e4 (Same.refl H')
      refine ⟨_, rfl, .inl ⟨rfl, _, SqL.of st.1⟩, _, rfl, p, _, _, rfl, rfl, st.1, st.2.1, ?_⟩
      exact ⟨_, rfl, k _ p st.2.2.1 hp (st.2.2.done (by rw [List.length_map, D_len]; exact Nat.le_refl _))⟩
end
end CB
namespace CB
open PySem PySem.Spec PyProof.Rows L2
abbrev s_plain : Stmt := top 18
abbrev N_plain : List Str := ["ratios", "board"]
theorem sc_plain : FnScope N_plain ["ratios", "board"] (defScope s_plain) := ⟨rfl, rfl, rfl, by decide +kernel, rfl, by decide +kernel, by decide +kernel⟩
end CB

namespace CB
open PySem PySem.Spec PyProof.Rows L2
def sp_plain (K : PySem.W.Frag) (mg : Str → Option Value) : Sp := fun vs H Q E => ∃ (a b : Addr) (rs bs : List Int), vs = [.ref a, .ref b] ∧ SqL K H a (rs.map V.int) ∧ SqL K H b (bs.map V.int) ∧
  (GF rs → GB rs bs → BS bs ∧ TellL H Q ((D rs (W rs bs)).map V.int)) ∧ (¬ GF rs → E (.ref (ErA mg "NoFrame")) none H) ∧ (GF rs → ¬ GB rs bs → E (.ref (ErA mg "NoBoard")) none H)
section
variable {P : Program} {w : World} {K : PySem.W.Frag} {mg : Str → Option Value} {base : Heap}
theorem ok_plain {f : Addr} {fd : FuncData} (F : Fun K "plain" "plain" s_plain f fd) (B : Bi mg) (c_board_of : Callee P w K mg base 2 "board_of" ["ratios", "number"] (sp_board_of K mg)) (c_worth : Callee P w K mg base 3 "worth" ["ratios", "board"] (sp_worth K mg)) :
    FnOk P w K mg base (L2.CX P w) 4 f fd ["ratios", "board"] (sp_plain K mg) := by
  refine F.okX sc_plain (fun vs H Q E h => ?_) (fun cdv A outer s H vs Q E hr h => ?_)
  · obtain ⟨a, b, rs, bs, rfl, _⟩ := h
    rfl
  · obtain ⟨a, b, rs, bs, rfl, hA, hB, kG, kF, kB⟩ := h
    have tk : Takes (cxOf (L2.CX P w) P w K mg base N_plain "plain" (defScope s_plain) f cdv A outer s H E) (fun cls d _ H => E cls d H) := takes_of rfl rfl rfl rfl
    refine ⟨_, (pss_one (ps_ret (pe_f c_board_of hr (by decide) tk (pa_cons (pv 0) (pa_cons (pe_f c_worth hr (by decide) tk (pa_cons (pv 0) (pa_cons (pv 1) pa_nil))) pa_nil))))), ?_⟩
    refine ⟨_, rfl, _, rfl, _, rfl, a, b, rs, bs, rfl, hA, hB, fun g gb => ?_, kF, kB⟩
    obtain ⟨hs, k⟩ := kG g gb
    refine ⟨hs, fun H1 s1 => ⟨a, _, rs, rfl, s1.seq hA, fun _ _ H2 p s2 n2 e2 => k H2 p (s1.trans s2) (s1.free n2) e2, fun z => absurd g z, fun _ z => absurd (W_small g gb.2 hs).1 z⟩⟩
end
end CB
namespace CB
open PySem PySem.Spec PyProof.Rows L2
abbrev s_number_of : Stmt := top 22
abbrev N_number_of : List Str := ["figures", "sign"]
theorem sc_number_of : FnScope N_number_of ["figures"] (defScope s_number_of) := ⟨rfl, rfl, rfl, by decide +kernel, rfl, by decide +kernel, by decide +kernel⟩
end CB

namespace CB
open PySem PySem.Spec PyProof.Rows L2
/-! ### a number's figures -/
def sNum (x : Int) : Str := Str.ofString (toString x)
/-- what writes no number -/
def BadZ (z : Str) : Prop := z.length = 0 ∨ 30 < z.length ∨ ((TL.tl z)[0]? = some 48 ∧ 1 < z.length) ∨ ∃ c ∈ TL.tl z, c < 48 ∨ 57 < c
def GoodZ (z : Str) (n : Nat) : Prop := z = sNum (n : Int) ∧ z.length ≤ 30
theorem figs : TL.tl (Str.ofString "0123456789") = [48, 49, 50, 51, 52, 53, 54, 55, 56, 57] := by rw [TL.tl_ofString]; rfl
theorem in_figs (c : Nat) : c ∈ (Str.ofString "0123456789").cps.toList ↔ 48 ≤ c ∧ c ≤ 57 := by
  rw [show (Str.ofString "0123456789").cps.toList = [48, 49, 50, 51, 52, 53, 54, 55, 56, 57] from figs]
  simp only [List.mem_cons, List.not_mem_nil, or_false]
  omega
theorem num_head {n : Nat} (h : (TL.numL n)[0]? = some 48) : n = 0 := by
  induction n using Nat.strongRecOn with
  | _ n ih =>
    by_cases h10 : n < 10
    · rw [TL.numL_lt h10] at h
      simp at h
      omega
    · rw [TL.numL_step (by omega)] at h
      have hne := TL.numL_ne (n / 10)
      rw [List.getElem?_append_left (List.length_pos_iff.mpr hne)] at h
      have := ih (n / 10) (by omega) h
      omega
theorem tl_sNum (n : Nat) : TL.tl (sNum (n : Int)) = TL.numL n := TL.tl_num n
theorem good_not_bad {z : Str} {n : Nat} (h : GoodZ z n) : ¬ BadZ z := by
  obtain ⟨rfl, hl⟩ := h
  have ht := tl_sNum n
  have hlen := TL.len_tl (sNum (n : Int))
  rw [ht] at hlen
  have hne := List.length_pos_iff.mpr (TL.numL_ne n)
  rintro (h | h | ⟨h1, h2⟩ | ⟨c, hc, h⟩)
  · omega
  · omega
  · rw [ht] at h1
    have := num_head h1
    subst this
    rw [hlen] at h2
    have : (TL.numL 0).length = 1 := rfl
    omega
  · rw [ht] at hc
    have := TL.numL_digits n c hc
    omega
def sp_number_of (K : PySem.W.Frag) (mg : Str → Option Value) : Sp := fun vs H Q E => ∃ (z : Str), vs = [.str z] ∧ z.length ≤ 100000 ∧ ((∃ n, GoodZ z n ∧ Q (.int (n : Int)) H) ∨ (BadZ z ∧ E (.ref (ErA mg "NoNote")) none H))
section
variable {P : Program} {w : World} {K : PySem.W.Frag} {mg : Str → Option Value} {base : Heap}
theorem ok_number_of {f : Addr} {fd : FuncData} (F : Fun K "number_of" "number_of" s_number_of f fd) (B : Bi mg) (m_FIGURES : ∃ t, mg "FIGURES" = some (.str "0123456789" t)) (e_NoNote : Er K mg "NoNote") :
    FnOk P w K mg base (L2.CX P w) 1 f fd ["figures"] (sp_number_of K mg) := by
  obtain ⟨tf, m_FIGURES⟩ := m_FIGURES
  refine F.okX sc_number_of (fun vs H Q E h => ?_) (fun cdv A outer s H vs Q E hr h => ?_)
  · obtain ⟨z, rfl, _⟩ := h
    rfl
  · obtain ⟨z, rfl, hz, k⟩ := h
    have tk : Takes (cxOf (L2.CX P w) P w K mg base N_number_of "number_of" (defScope s_number_of) f cdv A outer s H E) (fun cls d _ H => E cls d H) := takes_of rfl rfl rfl rfl
    have kB : BadZ z → E (.ref (ErA mg "NoNote")) none H := fun hb => by
      rcases k with ⟨n, hg, _⟩ | ⟨_, h⟩
      · exact absurd hb (good_not_bad hg)
      · exact h
    have hsl : z.length ≤ sizeLine := small64' hz
    have hlen := TL.len_tl z
    refine ⟨_, (pss_cons (ps_if (pw_or (pt_cmpR op_eq (pv 0) pe_str (nomark _)) (pw_or (pt_cmpR op_gt (pe_callB call_len_str (by rfl) B.len PySem.boot_len (pa_cons (pv 0) pa_nil)) pe_int (nomark _)) (pw_or1 (pw_and (pt_cmpR op_eq (pe_ix ix_str (pv 0) pe_int (fun _ _ => rfl)) pe_str (nomark _)) (pw_and1 (pt_cmpR op_gt (pe_callB call_len_str (by rfl) B.len PySem.boot_len (pa_cons (pv 0) pa_nil)) pe_int (nomark _)))).pt))).pt (pss_one (ps_raise rfl tk (pmk_own PySem.F.excBase_ValueError e_NoNote.xP e_NoNote.gC e_NoNote.kP (raises_own e_NoNote.bP e_NoNote.tP) (by rfl)))) pss_nil)
  (pss_cons (ps_for (passes_of rfl) rfl (pi_str (pv 0)) (pg_name (i := 1) sc_number_of.nd rfl (Or.inl rfl)) (pss_one (ps_if (pt_cmpR op_notIn_sign (pv 1) (pe_glob (v := .str "0123456789") (by rfl) m_FIGURES ⟨_, rfl⟩) (by rfl)) (pss_one (ps_raise rfl tk (pmk_own PySem.F.excBase_ValueError e_NoNote.xP e_NoNote.gC e_NoNote.kP (raises_own e_NoNote.bP e_NoNote.tP) (by rfl)))) pss_nil)))
  (pss_one (ps_ret (pe_callTy call_int_str (by rfl) B.int (by decide +kernel) (pa_cons (pv 0) pa_nil)))))), ?_⟩
    have hdec : ∀ t : Str, decide (V.str z = V.str t) = decide (z = t) := fun t => by
      by_cases h : z = t
      · subst h; simp
      · have : ¬ V.str z = V.str t := fun q => h (V.str.inj q)
        simp [h, this]
    have he : z = "" ↔ z.length = 0 := by
      constructor
      · intro h; rw [h]; rfl
      · intro h
        refine TL.ext_tl ?_
        rw [hlen] at h
        rw [List.length_eq_zero_iff.mp h]
        rfl
    refine ⟨_, rfl, rfl, _, rfl, ?_⟩
    rw [hdec]
    by_cases h1 : z = ""
    · refine ite_t (decide_eq_true h1) (ite_t rfl (kB (.inl (he.mp h1))))
    refine ite_f (decide_eq_false h1) ?_
    have hpos : 0 < z.length := by
      have : ¬ z.length = 0 := fun q => h1 (he.mpr q)
      omega
    refine ⟨_, rfl, z, rfl, hsl, _, _, rfl, rfl, _, rfl, ite2 (fun e => ?_) (fun e => ?_)⟩
    · exact ite_t rfl (kB (.inr (.inl (by have := of_decide_eq_true e; omega))))
    have h2 : z.length ≤ 30 := by
      have : ¬ (30 : Int) < (z.length : Int) := fun q => e (decide_eq_true q)
      omega
    obtain ⟨c, hc⟩ : ∃ c, (TL.tl z)[0]? = some c := ⟨(TL.tl z)[0]'(by omega), List.getElem?_eq_getElem (by omega)⟩
    refine ⟨_, rfl, z, _, c, rfl, rfl, hsl, (show atI (TL.tl z) ((0 : Nat) : Int) = some c from atI_nat hc), rfl, _, rfl, ?_⟩
    have hc1 : ∀ d : Nat, ((⟨#[d]⟩ : Str) = "0") ↔ d = 48 := fun d => by
      constructor
      · intro h
        have h' : TL.tl (⟨#[d]⟩ : Str) = TL.tl (Str.ofString "0") := congrArg TL.tl h
        rw [TL.tl_ofString] at h'
        have h2 : [d] = [48] := h'
        exact (List.cons.inj h2).1
      · rintro rfl
        refine TL.ext_tl ?_
        rw [show TL.tl ("0" : Str) = ("0" : String).toList.map Char.toNat from TL.tl_ofString "0"]
        rfl
    have hdc : decide (V.str (⟨#[c]⟩ : Str) = V.str "0") = decide (c = 48) := by
      by_cases h : c = 48
      · rw [decide_eq_true h, decide_eq_true (congrArg V.str ((hc1 c).mpr h))]
      · rw [decide_eq_false h, decide_eq_false fun q => h ((hc1 c).mp (V.str.inj q))]
    rw [hdc]
    -- the signs
    have loop : ((TL.tl z)[0]? = some 48 → ¬ 1 < z.length) →
        tFor (iStr (tVar 0)) (gName 1) (tIfS (tTest (tOp (fun x y H Q => ∃ (c : Nat) (z : Str), x = .str ⟨#[c]⟩ ∧ y = .str z ∧ Q (.bl (!decide (c ∈ z.cps.toList))) H) (tVar 1) (tC (.str "0123456789")))) (fun _ σ H => E (.ref (ErA mg "NoNote")) none H) tNext)
          { nx := fun σ' H' => tRet (tCB (fun xs H Q => ∃ a n, xs = [.str a] ∧ PySem.intText? a = some n ∧ a.length ≤ 640 ∧ Q (.int n) H) (tCons (tVar 0) tNil)) { nx := fun _ H' => Q .non H', rt := Q } σ' H', rt := Q } [some (.str z), none] H := by
      intro h0
      refine ⟨_, rfl, z, rfl, for_it (walk_str (z := z)) (fun i σ' H' => ∃ v, σ' = [some (.str z), v] ∧ H' = H ∧ ∀ c ∈ (TL.tl z).take i, 48 ≤ c ∧ c ≤ 57) ⟨none, rfl, rfl, fun c hc => by simp at hc⟩ (fun _ _ _ _ _ => trivial) ?_ ?_⟩
      · rintro i x σ' H1 H2 hi ⟨v, rfl, rfl, hd⟩ ⟨rfl, d, hd1, rfl⟩
        have hd2 : (TL.tl z)[i]? = some d := by rw [← hd1]; exact Array.getElem?_toList
        refine ⟨_, rfl, d, _, rfl, rfl, _, rfl, ?_⟩
        by_cases hg : 48 ≤ d ∧ d ≤ 57
        · refine ite_f (by rw [decide_eq_true ((in_figs d).mpr hg)]; rfl) ?_
          refine ⟨_, rfl, rfl, fun e he => ?_⟩
          rw [take_more hd2] at he
          rcases List.mem_append.mp he with he | he
          · exact hd e he
          · rw [List.mem_singleton.mp he]
            exact hg
        · refine ite_t (by rw [decide_eq_false fun q => hg ((in_figs d).mp q)]; rfl) (kB (.inr (.inr (.inr ⟨d, List.mem_of_getElem? hd2, by omega⟩))))
      · rintro σ' H1 ⟨v, rfl, rfl, hd⟩
        rw [List.take_of_length_le (by simp [TL.tl])] at hd
        rcases k with ⟨n, hg, hq⟩ | ⟨hb, _⟩
        · refine ⟨_, rfl, z, (n : Int), rfl, ?_, by omega, hq⟩
          have hl : (TL.numL n).length ≤ 4300 := by
            have := TL.len_tl z
            rw [hg.1, tl_sNum, ← hg.1] at this
            omega
          rw [hg.1]
          exact TL.int_num hl
        · rcases hb with hb | hb | ⟨hb1, hb2⟩ | ⟨d, hd1, hd2⟩
          · omega
          · omega
          · exact absurd hb2 (h0 hb1)
          · have := hd d hd1
            omega
    by_cases h48 : c = 48
    · refine ite_t (decide_eq_true h48) ?_
      refine ⟨_, rfl, z, rfl, hsl, _, _, rfl, rfl, _, rfl, ite2 (fun e => ?_) (fun e => ?_)⟩
      · exact kB (.inr (.inr (.inl ⟨by rw [hc, h48], by have := of_decide_eq_true e; omega⟩)))
      · exact loop fun _ q => e (decide_eq_true (by omega))
    · refine ite_f (decide_eq_false h48) ?_
      exact loop fun q => by rw [hc] at q; exact absurd (Option.some.inj q) h48

end
end CB
namespace CB
open PySem PySem.Spec PyProof.Rows L2
/-! ### a board as a text -/
def bar : Str := Str.ofString "|"
def txt (bs : List Int) : Str := Txt.join bar (bs.reverse.map sNum)
theorem sNum_len {x : Int} (h0 : 0 ≤ x) (h1 : x < 10 ^ 30) : (sNum x).length ≤ 30 := by
  obtain ⟨n, rfl⟩ : ∃ n : Nat, x = (n : Int) := ⟨x.toNat, by omega⟩
  rw [TL.len_tl, tl_sNum]
  have e : (10 : Int) ^ 30 = ((10 ^ 30 : Nat) : Int) := by decide
  exact TL.numL_len (by decide) (by omega)
theorem sum_len {ps : List Str} (h : ∀ p ∈ ps, p.length ≤ 31) : (ps.map (·.length)).sum ≤ 31 * ps.length := by
  induction ps with
  | nil => simp
  | cons p ps ih =>
    rw [List.map_cons, List.sum_cons, List.length_cons]
    have := ih fun q hq => h q (List.mem_cons_of_mem _ hq)
    have := h p List.mem_cons_self
    omega
end CB
namespace CB
open PySem PySem.Spec PyProof.Rows L2
abbrev s_shown : Stmt := top 21
abbrev N_shown : List Str := ["ratios", "board", "counters"]
theorem sc_shown : FnScope N_shown ["ratios", "board"] (defScope s_shown) := ⟨rfl, rfl, rfl, by decide +kernel, rfl, by decide +kernel, by decide +kernel⟩
end CB

namespace CB
open PySem PySem.Spec PyProof.Rows L2
def sp_shown (K : PySem.W.Frag) (mg : Str → Option Value) : Sp := fun vs H Q E => ∃ (a b : Addr) (rs bs : List Int), vs = [.ref a, .ref b] ∧ SqL K H a (rs.map V.int) ∧ SqL K H b (bs.map V.int) ∧
  (GF rs → GB rs bs → (∀ x ∈ bs, x < 10 ^ 30) ∧ TellV H Q (.str (txt bs))) ∧ (¬ GF rs → E (.ref (ErA mg "NoFrame")) none H) ∧ (GF rs → ¬ GB rs bs → E (.ref (ErA mg "NoBoard")) none H)
section
variable {P : Program} {w : World} {K : PySem.W.Frag} {mg : Str → Option Value} {base : Heap}
theorem ok_shown {f : Addr} {fd : FuncData} (F : Fun K "shown" "shown" s_shown f fd) (B : Bi mg) (c_asked_board : Callee P w K mg base 2 "asked_board" ["ratios", "board"] (sp_asked_board K mg)) :
    FnOk P w K mg base (L2.CX P w) 3 f fd ["ratios", "board"] (sp_shown K mg) := by
  refine F.okX sc_shown (fun vs H Q E h => ?_) (fun cdv A outer s H vs Q E hr h => ?_)
  · obtain ⟨a, b, rs, bs, rfl, _⟩ := h
    rfl
  · obtain ⟨a, b, rs, bs, rfl, hA, hB, kG, kF, kB⟩ := h
    have tk : Takes (cxOf (L2.CX P w) P w K mg base N_shown "shown" (defScope s_shown) f cdv A outer s H E) (fun cls d _ H => E cls d H) := takes_of rfl rfl rfl rfl
    refine ⟨_, (pss_cons (ps_expr (pe_f c_asked_board hr (by decide) tk (pa_cons (pv 0) (pa_cons (pv 1) pa_nil))))
  (pss_one (ps_ret (pe_join pe_str (pe_lc (own := [("counters", 2)]) (g := gName 2) (tt := tYes) rfl sc_shown.nd (pi_reversed (by rfl) B.reversed (pa_cons (pv 1) pa_nil)) (blkOk_by (own := [("counters", 2)]) (N := N_shown) (sc := defScope s_shown) (by decide +kernel)) (fun _ _ _ _ _ => pg_name (i := 2) sc_shown.nd rfl (Or.inl rfl)) (fun _ _ _ _ _ => pts_nil) (fun _ _ _ _ _ => (pe_callTy call_str_int (by rfl) B.str (by decide +kernel) (pa_cons (pv 2) pa_nil)))))))), ?_⟩
    refine ⟨_, rfl, _, rfl, a, b, rs, bs, rfl, hA, hB, fun g gb => ?_, kF, kB⟩
    obtain ⟨hlt, k⟩ := kG g gb
    have hn := gb.1
    have g11 := g.1
    refine ⟨⟨_, rfl⟩, ?_⟩
    refine ⟨_, rfl, b, _, rfl, hB, fun T hT => ?_⟩
    refine lc_it (walk_rev (K := K) (a := b) (xs := bs.map V.int)) (fun i H' => Same H H' ∧ H' T = some (.lst (((bs.reverse.map sNum).take i).map V.str))) ⟨same_upd hT, upd_same⟩ (fun i H' _ sm => sm.1.seq hB) ?_ ?_
    · rintro i x H1 H2 hi ⟨sm, hD⟩ ⟨rfl, hx⟩
      obtain ⟨z, hz, rfl⟩ := get_map hx
      rw [List.length_map] at hz hi
      have hz' : bs.reverse[i]? = some z := by rw [List.getElem?_reverse hi]; exact hz
      have hm := List.mem_of_getElem? hz
      have h0 := gb.2 z hm
      have h1 := hlt z hm
      refine ⟨rfl, _, rfl, z, rfl, ?_, _, hD, ?_, fun c o q => ?_, ?_⟩
      · have h2 : z.natAbs < 2 ^ 100 := by
          have h3 : (10 : Int) ^ 30 < ((2 ^ 100 : Nat) : Int) := by decide
          omega
        rcases Nat.eq_zero_or_pos z.natAbs with hz | hz
        · rw [hz]; decide
        · have := (Nat.log2_lt (by omega)).mpr h2
          omega
      · rw [List.length_map, List.length_take, List.length_map, List.length_reverse]
        exact small64 (by omega)
      · rw [upd_ne (ne_of_none q hT)]
        exact sm _ _ q
      · rw [upd_same, take_more (x := sNum z) (by rw [List.getElem?_map, hz']; rfl), List.map_append]
        rfl
    · rintro H1 ⟨sm, hD⟩
      rw [List.take_of_length_le (by simp)] at hD
      have hl : ∀ p ∈ bs.reverse.map sNum, p.length ≤ 31 := fun p hp => by
        obtain ⟨x, hx, rfl⟩ := List.mem_map.mp hp
        have hx' := List.mem_reverse.mp hx
        have := sNum_len (gb.2 x hx') (hlt x hx')
        omega
      have hs := sum_len hl
      rw [List.length_map, List.length_reverse] at hs
      refine ⟨bar, T, bs.reverse.map sNum, rfl, rfl, .inl (SqL.of hD), ?_, k H1 sm⟩
      rw [List.length_map, List.length_reverse, show bar.length = 1 from rfl]
      omega
end
end CB
namespace CB
open PySem PySem.Spec PyProof.Rows L2
/-! ### a board's text, split again -/
theorem tl_bar : TL.tl bar = [124] := by
  unfold bar
  rw [TL.tl_ofString]
  rfl
theorem sNum_free {x : Int} (h : 0 ≤ x) : 124 ∉ TL.tl (sNum x) := by
  obtain ⟨n, rfl⟩ : ∃ n : Nat, x = (n : Int) := ⟨x.toNat, by omega⟩
  rw [tl_sNum]
  exact TL.numL_free (.inr (by decide))
theorem split_txt {bs : List Int} (hne : bs ≠ []) (h : ∀ x ∈ bs, 0 ≤ x) : Txt.split (txt bs) bar = bs.reverse.map sNum := by
  refine TL.split_join tl_bar (by decide +kernel) (fun e => hne ?_) fun p hp => ?_
  · have := congrArg List.length e
    rw [List.length_map, List.length_reverse] at this
    exact List.length_eq_zero_iff.mp this
  · obtain ⟨x, hx, rfl⟩ := List.mem_map.mp hp
    exact sNum_free (h x (List.mem_reverse.mp hx))
theorem toNat_map {bs : List Int} (h : ∀ x ∈ bs, 0 ≤ x) : (bs.map Int.toNat).map (fun n : Nat => (n : Int)) = bs := by
  rw [List.map_map]
  refine (List.map_congr_left fun x hx => ?_).trans (List.map_id _)
  have := h x hx
  show ((x.toNat : Nat) : Int) = x
  omega
theorem sNum_map {bs : List Int} (h : ∀ x ∈ bs, 0 ≤ x) : bs.map sNum = (bs.map Int.toNat).map (fun n : Nat => sNum (n : Int)) := by
  rw [List.map_map]
  refine List.map_congr_left fun x hx => ?_
  have := h x hx
  show sNum x = sNum ((x.toNat : Nat) : Int)
  congr 1
  omega
theorem str_assoc (x y z : Str) : x ++ y ++ z = x ++ (y ++ z) := TL.ext_tl (by rw [TL.tl_append, TL.tl_append, TL.tl_append, TL.tl_append, List.append_assoc])
theorem join_cons {x z : Str} {r : List Str} : Str.join bar (x :: z :: r) = x ++ bar ++ Str.join bar (z :: r) := rfl
theorem str_len (x y : Str) : (x ++ y).length = x.length + y.length := by rw [TL.len_tl, TL.len_tl x, TL.len_tl y, TL.tl_append, List.length_append]
theorem log_small {z : Int} (h0 : 0 ≤ z) (h1 : z < 10 ^ 30) : z.natAbs.log2 < 1920 := by
  have h2 : z.natAbs < 2 ^ 100 := by
    have h3 : (10 : Int) ^ 30 < ((2 ^ 100 : Nat) : Int) := by decide
    omega
  rcases Nat.eq_zero_or_pos z.natAbs with hz | hz
  · rw [hz]; decide
  · have := (Nat.log2_lt (by omega)).mpr h2
    omega
/-- what is written after i parts, and the parts that are left -/
def Writ (ps : List Str) (i : Nat) (d : Str) : Prop := (i < ps.length → d ++ Str.join bar (ps.drop i) = Str.join bar ps) ∧ (i = ps.length → d = Str.join bar ps) ∧ d.length ≤ 32 * i
theorem Writ.more {ps : List Str} {i : Nat} {d p : Str} (h : Writ ps i d) (hp : ps[i]? = some p) (hl : p.length ≤ 30) (h1 : i + 1 < ps.length) : Writ ps (i + 1) (d ++ p ++ bar) := by
  have hi : i < ps.length := by omega
  refine ⟨fun _ => ?_, fun e => by omega, ?_⟩
  · rw [← h.1 hi]
    have e1 : ps.drop i = p :: ps.drop (i + 1) := by
      obtain ⟨_, e⟩ := List.getElem?_eq_some_iff.mp hp
      rw [List.drop_eq_getElem_cons hi, e]
    have e2 : ps.drop (i + 1) = ps[i + 1] :: ps.drop (i + 1 + 1) := List.drop_eq_getElem_cons h1
    rw [e1, e2, join_cons, str_assoc, str_assoc, str_assoc]
  · rw [str_len, str_len, show bar.length = 1 from rfl]
    have := h.2.2
    omega
theorem Writ.last {ps : List Str} {i : Nat} {d p : Str} (h : Writ ps i d) (hp : ps[i]? = some p) (hl : p.length ≤ 30) (h1 : i + 1 = ps.length) : Writ ps (i + 1) (d ++ p) := by
  have hi : i < ps.length := by omega
  refine ⟨fun e => by omega, fun _ => ?_, ?_⟩
  · rw [← h.1 hi]
    have e1 : ps.drop i = [p] := by
      obtain ⟨_, e⟩ := List.getElem?_eq_some_iff.mp hp
      rw [List.drop_eq_getElem_cons hi, e, List.drop_eq_nil_of_le (by omega)]
    rw [e1]
    rfl
  · rw [str_len]
    have := h.2.2
    omega
end CB
namespace CB
open PySem PySem.Spec PyProof.Rows L2
/-! ### spoilt texts -/
theorem cut_take {xs : List V} {k : Nat} : cutV xs none (some (k : Int)) = xs.take k := by
  unfold cutV
  rw [HT.sIx_nat, HT.sIx_none, Nat.sub_zero, List.drop_zero]
  by_cases h : k ≤ xs.length
  · rw [Nat.min_eq_left h]
  · rw [Nat.min_eq_right (by omega), List.take_of_length_le (Nat.le_refl _), List.take_of_length_le (by omega)]
theorem cut_drop {xs : List V} {k : Nat} : cutV xs (some (k : Int)) none = xs.drop k := by
  unfold cutV
  rw [HT.sIx_nat, HT.sIx_none]
  by_cases h : k ≤ xs.length
  · rw [Nat.min_eq_left h, List.take_of_length_le (by rw [List.length_drop]; exact Nat.le_refl _)]
  · rw [Nat.min_eq_right (by omega), List.drop_eq_nil_of_le (Nat.le_refl _), List.drop_eq_nil_of_le (by omega), List.take_nil]
theorem join_mid (u v : Str) (C : List Str) : ∀ A : List Str, Str.join bar (A ++ (u ++ bar ++ v) :: C) = Str.join bar (A ++ u :: v :: C)
  | [] => by
    cases C with
    | nil => rfl
    | cons c C =>
      show (u ++ bar ++ v) ++ bar ++ Str.join bar (c :: C) = u ++ bar ++ (v ++ bar ++ Str.join bar (c :: C))
      rw [str_assoc, str_assoc, str_assoc, str_assoc, str_assoc]
  | [a] => by
    show a ++ bar ++ Str.join bar ([] ++ (u ++ bar ++ v) :: C) = a ++ bar ++ Str.join bar ([] ++ u :: v :: C)
    rw [join_mid u v C []]
  | a :: b :: A => by
    show a ++ bar ++ Str.join bar ((b :: A) ++ (u ++ bar ++ v) :: C) = a ++ bar ++ Str.join bar ((b :: A) ++ u :: v :: C)
    rw [join_mid u v C (b :: A)]
theorem join_len : ∀ ps : List Str, (Str.join bar ps).length ≤ (ps.map (·.length)).sum + ps.length
  | [] => Nat.zero_le _
  | [p] => by
    show p.length ≤ (p.length + 0) + 1
    omega
  | p :: q :: r => by
    have ih := join_len (q :: r)
    rw [join_cons, str_len, str_len, List.map_cons, List.sum_cons, List.length_cons, show bar.length = 1 from rfl]
    omega
theorem sum_lenM {M : Nat} {ps : List Str} (h : ∀ p ∈ ps, p.length ≤ M) : (ps.map (·.length)).sum ≤ M * ps.length := by
  induction ps with
  | nil => simp
  | cons p ps ih =>
    rw [List.map_cons, List.sum_cons, List.length_cons, Nat.mul_add]
    have := ih fun q hq => h q (List.mem_cons_of_mem _ hq)
    have := h p List.mem_cons_self
    omega
theorem goods {ps : List Str} (h : ∀ p ∈ ps, ∃ n, GoodZ p n) : ∃ ns : List Nat, ps = ns.map fun n : Nat => sNum (n : Int) := by
  induction ps with
  | nil => exact ⟨[], rfl⟩
  | cons p ps ih =>
    obtain ⟨ns, hn⟩ := ih fun q hq => h q (List.mem_cons_of_mem _ hq)
    obtain ⟨n, hg⟩ := h p List.mem_cons_self
    exact ⟨n :: ns, by rw [List.map_cons, hn, hg.1]⟩
theorem bad_char {z : Str} {c : Nat} (h : c ∈ TL.tl z) (hc : c < 48 ∨ 57 < c) : BadZ z := .inr (.inr (.inr ⟨c, h, hc⟩))
/-- one part, good or bad, with no stroke in it -/
def Part (q : Str) : Prop := 124 ∉ TL.tl q ∧ q.length ≤ 40 ∧ (BadZ q ∨ ∃ n, GoodZ q n)
/-- a text of parts that no board of n lines has -/
def Spo (n : Nat) (z : Str) : Prop := ∃ qs : List Str, z = Str.join bar qs ∧ qs ≠ [] ∧ qs.length ≤ 20 ∧ (∀ q ∈ qs, Part q) ∧ ((∃ q ∈ qs, BadZ q) ∨ qs.length ≠ n)
theorem good_part {p : Str} {n : Nat} (h : GoodZ p n) : Part p := by
  refine ⟨?_, by have := h.2; omega, .inr ⟨n, h⟩⟩
  rw [h.1]
  exact sNum_free (Int.natCast_nonneg n)
theorem good_digits {p : Str} {n : Nat} (h : GoodZ p n) : ∀ c ∈ TL.tl p, 48 ≤ c ∧ c ≤ 57 := fun c hc => by
  rw [h.1, tl_sNum] at hc
  exact TL.numL_digits n c hc
theorem good_pos {p : Str} {n : Nat} (h : GoodZ p n) : 0 < p.length := by
  rw [TL.len_tl, h.1, tl_sNum]
  exact List.length_pos_iff.mpr (TL.numL_ne n)
def someL (w : Str) : List Str := [Str.ofString "0" ++ w, Str.ofString "+" ++ w, Str.ofString "-" ++ w, w ++ Str.ofString "a", w ++ Str.ofString "_0", Str.ofString " " ++ w, w ++ Str.ofString " ", w ++ Str.ofString "\t",
  w ++ Str.ofString "\n", Str.ofString "", Str.ofString "1" ++ zeros, w ++ bar ++ w, w ++ Str.ofString ".0", w ++ bar, Str.ofString "1 0", Str.ofString "1\t0"]
section
variable {w : Str} {n : Nat}
/-- a word with another sign in it -/
theorem bad_word {z : Str} {l : List Nat} {c : Nat} (h : GoodZ w n) (ez : TL.tl z = l ++ TL.tl w ∨ TL.tl z = TL.tl w ++ l) (hc : c ∈ l) (hb : c < 48 ∨ 57 < c) (hl : ∀ d ∈ l, d ≠ 124) (hll : l.length ≤ 8) : Part z ∧ BadZ z := by
  have hd := good_digits h
  have hlw := TL.len_tl w
  have hlz := TL.len_tl z
  have h30 := h.2
  have hm : ∀ d, d ∈ TL.tl z ↔ d ∈ l ∨ d ∈ TL.tl w := fun d => by
    rcases ez with e | e
    · rw [e, List.mem_append]
    · rw [e, List.mem_append]; exact Or.comm
  have hlen : (TL.tl z).length = l.length + (TL.tl w).length := by
    rcases ez with e | e
    · rw [e, List.length_append]
    · rw [e, List.length_append]; exact Nat.add_comm _ _
  have bz : BadZ z := bad_char ((hm c).mpr (.inl hc)) hb
  refine ⟨⟨fun hx => ?_, by omega, .inl bz⟩, bz⟩
  rcases (hm 124).mp hx with hx | hx
  · exact hl _ hx rfl
  · have := hd _ hx
    omega
theorem bad_alone {z : Str} (h1 : 124 ∉ TL.tl z) (h2 : z.length ≤ 40) (h3 : BadZ z) : Part z ∧ BadZ z := ⟨⟨h1, h2, .inl h3⟩, h3⟩
theorem tlS (s : String) : TL.tl (Str.ofString s) = s.toList.map Char.toNat := TL.tl_ofString s
/-- each of the sixteen: bad, but for the two that bring a stroke -/
theorem some_bad (h : GoodZ w n) : ∀ (k : Nat) (z : Str), (someL w)[k]? = some z → k ≠ 11 → k ≠ 13 → Part z ∧ BadZ z := by
  intro k z hz h11 h13
  have hpos := good_pos h
  have hlw := TL.len_tl w
  have h30 := h.2
  match k, hz with
  | 0, e =>
    cases e
    have et : TL.tl (Str.ofString "0" ++ w) = 48 :: TL.tl w := by rw [TL.tl_append, tlS]; rfl
    have hd := good_digits h
    have hl := TL.len_tl (Str.ofString "0" ++ w)
    rw [et, List.length_cons] at hl
    refine bad_alone ?_ (by omega) (.inr (.inr (.inl ⟨by rw [et]; rfl, by omega⟩)))
    rw [et]
    intro hx
    rcases List.mem_cons.mp hx with hx | hx
    · cases hx
    · have := hd _ hx
      omega
  | 1, e => cases e; exact bad_word (l := [43]) (c := 43) h (.inl (by rw [TL.tl_append, tlS]; rfl)) (by decide) (by decide) (by decide) (by decide)
  | 2, e => cases e; exact bad_word (l := [45]) (c := 45) h (.inl (by rw [TL.tl_append, tlS]; rfl)) (by decide) (by decide) (by decide) (by decide)
  | 3, e => cases e; exact bad_word (l := [97]) (c := 97) h (.inr (by rw [TL.tl_append, tlS]; rfl)) (by decide) (by decide) (by decide) (by decide)
  | 4, e => cases e; exact bad_word (l := [95, 48]) (c := 95) h (.inr (by rw [TL.tl_append, tlS]; rfl)) (by decide) (by decide) (by decide) (by decide)
  | 5, e => cases e; exact bad_word (l := [32]) (c := 32) h (.inl (by rw [TL.tl_append, tlS]; rfl)) (by decide) (by decide) (by decide) (by decide)
  | 6, e => cases e; exact bad_word (l := [32]) (c := 32) h (.inr (by rw [TL.tl_append, tlS]; rfl)) (by decide) (by decide) (by decide) (by decide)
  | 7, e => cases e; exact bad_word (l := [9]) (c := 9) h (.inr (by rw [TL.tl_append, tlS]; rfl)) (by decide) (by decide) (by decide) (by decide)
  | 8, e => cases e; exact bad_word (l := [10]) (c := 10) h (.inr (by rw [TL.tl_append, tlS]; rfl)) (by decide) (by decide) (by decide) (by decide)
  | 9, e => cases e; exact bad_alone (by rw [tlS]; decide) (by decide) (.inl rfl)
  | 10, e =>
    cases e
    have et : TL.tl (Str.ofString "1" ++ zeros) = 49 :: List.replicate 30 48 := by rw [TL.tl_append, tlS, tl_zeros]; rfl
    have hl := TL.len_tl (Str.ofString "1" ++ zeros)
    rw [et] at hl
    have hl31 : (Str.ofString "1" ++ zeros).length = 31 := hl
    exact bad_alone (by rw [et]; decide) (by omega) (.inr (.inl (by omega)))
  | 11, _ => exact absurd rfl h11
  | 12, e => cases e; exact bad_word (l := [46, 48]) (c := 46) h (.inr (by rw [TL.tl_append, tlS]; rfl)) (by decide) (by decide) (by decide) (by decide)
  | 13, _ => exact absurd rfl h13
  | 14, e => cases e; exact bad_alone (by rw [tlS]; decide) (by decide) (bad_char (c := 32) (by rw [tlS]; decide) (by decide))
  | 15, e => cases e; exact bad_alone (by rw [tlS]; decide) (by decide) (bad_char (c := 9) (by rw [tlS]; decide) (by decide))
  | k + 16, e => cases e
/-- the sixteen texts with one word changed -/
theorem spo_word {A C : List Str} (h : GoodZ w n) (hA : ∀ p ∈ A, ∃ m, GoodZ p m) (hC : ∀ p ∈ C, ∃ m, GoodZ p m) (hl : A.length + C.length ≤ 15) {k : Nat} {z : Str} (hz : (someL w)[k]? = some z) : Spo (A.length + 1 + C.length) (Str.join bar (A ++ z :: C)) := by
  have pA : ∀ q ∈ A, Part q := fun q hq => by obtain ⟨m, hm⟩ := hA q hq; exact good_part hm
  have pC : ∀ q ∈ C, Part q := fun q hq => by obtain ⟨m, hm⟩ := hC q hq; exact good_part hm
  by_cases h11 : k = 11
  · subst h11
    cases hz
    refine ⟨A ++ w :: w :: C, join_mid w w C A, by simp, by simp only [List.length_append, List.length_cons]; omega, fun q hq => ?_, .inr (by simp only [List.length_append, List.length_cons]; omega)⟩
    simp only [List.mem_append, List.mem_cons] at hq
    rcases hq with hq | rfl | rfl | hq
    · exact pA q hq
    · exact good_part h
    · exact good_part h
    · exact pC q hq
  · by_cases h13 : k = 13
    · subst h13
      cases hz
      have e : w ++ bar = w ++ bar ++ Str.ofString "" := TL.ext_tl (by
        rw [TL.tl_append (w ++ bar)]
        rw [tlS]
        exact (List.append_nil _).symm)
      have be : Part (Str.ofString "") ∧ BadZ (Str.ofString "") := bad_alone (by rw [tlS]; decide) (by decide) (.inl rfl)
      refine ⟨A ++ w :: Str.ofString "" :: C, by rw [e]; exact join_mid w _ C A, by simp, by simp only [List.length_append, List.length_cons]; omega, fun q hq => ?_, .inl ⟨Str.ofString "", by simp, be.2⟩⟩
      simp only [List.mem_append, List.mem_cons] at hq
      rcases hq with hq | rfl | rfl | hq
      · exact pA q hq
      · exact good_part h
      · exact be.1
      · exact pC q hq
    · obtain ⟨p1, p2⟩ := some_bad h k z hz h11 h13
      refine ⟨A ++ z :: C, rfl, by simp, by simp only [List.length_append, List.length_cons]; omega, fun q hq => ?_, .inl ⟨z, by simp, p2⟩⟩
      simp only [List.mem_append, List.mem_cons] at hq
      rcases hq with hq | rfl | hq
      · exact pA q hq
      · exact p1
      · exact pC q hq
/-- a line too few -/
theorem spo_few {A C : List Str} (hA : ∀ p ∈ A, ∃ m, GoodZ p m) (hC : ∀ p ∈ C, ∃ m, GoodZ p m) (hl : A.length + C.length ≤ 15) : Spo (A.length + 1 + C.length) (Str.join bar (A ++ C)) := by
  by_cases he : A ++ C = []
  · have be : Part (Str.ofString "") ∧ BadZ (Str.ofString "") := bad_alone (by rw [tlS]; decide) (by decide) (.inl rfl)
    refine ⟨[Str.ofString ""], by rw [he]; exact TL.ext_tl (by rw [show Str.join bar [Str.ofString ""] = Str.ofString "" from rfl, tlS]; rfl), by simp, by simp, fun q hq => ?_, .inl ⟨_, List.mem_singleton.mpr rfl, be.2⟩⟩
    rw [List.mem_singleton.mp hq]
    exact be.1
  · refine ⟨A ++ C, rfl, he, by rw [List.length_append]; omega, fun q hq => ?_, .inr (by rw [List.length_append]; omega)⟩
    rcases List.mem_append.mp hq with hq | hq
    · obtain ⟨m, hm⟩ := hA q hq; exact good_part hm
    · obtain ⟨m, hm⟩ := hC q hq; exact good_part hm
theorem seven : GoodZ (Str.ofString "7") 7 := ⟨rfl, by decide⟩
/-- a line too many -/
theorem spo_many {A C : List Str} (hA : ∀ p ∈ A, ∃ m, GoodZ p m) (hC : ∀ p ∈ C, ∃ m, GoodZ p m) (hl : A.length + C.length ≤ 15) : Spo (A.length + C.length) (Str.join bar (A ++ Str.ofString "7" :: C)) := by
  refine ⟨A ++ Str.ofString "7" :: C, rfl, by simp, by simp only [List.length_append, List.length_cons]; omega, fun q hq => ?_, .inr (by simp only [List.length_append, List.length_cons]; omega)⟩
  simp only [List.mem_append, List.mem_cons] at hq
  rcases hq with hq | rfl | hq
  · obtain ⟨m, hm⟩ := hA q hq; exact good_part hm
  · exact good_part seven
  · obtain ⟨m, hm⟩ := hC q hq; exact good_part hm
theorem someL_len (h : GoodZ w n) : ∀ z ∈ someL w, z.length ≤ 61 := by
  intro z hz
  have h30 := h.2
  have hb : bar.length = 1 := rfl
  have hz0 : zeros.length = 30 := by rw [TL.len_tl, tl_zeros]; rfl
  simp only [someL, List.mem_cons, List.not_mem_nil, or_false] at hz
  have l1 : ∀ s : String, (Str.ofString s).length = s.toList.length := fun s => by rw [TL.len_tl, tlS, List.length_map]
  rcases hz with rfl | rfl | rfl | rfl | rfl | rfl | rfl | rfl | rfl | rfl | rfl | rfl | rfl | rfl | rfl | rfl
  all_goals simp only [str_len, l1, hz0, hb]
  all_goals first
    | (show _ + w.length ≤ 61; have : ∀ a : Nat, a ≤ 5 → a + w.length ≤ 61 := fun a ha => (by omega); exact this _ (by decide))
    | (show w.length + _ ≤ 61; have : ∀ a : Nat, a ≤ 5 → w.length + a ≤ 61 := fun a ha => (by omega); exact this _ (by decide))
    | decide
    | omega
end
end CB
namespace CB
open PySem PySem.Spec PyProof.Rows L2
abbrev s_read : Stmt := top 23
abbrev N_read : List Str := ["ratios", "text", "found", "part"]
theorem sc_read : FnScope N_read ["ratios", "text"] (defScope s_read) := ⟨rfl, rfl, rfl, by decide +kernel, rfl, by decide +kernel, by decide +kernel⟩
end CB

namespace CB
open PySem PySem.Spec PyProof.Rows L2
/-! ### a board read -/
def sp_read (K : PySem.W.Frag) (mg : Str → Option Value) : Sp := fun vs H Q E => ∃ (a : Addr) (z : Str) (rs : List Int) (ps : List Str), vs = [.ref a, .str z] ∧ SqL K H a (rs.map V.int) ∧ z.length ≤ 100000 ∧ Txt.split z bar = ps ∧ ps.length ≤ 100000 ∧ (∀ p ∈ ps, p.length ≤ 100000) ∧
  (¬ GF rs → E (.ref (ErA mg "NoFrame")) none H) ∧
  (GF rs → (∃ ns : List Nat, ps = ns.map (fun n : Nat => sNum (n : Int)) ∧ (∀ p ∈ ps, p.length ≤ 30) ∧ (ps.length = rs.length + 1 → TellL H Q ((ns.map fun n : Nat => (n : Int)).reverse.map V.int)) ∧ (ps.length ≠ rs.length + 1 → Raise mg "NoNote" H E)) ∨
    ((∃ p ∈ ps, BadZ p) ∧ (∀ p ∈ ps, BadZ p ∨ ∃ n, GoodZ p n) ∧ Raise mg "NoNote" H E))
section
variable {P : Program} {w : World} {K : PySem.W.Frag} {mg : Str → Option Value} {base : Heap}
theorem ok_read {f : Addr} {fd : FuncData} (F : Fun K "read" "read" s_read f fd) (B : Bi mg) (e_NoNote : Er K mg "NoNote") (c_asked_frame : Callee P w K mg base 1 "asked_frame" ["ratios"] (sp_asked_frame K mg))
    (c_number_of : Callee P w K mg base 1 "number_of" ["figures"] (sp_number_of K mg)) :
    FnOk P w K mg base (L2.CX P w) 2 f fd ["ratios", "text"] (sp_read K mg) := by
  refine F.okX sc_read (fun vs H Q E h => ?_) (fun cdv A outer s H vs Q E hr h => ?_)
  · obtain ⟨a, z, rs, ps, rfl, _⟩ := h
    rfl
  · obtain ⟨a, z, rs, ps, rfl, hA, hz, hps, hpl, hpz, kF, kG⟩ := h
    have tk : Takes (cxOf (L2.CX P w) P w K mg base N_read "read" (defScope s_read) f cdv A outer s H E) (fun cls d _ H => E cls d H) := takes_of rfl rfl rfl rfl
    refine ⟨_, (pss_cons (ps_expr (pe_f c_asked_frame hr (by decide) tk (pa_cons (pv 0) pa_nil)))
  (pss_cons (ps_setLcX (i := 2) (own := [("part", 3)]) (g := gName 3) rfl rfl tk rfl sc_read.nd rfl rfl (sw_true rfl rfl rfl (by decide +kernel)) (pi_list (pe_split (pv 1) pe_str)) (blkOk_by (own := [("part", 3)]) (N := N_read) (sc := defScope s_read) (by decide +kernel)) (fun _ _ _ _ _ => pg_name (i := 3) sc_read.nd rfl (Or.inl rfl)) (fun _ _ _ _ _ xe pa => (pe_fA c_number_of hr (by decide) pa (pa_cons (pv 3) pa_nil))))
  (pss_cons (ps_if (pt_cmpR op_ne (pe_callB call_len_seq (by rfl) B.len PySem.boot_len (pa_cons (pv 2) pa_nil)) (pe_op op_add (pe_callB call_len_seq (by rfl) B.len PySem.boot_len (pa_cons (pv 0) pa_nil)) pe_int) (nomark _)) (pss_one (ps_raise rfl tk (pmk_own PySem.F.excBase_ValueError e_NoNote.xP e_NoNote.gC e_NoNote.kP (raises_own e_NoNote.bP e_NoNote.tP) (by rfl)))) pss_nil)
  (pss_one (ps_ret (pe_lrev rfl (by rfl) B.list (by rfl) B.reversed (pv 2))))))), ?_⟩
    refine ⟨_, rfl, a, rs, rfl, hA, fun g => ?_, kF⟩
    have g11 := g.1
    have hbar : z.length + 2 ≤ sizeLine := Nat.le_trans (show z.length + 2 ≤ 100002 by omega) (by decide)
    refine ⟨_, rfl, ⟨_, rfl⟩, z, bar, rfl, rfl, rfl, hbar, fun pl npl => ?_⟩
    rw [hps]
    have s1 := same_upd (o := .lst (ps.map V.str)) npl
    have e1 := upd_same (H := H) (a := pl) (o := .lst (ps.map V.str))
    generalize upd H pl (.lst (ps.map V.str)) = H1 at s1 e1
    refine ⟨pl, rfl, ⟨_, SqL.of e1⟩, fun T hT => ?_⟩
    have nT : H T = none := s1.free hT
    rcases kG g with ⟨ns, en, h30, kT, kN⟩ | ⟨⟨pb, hpb, hbb⟩, hall, kR⟩
    · have hln : ns.length = ps.length := by rw [en, List.length_map]
      refine lc_list (K := K) (a := pl) (xs := ps.map V.str) (Gr H1 T ((ns.map fun n : Nat => (n : Int)).map V.int)) (Gr.zero _ hT) (fun i H' _ gr => gr.1.seq (SqL.of e1)) ?_ ?_
      · rintro i x H' hx gr
        rw [List.getElem?_map] at hx
        obtain ⟨p, hp, rfl⟩ : ∃ p, ps[i]? = some p ∧ x = .str p := by
          cases q : ps[i]? with
          | none => rw [q] at hx; cases hx
          | some p => rw [q] at hx; exact ⟨p, rfl, (Option.some.inj hx).symm⟩
        have hi := (List.getElem?_eq_some_iff.mp hp).1
        have hpm := List.mem_of_getElem? hp
        have hn : ns[i]? = some (ns[i]'(by omega)) := List.getElem?_eq_getElem (by omega)
        have ep : p = sNum ((ns[i]'(by omega) : Nat) : Int) := by
          rw [en, List.getElem?_map, hn] at hp
          exact (Option.some.inj hp).symm
        refine ⟨rfl, _, rfl, p, rfl, hpz p hpm, .inl ⟨ns[i]'(by omega), ⟨ep, h30 p hpm⟩, _, gr.step hT (by rw [List.length_map, List.length_map]; omega) (map_get ?_) (Same.refl _)⟩⟩
        rw [List.getElem?_map, hn]
        rfl
      · intro H2 gr
        have e2 := gr.done (by rw [List.length_map, List.length_map, List.length_map]; omega)
        have s2 := s1.trans gr.1
        refine ⟨_, rfl, T, _, rfl, .inl (SqL.of e2), _, rfl, a, _, rfl, .inl (s2.seq hA), _, _, rfl, rfl, rfl, _, rfl, ?_⟩
        by_cases hlen : ps.length = rs.length + 1
        · refine ite_f ?_ ?_
          · rw [List.length_map, List.length_map, List.length_map, hln, hlen]
            simp
          · refine ⟨_, rfl, T, _, rfl, SqL.of e2, fun q nq => ?_⟩
            have s3 := same_upd (o := .lst (((ns.map fun n : Nat => (n : Int)).map V.int).reverse)) nq
            exact kT hlen _ q (s2.trans s3) (s2.free nq) (by rw [upd_same, List.map_reverse])
        · refine ite_t ?_ (kN hlen H2 s2)
          rw [List.length_map, List.length_map, List.length_map, hln]
          have : ¬ V.int ((ps.length : Nat) : Int) = V.int ((rs.length : Int) + 1) := fun q => by
            have := V.int.inj q
            omega
          simp [this]
    · refine lc_list (K := K) (a := pl) (xs := ps.map V.str) (fun i H' => Same H1 H' ∧ (∃ acc, H' T = some (.lst acc) ∧ acc.length ≤ i) ∧ ∀ p ∈ ps.take i, ¬ BadZ p) ⟨same_upd hT, ⟨[], upd_same, Nat.le_refl _⟩, fun p hp => by simp at hp⟩ (fun i H' _ gr => gr.1.seq (SqL.of e1)) ?_ ?_
      · rintro i x H' hx ⟨sm, ⟨acc, ha, hal⟩, hno⟩
        rw [List.getElem?_map] at hx
        obtain ⟨p, hp, rfl⟩ : ∃ p, ps[i]? = some p ∧ x = .str p := by
          cases q : ps[i]? with
          | none => rw [q] at hx; cases hx
          | some p => rw [q] at hx; exact ⟨p, rfl, (Option.some.inj hx).symm⟩
        have hi := (List.getElem?_eq_some_iff.mp hp).1
        have hpm := List.mem_of_getElem? hp
        refine ⟨rfl, _, rfl, p, rfl, hpz p hpm, ?_⟩
        by_cases hb : BadZ p
        · exact .inr ⟨hb, kR H' (s1.trans sm)⟩
        · rcases hall p hpm with h | ⟨n, hg⟩
          · exact absurd h hb
          · refine .inl ⟨n, hg, acc, ha, small64 (by omega), fun c o q => ?_, ⟨_, upd_same, by rw [List.length_append]; simp only [List.length_cons, List.length_nil]; omega⟩, fun q hq => ?_⟩
            · rw [upd_ne (ne_of_none q hT)]
              exact sm _ _ q
            · rw [take_more hp] at hq
              rcases List.mem_append.mp hq with hq | hq
              · exact hno q hq
              · rw [List.mem_singleton.mp hq]
                exact hb
      · rintro H2 ⟨_, _, hno⟩
        rw [List.take_of_length_le (by rw [List.length_map]; exact Nat.le_refl _)] at hno
        exact absurd hbb (hno pb hpb)
end
end CB
namespace CB
open PySem PySem.Spec PyProof.Rows L2
abbrev s_added : Stmt := top 25
abbrev N_added : List Str := ["ratios", "one", "other", "first"]
theorem sc_added : FnScope N_added ["ratios", "one", "other"] (defScope s_added) := ⟨rfl, rfl, rfl, by decide +kernel, rfl, by decide +kernel, by decide +kernel⟩
end CB

namespace CB
open PySem PySem.Spec PyProof.Rows L2
def sp_added (K : PySem.W.Frag) (mg : Str → Option Value) : Sp := fun vs H Q E => ∃ (a b c : Addr) (rs bs cs : List Int), vs = [.ref a, .ref b, .ref c] ∧ SqL K H a (rs.map V.int) ∧ SqL K H b (bs.map V.int) ∧ SqL K H c (cs.map V.int) ∧
  Two mg H E rs bs cs (TellL H Q ((D rs (W rs bs + W rs cs)).map V.int))
section
variable {P : Program} {w : World} {K : PySem.W.Frag} {mg : Str → Option Value} {base : Heap}
theorem ok_added {f : Addr} {fd : FuncData} (F : Fun K "added" "added" s_added f fd) (B : Bi mg) (c_worth : Callee P w K mg base 3 "worth" ["ratios", "board"] (sp_worth K mg)) (c_board_of : Callee P w K mg base 2 "board_of" ["ratios", "number"] (sp_board_of K mg)) :
    FnOk P w K mg base (L2.CX P w) 4 f fd ["ratios", "one", "other"] (sp_added K mg) := by
  refine F.okX sc_added (fun vs H Q E h => ?_) (fun cdv A outer s H vs Q E hr h => ?_)
  · obtain ⟨a, b, c, rs, bs, cs, rfl, _⟩ := h
    rfl
  · obtain ⟨a, b, c, rs, bs, cs, rfl, hA, hB, hC, k, kF, kB⟩ := h
    have tk : Takes (cxOf (L2.CX P w) P w K mg base N_added "added" (defScope s_added) f cdv A outer s H E) (fun cls d _ H => E cls d H) := takes_of rfl rfl rfl rfl
    refine ⟨_, (pss_cons (ps_set (i := 3) sc_added.nd rfl (Or.inl rfl) (pe_f c_worth hr (by decide) tk (pa_cons (pv 0) (pa_cons (pv 1) pa_nil))))
  (pss_one (ps_ret (pe_f c_board_of hr (by decide) tk (pa_cons (pv 0) (pa_cons (pe_op op_add (pv 3) (pe_f c_worth hr (by decide) tk (pa_cons (pv 0) (pa_cons (pv 2) pa_nil)))) pa_nil)))))), ?_⟩
    refine ⟨_, rfl, _, rfl, a, b, rs, bs, rfl, hA, hB, fun g gb => ?_, kF, kB⟩
    obtain ⟨sb, k1, k2⟩ := k g gb
    refine ⟨sb, fun H1 s1 => ?_⟩
    refine ⟨_, rfl, _, rfl, _, rfl, _, rfl, a, c, rs, cs, rfl, s1.seq hA, s1.seq hC, fun _ gc => ?_, fun z => absurd g z, fun _ z => k2 z H1 s1⟩
    obtain ⟨sc, kk⟩ := k1 gc
    refine ⟨sc, fun H2 s2 => ?_⟩
    have h1 := (W_small g gb.2 sb).1
    have h2 := (W_small g gc.2 sc).1
    have s02 := s1.trans s2
    refine ⟨_, _, rfl, rfl, a, _, rs, rfl, s02.seq hA, fun _ _ H3 p3 s3 n3 e3 => kk H3 p3 (s02.trans s3) (s02.free n3) e3, fun z => absurd g z, fun _ z => absurd (Int.add_nonneg h1 h2) z⟩
end
end CB
namespace CB
open PySem PySem.Spec PyProof.Rows L2
abbrev s_less : Stmt := top 26
abbrev N_less : List Str := ["ratios", "one", "other", "left"]
theorem sc_less : FnScope N_less ["ratios", "one", "other"] (defScope s_less) := ⟨rfl, rfl, rfl, by decide +kernel, rfl, by decide +kernel, by decide +kernel⟩
end CB

namespace CB
open PySem PySem.Spec PyProof.Rows L2
def sp_less (K : PySem.W.Frag) (mg : Str → Option Value) : Sp := fun vs H Q E => ∃ (a b c : Addr) (rs bs cs : List Int), vs = [.ref a, .ref b, .ref c] ∧ SqL K H a (rs.map V.int) ∧ SqL K H b (bs.map V.int) ∧ SqL K H c (cs.map V.int) ∧
  Two mg H E rs bs cs ((W rs cs ≤ W rs bs → TellL H Q ((D rs (W rs bs - W rs cs)).map V.int)) ∧ (W rs bs < W rs cs → Raise mg "NoLess" H E))
section
variable {P : Program} {w : World} {K : PySem.W.Frag} {mg : Str → Option Value} {base : Heap}
theorem ok_less {f : Addr} {fd : FuncData} (F : Fun K "less" "less" s_less f fd) (B : Bi mg) (e_NoLess : Er K mg "NoLess") (c_worth : Callee P w K mg base 3 "worth" ["ratios", "board"] (sp_worth K mg)) (c_board_of : Callee P w K mg base 2 "board_of" ["ratios", "number"] (sp_board_of K mg)) :
    FnOk P w K mg base (L2.CX P w) 4 f fd ["ratios", "one", "other"] (sp_less K mg) := by
  refine F.okX sc_less (fun vs H Q E h => ?_) (fun cdv A outer s H vs Q E hr h => ?_)
  · obtain ⟨a, b, c, rs, bs, cs, rfl, _⟩ := h
    rfl
  · obtain ⟨a, b, c, rs, bs, cs, rfl, hA, hB, hC, k, kF, kB⟩ := h
    have tk : Takes (cxOf (L2.CX P w) P w K mg base N_less "less" (defScope s_less) f cdv A outer s H E) (fun cls d _ H => E cls d H) := takes_of rfl rfl rfl rfl
    refine ⟨_, (pss_cons (ps_set (i := 3) sc_less.nd rfl (Or.inl rfl) (pe_op op_sub (pe_f c_worth hr (by decide) tk (pa_cons (pv 0) (pa_cons (pv 1) pa_nil))) (pe_f c_worth hr (by decide) tk (pa_cons (pv 0) (pa_cons (pv 2) pa_nil)))))
  (pss_cons (ps_if (pt_cmpR op_lt (pv 3) pe_int (nomark _)) (pss_one (ps_raise rfl tk (pmk_own PySem.F.excBase_ValueError e_NoLess.xP e_NoLess.gC e_NoLess.kP (raises_own e_NoLess.bP e_NoLess.tP) (by rfl)))) pss_nil)
  (pss_one (ps_ret (pe_f c_board_of hr (by decide) tk (pa_cons (pv 0) (pa_cons (pv 3) pa_nil))))))), ?_⟩
    refine ⟨_, rfl, _, rfl, a, b, rs, bs, rfl, hA, hB, fun g gb => ?_, kF, kB⟩
    obtain ⟨sb, k1, k2⟩ := k g gb
    refine ⟨sb, fun H1 s1 => ?_⟩
    refine ⟨_, rfl, _, rfl, a, c, rs, cs, rfl, s1.seq hA, s1.seq hC, fun _ gc => ?_, fun z => absurd g z, fun _ z => k2 z H1 s1⟩
    obtain ⟨sc, k3, k4⟩ := k1 gc
    refine ⟨sc, fun H2 s2 => ?_⟩
    have s02 := s1.trans s2
    refine ⟨_, _, rfl, rfl, _, rfl, _, _, rfl, rfl, _, rfl, ite2 (fun e => ?_) (fun e => ?_)⟩
    · have := of_decide_eq_true e
      exact k4 (by omega) H2 s02
    · have e' : ¬ (W rs bs - W rs cs < 0) := fun z => e (decide_eq_true z)
      refine ⟨_, rfl, _, rfl, a, _, rs, rfl, s02.seq hA, fun _ _ H3 p3 s3 n3 e3 => k3 (by omega) H3 p3 (s02.trans s3) (s02.free n3) e3, fun z => absurd g z, fun _ z => absurd (show 0 ≤ W rs bs - W rs cs by omega) z⟩
end
end CB
namespace CB
open PySem PySem.Spec PyProof.Rows L2
abbrev s_parted : Stmt := top 28
abbrev N_parted : List Str := ["ratios", "board", "number", "total"]
theorem sc_parted : FnScope N_parted ["ratios", "board", "number"] (defScope s_parted) := ⟨rfl, rfl, rfl, by decide +kernel, rfl, by decide +kernel, by decide +kernel⟩
end CB

namespace CB
open PySem PySem.Spec PyProof.Rows L2
def sp_parted (K : PySem.W.Frag) (mg : Str → Option Value) : Sp := fun vs H Q E => ∃ (a b : Addr) (rs bs : List Int) (n : Int), vs = [.ref a, .ref b, .int n] ∧ SqL K H a (rs.map V.int) ∧ SqL K H b (bs.map V.int) ∧
  (GF rs → GB rs bs → (1 ≤ n → BS bs ∧ n < 2 ^ 200 ∧ ∀ (H' : Hp) (p t : Addr), Same H H' → H p = none → H' p = some (.lst ((D rs (W rs bs / n)).map V.int)) → H' t = some (.tup [.ref p, .int (W rs bs % n)]) → Q (.ref t) H') ∧ (¬ 1 ≤ n → E (.ref (ErA mg "NoNumber")) none H)) ∧
  (¬ GF rs → E (.ref (ErA mg "NoFrame")) none H) ∧ (GF rs → ¬ GB rs bs → E (.ref (ErA mg "NoBoard")) none H)
section
variable {P : Program} {w : World} {K : PySem.W.Frag} {mg : Str → Option Value} {base : Heap}
theorem ok_parted {f : Addr} {fd : FuncData} (F : Fun K "parted" "parted" s_parted f fd) (B : Bi mg) (e_NoNumber : Er K mg "NoNumber") (c_asked_board : Callee P w K mg base 2 "asked_board" ["ratios", "board"] (sp_asked_board K mg))
    (c_worth : Callee P w K mg base 3 "worth" ["ratios", "board"] (sp_worth K mg)) (c_board_of : Callee P w K mg base 2 "board_of" ["ratios", "number"] (sp_board_of K mg)) :
    FnOk P w K mg base (L2.CX P w) 4 f fd ["ratios", "board", "number"] (sp_parted K mg) := by
  refine F.okX sc_parted (fun vs H Q E h => ?_) (fun cdv A outer s H vs Q E hr h => ?_)
  · obtain ⟨a, b, rs, bs, n, rfl, _⟩ := h
    rfl
  · obtain ⟨a, b, rs, bs, n, rfl, hA, hB, k, kF, kB⟩ := h
    have tk : Takes (cxOf (L2.CX P w) P w K mg base N_parted "parted" (defScope s_parted) f cdv A outer s H E) (fun cls d _ H => E cls d H) := takes_of rfl rfl rfl rfl
    refine ⟨_, (pss_cons (ps_expr (pe_f c_asked_board hr (by decide) tk (pa_cons (pv 0) (pa_cons (pv 1) pa_nil))))
  (pss_cons (ps_if (pt_cmpR op_lt (pv 2) pe_int (nomark _)) (pss_one (ps_raise rfl tk (pmk_own PySem.F.excBase_ValueError e_NoNumber.xP e_NoNumber.gC e_NoNumber.kP (raises_own e_NoNumber.bP e_NoNumber.tP) (by rfl)))) pss_nil)
  (pss_cons (ps_set (i := 3) sc_parted.nd rfl (Or.inl rfl) (pe_f c_worth hr (by decide) tk (pa_cons (pv 0) (pa_cons (pv 1) pa_nil))))
  (pss_one (ps_ret (pe_tup (pa_cons (pe_f c_board_of hr (by decide) tk (pa_cons (pv 0) (pa_cons (pe_op op_fdivW (pv 3) (pv 2)) pa_nil))) (pa_cons (pe_op op_mod (pv 3) (pv 2)) pa_nil)))))))), ?_⟩
    refine ⟨_, rfl, _, rfl, a, b, rs, bs, rfl, hA, hB, fun g gb => ?_, kF, kB⟩
    obtain ⟨k1, k2⟩ := k g gb
    refine ⟨_, rfl, _, _, rfl, rfl, _, rfl, ite2 (fun e => k2 (by have := of_decide_eq_true e; omega)) (fun e => ?_)⟩
    have h0 : 1 ≤ n := by
      have : ¬ n < 1 := fun q => e (decide_eq_true q)
      omega
    obtain ⟨sb, hn, kk⟩ := k1 h0
    obtain ⟨w0, w1⟩ := W_small g gb.2 sb
    refine ⟨_, rfl, _, rfl, a, b, rs, bs, rfl, hA, hB, fun _ _ => ⟨sb, fun H1 s1 => ?_⟩, fun z => absurd g z, fun _ z => absurd gb z⟩
    refine ⟨_, rfl, _, rfl, _, rfl, _, _, rfl, rfl, wide_div (b := 200) (by omega) (abs_lt_pow (by omega) hn) (by decide) (by decide), ?_⟩
    refine ⟨a, _, rs, rfl, s1.seq hA, fun _ _ H3 p3 s3 n3 e3 => ?_, fun z => absurd g z, fun _ z => absurd (Int.ediv_nonneg w0 (by omega)) z⟩
    refine ⟨_, rfl, _, rfl, _, _, rfl, rfl, (by show 0 < n; omega), by show 2 ≤ sizeLine; decide, fun t ht => ?_⟩
    exact kk _ p3 t ((s1.trans s3).trans (same_upd ht)) (s1.free n3) (by rw [upd_ne (ne_of_none e3 ht)]; exact e3) upd_same
end
end CB
namespace CB
open PySem PySem.Spec PyProof.Rows L2
abbrev s_times : Stmt := top 27
abbrev N_times : List Str := ["ratios", "board", "number"]
theorem sc_times : FnScope N_times ["ratios", "board", "number"] (defScope s_times) := ⟨rfl, rfl, rfl, by decide +kernel, rfl, by decide +kernel, by decide +kernel⟩
end CB

namespace CB
open PySem PySem.Spec PyProof.Rows L2
def sp_times (K : PySem.W.Frag) (mg : Str → Option Value) : Sp := fun vs H Q E => ∃ (a b : Addr) (rs bs : List Int) (n : Int), vs = [.ref a, .ref b, .int n] ∧ SqL K H a (rs.map V.int) ∧ SqL K H b (bs.map V.int) ∧
  (GF rs → GB rs bs → (0 ≤ n → BS bs ∧ n < 2 ^ 200 ∧ TellL H Q ((D rs (W rs bs * n)).map V.int)) ∧ (¬ 0 ≤ n → E (.ref (ErA mg "NoNumber")) none H)) ∧ (¬ GF rs → E (.ref (ErA mg "NoFrame")) none H) ∧ (GF rs → ¬ GB rs bs → E (.ref (ErA mg "NoBoard")) none H)
section
variable {P : Program} {w : World} {K : PySem.W.Frag} {mg : Str → Option Value} {base : Heap}
theorem ok_times {f : Addr} {fd : FuncData} (F : Fun K "times" "times" s_times f fd) (B : Bi mg) (e_NoNumber : Er K mg "NoNumber") (c_asked_board : Callee P w K mg base 2 "asked_board" ["ratios", "board"] (sp_asked_board K mg))
    (c_worth : Callee P w K mg base 3 "worth" ["ratios", "board"] (sp_worth K mg)) (c_board_of : Callee P w K mg base 2 "board_of" ["ratios", "number"] (sp_board_of K mg)) :
    FnOk P w K mg base (L2.CX P w) 4 f fd ["ratios", "board", "number"] (sp_times K mg) := by
  refine F.okX sc_times (fun vs H Q E h => ?_) (fun cdv A outer s H vs Q E hr h => ?_)
  · obtain ⟨a, b, rs, bs, n, rfl, _⟩ := h
    rfl
  · obtain ⟨a, b, rs, bs, n, rfl, hA, hB, k, kF, kB⟩ := h
    have tk : Takes (cxOf (L2.CX P w) P w K mg base N_times "times" (defScope s_times) f cdv A outer s H E) (fun cls d _ H => E cls d H) := takes_of rfl rfl rfl rfl
    refine ⟨_, (pss_cons (ps_expr (pe_f c_asked_board hr (by decide) tk (pa_cons (pv 0) (pa_cons (pv 1) pa_nil))))
  (pss_cons (ps_if (pt_cmpR op_lt (pv 2) pe_int (nomark _)) (pss_one (ps_raise rfl tk (pmk_own PySem.F.excBase_ValueError e_NoNumber.xP e_NoNumber.gC e_NoNumber.kP (raises_own e_NoNumber.bP e_NoNumber.tP) (by rfl)))) pss_nil)
  (pss_one (ps_ret (pe_f c_board_of hr (by decide) tk (pa_cons (pv 0) (pa_cons (pe_op op_mulW (pe_f c_worth hr (by decide) tk (pa_cons (pv 0) (pa_cons (pv 1) pa_nil))) (pv 2)) pa_nil))))))), ?_⟩
    refine ⟨_, rfl, _, rfl, a, b, rs, bs, rfl, hA, hB, fun g gb => ?_, kF, kB⟩
    obtain ⟨k1, k2⟩ := k g gb
    refine ⟨_, rfl, _, _, rfl, rfl, _, rfl, ite2 (fun e => k2 (by have := of_decide_eq_true e; omega)) (fun e => ?_)⟩
    have h0 : 0 ≤ n := by
      have : ¬ n < 0 := fun q => e (decide_eq_true q)
      omega
    obtain ⟨sb, hn, kk⟩ := k1 h0
    obtain ⟨w0, w1⟩ := W_small g gb.2 sb
    refine ⟨_, rfl, _, rfl, _, rfl, a, b, rs, bs, rfl, hA, hB, fun _ _ => ⟨sb, fun H1 s1 => ?_⟩, fun z => absurd g z, fun _ z => absurd gb z⟩
    refine ⟨_, rfl, _, _, rfl, rfl, wide_mul (a := 250) (b := 200) (abs_lt_pow w0 w1) (abs_lt_pow h0 hn) (by decide) (by decide) (by decide), ?_⟩
    exact ⟨a, _, rs, rfl, s1.seq hA, fun _ _ H3 p3 s3 n3 e3 => kk H3 p3 (s1.trans s3) (s1.free n3) e3, fun z => absurd g z, fun _ z => absurd (Int.mul_nonneg w0 h0) z⟩
end
end CB
namespace CB
open PySem PySem.Spec PyProof.Rows L2
abbrev s_goes : Stmt := top 30
abbrev N_goes : List Str := ["ratios", "board", "line", "up"]
theorem sc_goes : FnScope N_goes ["ratios", "board", "line", "up"] (defScope s_goes) := ⟨rfl, rfl, rfl, by decide +kernel, rfl, by decide +kernel, by decide +kernel⟩
end CB

namespace CB
open PySem PySem.Spec PyProof.Rows L2
def sp_goes (K : PySem.W.Frag) (_ : Str → Option Value) : Sp := fun vs H Q _ => ∃ (a b : Addr) (rs bs : List Int) (L : Nat) (up : Bool), vs = [.ref a, .ref b, .int (L : Int), .bl up] ∧ SqL K H a (rs.map V.int) ∧ SqL K H b (bs.map V.int) ∧ L < rs.length ∧ L + 1 < bs.length ∧ Q (.bl (goesB rs bs L up)) H
section
variable {P : Program} {w : World} {K : PySem.W.Frag} {mg : Str → Option Value} {base : Heap}
theorem ok_goes {f : Addr} {fd : FuncData} (F : Fun K "goes" "goes" s_goes f fd) (B : Bi mg) : FnOk P w K mg base (L2.CX P w) 1 f fd ["ratios", "board", "line", "up"] (sp_goes K mg) := by
  refine F.okX sc_goes (fun vs H Q E h => ?_) (fun cdv A outer s H vs Q E hr h => ?_)
  · obtain ⟨a, b, rs, bs, L, up, rfl, _⟩ := h
    rfl
  · obtain ⟨a, b, rs, bs, L, up, rfl, hA, hB, hL, hL1, q⟩ := h
    refine ⟨_, (pss_cons (ps_if (pt_val (pv 3)) (pss_one (ps_ret (pe_cmpR op_ge (pe_ix ix_list (pv 1) (pv 2) (fun _ _ => rfl)) (pe_ix ix_list (pv 0) (pv 2) (fun _ _ => rfl)) (nomark _)))) pss_nil)
  (pss_one (ps_ret (pe_cmpR op_ge (pe_ix ix_list (pv 1) (pe_op op_add (pv 2) pe_int) (fun _ _ => rfl)) pe_int (nomark _))))), ?_⟩
    have ar : atI (rs.map V.int) (L : Int) = some (.int (rs.getD L 0)) := atI_nat (map_get (getD_of hL))
    have ab : atI (bs.map V.int) (L : Int) = some (.int (bs.getD L 0)) := atI_nat (map_get (getD_of (by omega)))
    have ab1 : atI (bs.map V.int) ((L : Int) + 1) = some (.int (bs.getD (L + 1) 0)) := at_of (j := L + 1) (by omega) (map_get (getD_of hL1))
    refine ⟨_, rfl, _, rfl, ?_⟩
    cases up with
    | true =>
      refine ite_t rfl ⟨_, rfl, _, rfl, b, _, _, _, rfl, rfl, hB, ab, _, rfl, _, rfl, a, _, _, _, rfl, rfl, hA, ar, _, _, rfl, rfl, ?_⟩
      exact q
    | false =>
      refine ite_f rfl ⟨_, rfl, _, rfl, _, _, rfl, rfl, b, _, _, _, rfl, rfl, hB, ab1, _, _, rfl, rfl, ?_⟩
      exact q
end
end CB
namespace CB
open PySem PySem.Spec PyProof.Rows L2
abbrev s_can : Stmt := top 31
abbrev N_can : List Str := ["ratios", "board", "found", "line", "up"]
theorem sc_can : FnScope N_can ["ratios", "board"] (defScope s_can) := ⟨rfl, rfl, rfl, by decide +kernel, rfl, by decide +kernel, by decide +kernel⟩
end CB

namespace CB
open PySem PySem.Spec PyProof.Rows L2
def sp_can (K : PySem.W.Frag) (mg : Str → Option Value) : Sp := fun vs H Q E => ∃ (a b : Addr) (rs bs : List Int), vs = [.ref a, .ref b] ∧ SqL K H a (rs.map V.int) ∧ SqL K H b (bs.map V.int) ∧
  (GF rs → GB rs bs → TellT H Q (canL rs bs)) ∧ (¬ GF rs → E (.ref (ErA mg "NoFrame")) none H) ∧ (GF rs → ¬ GB rs bs → E (.ref (ErA mg "NoBoard")) none H)
section
variable {P : Program} {w : World} {K : PySem.W.Frag} {mg : Str → Option Value} {base : Heap}
theorem ok_can {f : Addr} {fd : FuncData} (F : Fun K "can" "can" s_can f fd) (B : Bi mg) (c_asked_board : Callee P w K mg base 2 "asked_board" ["ratios", "board"] (sp_asked_board K mg))
    (c_goes : Callee P w K mg base 1 "goes" ["ratios", "board", "line", "up"] (sp_goes K mg)) :
    FnOk P w K mg base (L2.CX P w) 3 f fd ["ratios", "board"] (sp_can K mg) := by
  refine F.okX sc_can (fun vs H Q E h => ?_) (fun cdv A outer s H vs Q E hr h => ?_)
  · obtain ⟨a, b, rs, bs, rfl, _⟩ := h
    rfl
  · obtain ⟨a, b, rs, bs, rfl, hA, hB, kG, kF, kB⟩ := h
    have tk : Takes (cxOf (L2.CX P w) P w K mg base N_can "can" (defScope s_can) f cdv A outer s H E) (fun cls d _ H => E cls d H) := takes_of rfl rfl rfl rfl
    refine ⟨_, (pss_cons (ps_expr (pe_f c_asked_board hr (by decide) tk (pa_cons (pv 0) (pa_cons (pv 1) pa_nil))))
  (pss_cons (ps_set (i := 2) sc_can.nd rfl (Or.inl rfl) (pe_lst pa_nil))
  (pss_cons (ps_for (passes_of rfl) rfl (pi_range1 (by rfl) B.range (pa_cons (pe_callB call_len_seq (by rfl) B.len PySem.boot_len (pa_cons (pv 0) pa_nil)) pa_nil)) (pg_name (i := 3) sc_can.nd rfl (Or.inl rfl)) (pss_one (ps_for (passes_of rfl) rfl (pi_tup (pe_tup (pa_cons pe_bl (pa_cons pe_bl pa_nil)))) (pg_name (i := 4) sc_can.nd rfl (Or.inl rfl)) (pss_one (ps_if (pt_val (pe_f c_goes hr (by decide) tk (pa_cons (pv 0) (pa_cons (pv 1) (pa_cons (pv 3) (pa_cons (pv 4) pa_nil)))))) (pss_one (ps_expr (pe_bm PySem.F.plainAttrs_list PySem.F.slot_list_append PySem.F.type_list_append mt_append (pv 2) (pa_cons (pe_tup (pa_cons (pv 3) (pa_cons (pv 4) pa_nil))) pa_nil)))) pss_nil)))))
  (pss_one (ps_ret (pv 2)))))), ?_⟩
    refine ⟨_, rfl, _, rfl, a, b, rs, bs, rfl, hA, hB, fun g gb => ?_, kF, kB⟩
    have k := kG g gb
    have hn := gb.1
    have g11 := g.1
    refine ⟨by show 0 ≤ sizeLine; decide, fun p hp => ?_⟩
    refine ⟨_, rfl, a, _, rfl, .inl ((same_upd hp).seq hA), _, rfl, by rw [List.length_map]; omega, by rw [List.length_map]; omega, ?_⟩
    rw [List.length_map, Int.toNat_natCast]
    refine for_range (fun i σ H' => ∃ v u ts, σ = [some (.ref a), some (.ref b), some (.ref p), v, u] ∧ Same H H' ∧ H' p = some (.lst (ts.map V.ref)) ∧ Tups H' ts (canP rs bs i))
      ⟨none, none, [], rfl, same_upd hp, upd_same, trivial⟩ ?_ ?_
    · rintro i σ H' hi ⟨v, u, ts, rfl, sm, hP, ht⟩
      refine ⟨by show 2 ≤ sizeLine; decide, fun q hq => ?_⟩
      have hqt : (upd H' q (.tup [V.bl true, V.bl false])) q = some (.tup [V.bl true, V.bl false]) := upd_same
      have sq := same_upd (o := .tup [V.bl true, V.bl false]) hq
      refine ⟨q, rfl, ⟨_, SqT.of hqt⟩, for_tup (K := K) (a := q) (xs := [V.bl true, V.bl false]) (fun j σ H2 => ∃ u ts, σ = [some (.ref a), some (.ref b), some (.ref p), some (.int (0 + (i : Int))), u] ∧ Same H H2 ∧ H2 q = some (.tup [V.bl true, V.bl false]) ∧ H2 p = some (.lst (ts.map V.ref)) ∧
          Tups H2 ts (match j with | 0 => canP rs bs i | 1 => canP rs bs i ++ optP rs bs i true | _ => canP rs bs (i + 1)))
        ⟨_, ts, rfl, sm.trans sq, hqt, sq _ _ hP, ht.same sq⟩ (fun j σ H2 _ ⟨_, _, _, _, e, _⟩ => SqT.of e) ?_ ?_⟩
      · have turn : ∀ (up : Bool) (l l2 : List (Int × Bool)) (H2 : Hp) (ts : List Addr), l2 = l ++ optP rs bs i up → l.length ≤ 100 → Same H H2 → H2 q = some (.tup [V.bl true, V.bl false]) → H2 p = some (.lst (ts.map V.ref)) → Tups H2 ts l →
            ∀ (D : Ends), (∀ (H3 : Hp) (us : List Addr), Same H H3 → H3 q = some (.tup [V.bl true, V.bl false]) → H3 p = some (.lst (us.map V.ref)) → Tups H3 us l2 → D.nx [some (.ref a), some (.ref b), some (.ref p), some (.int (0 + (i : Int))), some (.bl up)] H3) →
            (tIfS (tB (tCallS (sp_goes K mg) (WE fun cls d _ H => E cls d H) (tCons (tVar 0) (tCons (tVar 1) (tCons (tVar 3) (tCons (tVar 4) tNil)))))) (tDrop (tBM K "list" rAppend (tVar 2) (tCons (tTup (tCons (tVar 3) (tCons (tVar 4) tNil))) tNil))) tNext) D [some (.ref a), some (.ref b), some (.ref p), some (.int (0 + (i : Int))), some (.bl up)] H2 := by
          intro up l l2 H2 ts el hll sm2 hq2 hP2 ht2 D kD
          refine ⟨_, rfl, _, rfl, _, rfl, _, rfl, a, b, rs, bs, i, up, by rw [Int.zero_add], sm2.seq hA, sm2.seq hB, hi, by omega, _, rfl, ?_⟩
          cases hg : goesB rs bs i up with
          | false =>
            refine ite_f rfl (kD H2 ts sm2 hq2 hP2 ?_)
            have e : optP rs bs i up = [] := by unfold optP; rw [hg]; rfl
            rw [el, e, List.append_nil]
            exact ht2
          | true =>
            have e : optP rs bs i up = [((i : Int), up)] := by unfold optP; rw [hg]; rfl
            refine ite_t rfl ⟨_, rfl, .inl ⟨rfl, _, SqL.of hP2⟩, _, rfl, _, rfl, by show 2 ≤ sizeLine; decide, fun t ht' => ?_⟩
            have st := same_upd (o := .tup [V.int (0 + (i : Int)), V.bl up]) ht'
            have hlt := ht2.len
            have dtp : p ≠ t := ne_of_none hP2 ht'
            refine ⟨p, _, _, rfl, rfl, st _ _ hP2, by rw [List.length_map]; exact small64 (by omega), ?_⟩
            refine kD _ (ts ++ [t]) (fun c o z => ?_) ?_ ?_ ?_
            · rw [upd_ne (ne_of_none z hp)]
              exact st _ _ (sm2 _ _ z)
            · rw [upd_ne (ne_of hq2 hP2 (fun z => by cases z))]
              exact st _ _ hq2
            · rw [upd_same, List.map_append]
              rfl
            · rw [el, e]
              refine Tups.append ((ht2.same st).upd (st _ _ hP2)) ⟨?_, trivial⟩
              rw [upd_ne dtp.symm, upd_same, Int.zero_add]
        rintro j y σ H2 hj ⟨u, ts, rfl, sm2, hq2, hP2, ht2⟩
        have hcl := canP_len rs bs i
        have hol := optP_len rs bs i true
        match j, hj with
        | 0, hj =>
          cases hj
          refine turn true (canP rs bs i) _ H2 ts rfl (by omega) sm2 hq2 hP2 ht2 _ fun H3 us a1 a2 a3 a4 => ⟨_, us, rfl, a1, a2, a3, a4⟩
        | 1, hj =>
          cases hj
          refine turn false (canP rs bs i ++ optP rs bs i true) _ H2 ts rfl (by rw [List.length_append]; omega) sm2 hq2 hP2 ht2 _ fun H3 us a1 a2 a3 a4 => ⟨_, us, rfl, a1, a2, a3, ?_⟩
          show Tups H3 us (canP rs bs (i + 1))
          rw [canP_succ]
          exact a4
        | _ + 2, hj => cases hj
      · rintro σ H2 ⟨u, ts, rfl, sm2, _, hP2, ht2⟩
        exact ⟨_, _, ts, rfl, sm2, hP2, ht2⟩
    · rintro σ H' ⟨v, u, ts, rfl, sm, hP, ht⟩
      exact ⟨_, rfl, k H' p ts sm hp hP ht⟩
end
end CB
namespace CB
open PySem PySem.Spec PyProof.Rows L2
abbrev s_stepped : Stmt := top 32
abbrev N_stepped : List Str := ["ratios", "board", "line", "up", "found"]
theorem sc_stepped : FnScope N_stepped ["ratios", "board", "line", "up"] (defScope s_stepped) := ⟨rfl, rfl, rfl, by decide +kernel, rfl, by decide +kernel, by decide +kernel⟩
end CB

namespace CB
open PySem PySem.Spec PyProof.Rows L2
def sp_stepped (K : PySem.W.Frag) (mg : Str → Option Value) : Sp := fun vs H Q E => ∃ (a b : Addr) (rs bs : List Int) (z : Int) (up : Bool), vs = [.ref a, .ref b, .int z, .bl up] ∧ SqL K H a (rs.map V.int) ∧ SqL K H b (bs.map V.int) ∧
  (GF rs → GB rs bs → (∀ L : Nat, z = (L : Int) → L < rs.length → goesB rs bs L up = true → TellL H Q ((stepL rs bs L up).map V.int)) ∧ ((∀ L : Nat, z = (L : Int) → L < rs.length → goesB rs bs L up = false) → E (.ref (ErA mg "NoStep")) none H)) ∧
  (¬ GF rs → E (.ref (ErA mg "NoFrame")) none H) ∧ (GF rs → ¬ GB rs bs → E (.ref (ErA mg "NoBoard")) none H)
section
variable {P : Program} {w : World} {K : PySem.W.Frag} {mg : Str → Option Value} {base : Heap}
theorem ok_stepped {f : Addr} {fd : FuncData} (F : Fun K "stepped" "stepped" s_stepped f fd) (B : Bi mg) (e_NoStep : Er K mg "NoStep") (c_asked_board : Callee P w K mg base 2 "asked_board" ["ratios", "board"] (sp_asked_board K mg))
    (c_goes : Callee P w K mg base 1 "goes" ["ratios", "board", "line", "up"] (sp_goes K mg)) :
    FnOk P w K mg base (L2.CX P w) 3 f fd ["ratios", "board", "line", "up"] (sp_stepped K mg) := by
  refine F.okX sc_stepped (fun vs H Q E h => ?_) (fun cdv A outer s H vs Q E hr h => ?_)
  · obtain ⟨a, b, rs, bs, z, up, rfl, _⟩ := h
    rfl
  · obtain ⟨a, b, rs, bs, z, up, rfl, hA, hB, kG, kF, kB⟩ := h
    have tk : Takes (cxOf (L2.CX P w) P w K mg base N_stepped "stepped" (defScope s_stepped) f cdv A outer s H E) (fun cls d _ H => E cls d H) := takes_of rfl rfl rfl rfl
    refine ⟨_, (pss_cons (ps_expr (pe_f c_asked_board hr (by decide) tk (pa_cons (pv 0) (pa_cons (pv 1) pa_nil))))
  (pss_cons (ps_if (pw_or (pt_cmpR op_lt (pv 2) pe_int (nomark _)) (pw_or (pt_cmpR op_ge (pv 2) (pe_callB call_len_seq (by rfl) B.len PySem.boot_len (pa_cons (pv 0) pa_nil)) (nomark _)) (pw_or1 (pt_not (pt_val (pe_f c_goes hr (by decide) tk (pa_cons (pv 0) (pa_cons (pv 1) (pa_cons (pv 2) (pa_cons (pv 3) pa_nil)))))))))).pt (pss_one (ps_raise rfl tk (pmk_own PySem.F.excBase_ValueError e_NoStep.xP e_NoStep.gC e_NoStep.kP (raises_own e_NoStep.bP e_NoStep.tP) (by rfl)))) pss_nil)
  (pss_cons (ps_set (i := 4) sc_stepped.nd rfl (Or.inl rfl) (pe_callTy call_list_of (by rfl) B.list (by decide +kernel) (pa_cons (pv 1) pa_nil)))
  (pss_cons (ps_if (pt_val (pv 3)) (pss_cons (ps_asg (pe_op op_sub (pe_ix ix_list (pv 4) (pv 2) (fun _ _ => rfl)) (pe_ix ix_list (pv 0) (pv 2) (fun _ _ => rfl))) (pg_sub (pv 4) (pv 2) set_list))
  (pss_one (ps_asg (pe_op op_add (pe_ix ix_list (pv 4) (pe_op op_add (pv 2) pe_int) (fun _ _ => rfl)) pe_int) (pg_sub (pv 4) (pe_op op_add (pv 2) pe_int) set_list)))) (pss_cons (ps_asg (pe_op op_add (pe_ix ix_list (pv 4) (pv 2) (fun _ _ => rfl)) (pe_ix ix_list (pv 0) (pv 2) (fun _ _ => rfl))) (pg_sub (pv 4) (pv 2) set_list))
  (pss_one (ps_asg (pe_op op_sub (pe_ix ix_list (pv 4) (pe_op op_add (pv 2) pe_int) (fun _ _ => rfl)) pe_int) (pg_sub (pv 4) (pe_op op_add (pv 2) pe_int) set_list)))))
  (pss_one (ps_ret (pv 4))))))), ?_⟩
    refine ⟨_, rfl, _, rfl, a, b, rs, bs, rfl, hA, hB, fun g gb => ?_, kF, kB⟩
    obtain ⟨kT, kS⟩ := kG g gb
    have hn := gb.1
    have g11 := g.1
    refine ⟨_, rfl, _, _, rfl, rfl, _, rfl, ite2 (fun e => ?_) (fun e => ?_)⟩
    · refine ite_t rfl (kS fun L hL => ?_)
      have := of_decide_eq_true e
      omega
    · have hz0 : ¬ z < 0 := fun q => e (decide_eq_true q)
      refine ⟨_, rfl, _, rfl, a, _, rfl, .inl hA, _, _, rfl, rfl, _, rfl, ite2 (fun e2 => ?_) (fun e2 => ?_)⟩
      · refine ite_t rfl (kS fun L hL hlt => ?_)
        have := of_decide_eq_true e2
        rw [List.length_map] at this
        omega
      · have hz1 : z < rs.length := by
          have q : ¬ (((rs.map V.int).length : Int) ≤ z) := fun q => e2 (decide_eq_true q)
          rw [List.length_map] at q
          omega
        obtain ⟨L, rfl⟩ : ∃ L : Nat, z = (L : Int) := ⟨z.toNat, by omega⟩
        have hL : L < rs.length := by omega
        have hL1 : L + 1 < bs.length := by omega
        refine ⟨_, rfl, _, rfl, _, rfl, _, rfl, a, b, rs, bs, L, up, rfl, hA, hB, hL, hL1, _, rfl, ?_⟩
        cases hg : goesB rs bs L up with
        | false =>
          refine ite_t rfl (kS fun L' hL' hlt => ?_)
          have : L' = L := by omega
          rw [this]
          exact hg
        | true =>
          refine ite_f rfl ?_
          have kk := kT L rfl hL hg
          refine ⟨_, rfl, b, _, rfl, .inl hB, fun p hp => ?_⟩
          have sA := (same_upd (o := .lst (bs.map V.int)) hp).seq hA
          have ar : atI (rs.map V.int) (L : Int) = some (.int (rs.getD L 0)) := atI_nat (map_get (getD_of hL))
          have ab : atI (bs.map V.int) (L : Int) = some (.int (bs.getD L 0)) := atI_nat (map_get (getD_of (by omega)))
          have fin : ∀ (v1 v2 : Int) (D : Ends) (σ : L2.St) , v1 = bs.getD L 0 - sg up * rs.getD L 0 → v2 = bs.getD (L + 1) 0 + sg up → Q (.ref p) (upd (upd (upd H p (.lst (bs.map V.int))) p (.lst ((bs.map V.int).set L (V.int v1)))) p (.lst (((bs.map V.int).set L (V.int v1)).set (L + 1) (V.int v2)))) := by
            intro v1 v2 D σ h1 h2
            rw [upd_upd, upd_upd]
            refine kk _ p (same_upd hp) hp ?_
            rw [upd_same, h1, h2]
            unfold stepL
            rw [List.map_set, List.map_set]
          refine ⟨_, rfl, _, rfl, ?_⟩
          have at1 : ∀ v : V, atI ((bs.map V.int).set L v) ((L : Int) + 1) = some (.int (bs.getD (L + 1) 0)) := fun v => at_of (j := L + 1) (by omega) (by rw [List.getElem?_set_ne (by omega)]; exact map_get (getD_of hL1))
          cases up with
          | true =>
            refine ite_t rfl ⟨_, rfl, _, rfl, p, _, _, _, rfl, rfl, SqL.of upd_same, ab, _, rfl, _, rfl, a, _, _, _, rfl, rfl, sA, ar, _, _, rfl, rfl, ?_⟩
            refine ⟨_, rfl, _, rfl, p, _, _, L, rfl, rfl, upd_same, ix_of rfl (by rw [List.length_map]; omega), ?_⟩
            refine ⟨_, rfl, _, rfl, _, _, rfl, rfl, p, _, _, _, rfl, rfl, SqL.of upd_same, at1 _, _, _, rfl, rfl, ?_⟩
            refine ⟨_, rfl, _, rfl, _, _, rfl, rfl, p, _, _, L + 1, rfl, rfl, upd_same, ix_of (by omega) (by rw [List.length_set, List.length_map]; omega), ?_⟩
            exact ⟨_, rfl, fin _ _ ⟨fun _ _ => True, fun _ _ => True, fun _ _ => True, fun _ _ => True⟩ [] (by show _ = _ - 1 * _; omega) rfl⟩
          | false =>
            refine ite_f rfl ⟨_, rfl, _, rfl, p, _, _, _, rfl, rfl, SqL.of upd_same, ab, _, rfl, _, rfl, a, _, _, _, rfl, rfl, sA, ar, _, _, rfl, rfl, ?_⟩
            refine ⟨_, rfl, _, rfl, p, _, _, L, rfl, rfl, upd_same, ix_of rfl (by rw [List.length_map]; omega), ?_⟩
            refine ⟨_, rfl, _, rfl, _, _, rfl, rfl, p, _, _, _, rfl, rfl, SqL.of upd_same, at1 _, _, _, rfl, rfl, ?_⟩
            refine ⟨_, rfl, _, rfl, _, _, rfl, rfl, p, _, _, L + 1, rfl, rfl, upd_same, ix_of (by omega) (by rw [List.length_set, List.length_map]; omega), ?_⟩
            exact ⟨_, rfl, fin _ _ ⟨fun _ _ => True, fun _ _ => True, fun _ _ => True, fun _ _ => True⟩ [] (by show _ = _ - -1 * _; omega) (by show _ = _ + -1; omega)⟩
end
end CB
namespace CB
open PySem PySem.Spec PyProof.Rows L2
abbrev s_raisings : Stmt := top 33
abbrev N_raisings : List Str := ["ratios", "board", "found", "come", "counters", "ratio"]
theorem sc_raisings : FnScope N_raisings ["ratios", "board"] (defScope s_raisings) := ⟨rfl, rfl, rfl, by decide +kernel, rfl, by decide +kernel, by decide +kernel⟩
end CB

namespace CB
open PySem PySem.Spec PyProof.Rows L2
def sp_raisings (K : PySem.W.Frag) (mg : Str → Option Value) : Sp := fun vs H Q E => ∃ (a b : Addr) (rs bs : List Int), vs = [.ref a, .ref b] ∧ SqL K H a (rs.map V.int) ∧ SqL K H b (bs.map V.int) ∧
  (GF rs → GB rs bs → TellL H Q ((R rs bs 0).map V.int)) ∧ (¬ GF rs → E (.ref (ErA mg "NoFrame")) none H) ∧ (GF rs → ¬ GB rs bs → E (.ref (ErA mg "NoBoard")) none H)
section
variable {P : Program} {w : World} {K : PySem.W.Frag} {mg : Str → Option Value} {base : Heap}
theorem ok_raisings {f : Addr} {fd : FuncData} (F : Fun K "raisings" "raisings" s_raisings f fd) (B : Bi mg) (c_asked_board : Callee P w K mg base 2 "asked_board" ["ratios", "board"] (sp_asked_board K mg)) :
    FnOk P w K mg base (L2.CX P w) 3 f fd ["ratios", "board"] (sp_raisings K mg) := by
  refine F.okX sc_raisings (fun vs H Q E h => ?_) (fun cdv A outer s H vs Q E hr h => ?_)
  · obtain ⟨a, b, rs, bs, rfl, _⟩ := h
    rfl
  · obtain ⟨a, b, rs, bs, rfl, hA, hB, kG, kF, kB⟩ := h
    have tk : Takes (cxOf (L2.CX P w) P w K mg base N_raisings "raisings" (defScope s_raisings) f cdv A outer s H E) (fun cls d _ H => E cls d H) := takes_of rfl rfl rfl rfl
    refine ⟨_, (pss_cons (ps_expr (pe_f c_asked_board hr (by decide) tk (pa_cons (pv 0) (pa_cons (pv 1) pa_nil))))
  (pss_cons (ps_set (i := 2) sc_raisings.nd rfl (Or.inl rfl) (pe_lst pa_nil))
  (pss_cons (ps_set (i := 3) sc_raisings.nd rfl (Or.inl rfl) pe_int)
  (pss_cons (ps_for (passes_of rfl) rfl (pi_zip (by rfl) B.zip (pa_cons (pv 1) (pa_cons (pv 0) pa_nil))) (pg_tup rfl (pgs_cons (pg_name (i := 4) sc_raisings.nd rfl (Or.inl rfl)) (pgs_cons (pg_name (i := 5) sc_raisings.nd rfl (Or.inl rfl)) pgs_nil))) (pss_cons (ps_set (i := 3) sc_raisings.nd rfl (Or.inl rfl) (pe_op op_fdiv (pe_op op_add (pv 4) (pv 3)) (pv 5)))
  (pss_one (ps_expr (pe_bm PySem.F.plainAttrs_list PySem.F.slot_list_append PySem.F.type_list_append mt_append (pv 2) (pa_cons (pv 3) pa_nil))))))
  (pss_one (ps_ret (pv 2))))))), ?_⟩
    refine ⟨_, rfl, _, rfl, a, b, rs, bs, rfl, hA, hB, fun g gb => ?_, kF, kB⟩
    have k := kG g gb
    have hn := gb.1
    refine ⟨by show 0 ≤ sizeLine; decide, fun p hp => ?_⟩
    have hlen : ((R rs bs 0).map V.int).length ≤ 100000 := by rw [List.length_map, R_len rs bs 0 hn]; have := g.1; omega
    refine ⟨_, rfl, _, rfl, b, a, _, _, rfl, (same_upd hp).seq hB, (same_upd hp).seq hA, for_zip (K := K) (a := b) (b := a) rs.length (by rw [List.length_map, List.length_map]; omega)
      (fun i σ H' => ∃ v u c, σ = [some (.ref a), some (.ref b), some (.ref p), some (.int c), v, u] ∧ Gr H p ((R rs bs 0).map V.int) i H' ∧ ∃ l, R rs bs 0 = l ++ R (rs.drop i) (bs.drop i) c ∧ l.length = i)
        ⟨none, none, 0, rfl, Gr.zero _ hp, [], rfl, rfl⟩ (fun i σ H' ⟨_, _, _, _, gr, _⟩ => ⟨gr.1.seq hB, gr.1.seq hA⟩) ?_ ?_⟩
    · rintro i x y T σ H' hx hy ⟨v, u, c, rfl, gr, l, e1, e2⟩ nT
      obtain ⟨x, hxx, rfl⟩ := get_map hx
      obtain ⟨z, hz, rfl⟩ := get_map hy
      have gz := g.2 z (List.mem_of_getElem? hz)
      have e3 : rs.drop i = z :: rs.drop (i + 1) := by
        obtain ⟨hl, e⟩ := List.getElem?_eq_some_iff.mp hz
        rw [List.drop_eq_getElem_cons hl, e]
      have e3' : bs.drop i = x :: bs.drop (i + 1) := by
        obtain ⟨hl, e⟩ := List.getElem?_eq_some_iff.mp hxx
        rw [List.drop_eq_getElem_cons hl, e]
      rw [e3, e3'] at e1
      have e4 : ((R rs bs 0).map V.int)[i]? = some (.int ((x + c) / z)) := by
        refine map_get ?_
        rw [e1, List.getElem?_append_right (by omega), e2, Nat.sub_self]
        rfl
      have st := gr.step hp hlen e4 (same_upd (o := .tup [V.int x, V.int z]) nT)
      refine ⟨T, _, rfl, SqT.of upd_same, rfl, _, _, rfl, _, _, rfl, rfl, ?_⟩
      refine ⟨_, rfl, _, rfl, _, _, rfl, rfl, _, rfl, _, _, rfl, rfl, ⟨by omega, by omega⟩, ?_⟩
      refine ⟨_, rfl, .inl ⟨rfl, _, SqL.of st.1⟩, _, rfl, p, _, _, rfl, rfl, st.1, st.2.1, ?_⟩
      refine ⟨_, _, _, rfl, st.2.2, l ++ [(x + c) / z], ?_, by rw [List.length_append, e2]; rfl⟩
      rw [e1, List.append_assoc]
      rfl
    · rintro σ H' ⟨v, u, c, rfl, gr, l, e1, e2⟩
      exact ⟨_, rfl, k _ p gr.1 hp (gr.done (by rw [List.length_map, R_len rs bs 0 hn]; exact Nat.le_refl _))⟩
end
end CB
namespace CB
open PySem PySem.Spec PyProof.Rows L2
abbrev s_net : Stmt := top 36
abbrev N_net : List Str := ["ratios", "one", "other", "mine", "theirs"]
theorem sc_net : FnScope N_net ["ratios", "one", "other"] (defScope s_net) := ⟨rfl, rfl, rfl, by decide +kernel, rfl, by decide +kernel, by decide +kernel⟩
end CB

namespace CB
open PySem PySem.Spec PyProof.Rows L2
def sp_net (K : PySem.W.Frag) (mg : Str → Option Value) : Sp := fun vs H Q E => ∃ (a b c : Addr) (rs bs cs : List Int), vs = [.ref a, .ref b, .ref c] ∧ SqL K H a (rs.map V.int) ∧ SqL K H b (bs.map V.int) ∧ SqL K H c (cs.map V.int) ∧
  Two mg H E rs bs cs ((W rs bs = W rs cs → TellL H Q ((N rs bs cs).map V.int)) ∧ (W rs bs ≠ W rs cs → Raise mg "NoWay" H E))
section
variable {P : Program} {w : World} {K : PySem.W.Frag} {mg : Str → Option Value} {base : Heap}
theorem ok_net {f : Addr} {fd : FuncData} (F : Fun K "net" "net" s_net f fd) (B : Bi mg) (e_NoWay : Er K mg "NoWay") (c_worth : Callee P w K mg base 3 "worth" ["ratios", "board"] (sp_worth K mg))
    (c_raisings : Callee P w K mg base 3 "raisings" ["ratios", "board"] (sp_raisings K mg)) :
    FnOk P w K mg base (L2.CX P w) 4 f fd ["ratios", "one", "other"] (sp_net K mg) := by
  refine F.okX sc_net (fun vs H Q E h => ?_) (fun cdv A outer s H vs Q E hr h => ?_)
  · obtain ⟨a, b, c, rs, bs, cs, rfl, _⟩ := h
    rfl
  · obtain ⟨a, b, c, rs, bs, cs, rfl, hA, hB, hC, k, kF, kB⟩ := h
    have tk : Takes (cxOf (L2.CX P w) P w K mg base N_net "net" (defScope s_net) f cdv A outer s H E) (fun cls d _ H => E cls d H) := takes_of rfl rfl rfl rfl
    refine ⟨_, (pss_cons (ps_if (pt_cmpR op_ne (pe_f c_worth hr (by decide) tk (pa_cons (pv 0) (pa_cons (pv 1) pa_nil))) (pe_f c_worth hr (by decide) tk (pa_cons (pv 0) (pa_cons (pv 2) pa_nil))) (nomark _)) (pss_one (ps_raise rfl tk (pmk_own PySem.F.excBase_ValueError e_NoWay.xP e_NoWay.gC e_NoWay.kP (raises_own e_NoWay.bP e_NoWay.tP) (by rfl)))) pss_nil)
  (pss_one (ps_ret (pe_lc (own := [("mine", 3), ("theirs", 4)]) (g := gTup K 2 (gCons (gName 3) (gCons (gName 4) gNil))) (tt := tYes) rfl sc_net.nd (pi_zip (by rfl) B.zip (pa_cons (pe_f c_raisings hr (by decide) tk (pa_cons (pv 0) (pa_cons (pv 1) pa_nil))) (pa_cons (pe_f c_raisings hr (by decide) tk (pa_cons (pv 0) (pa_cons (pv 2) pa_nil))) pa_nil))) (blkOk_by (own := [("mine", 3), ("theirs", 4)]) (N := N_net) (sc := defScope s_net) (by decide +kernel)) (fun _ _ _ _ _ => pg_tup rfl (pgs_cons (pg_name (i := 3) sc_net.nd rfl (Or.inl rfl)) (pgs_cons (pg_name (i := 4) sc_net.nd rfl (Or.inl rfl)) pgs_nil))) (fun _ _ _ _ _ => pts_nil) (fun _ _ _ _ _ => (pe_op op_sub (pv 3) (pv 4))))))), ?_⟩
    refine ⟨_, rfl, _, rfl, a, b, rs, bs, rfl, hA, hB, fun g gb => ?_, kF, kB⟩
    obtain ⟨sb, k1, k2⟩ := k g gb
    refine ⟨sb, fun H1 s1 => ?_⟩
    refine ⟨_, rfl, _, rfl, a, c, rs, cs, rfl, s1.seq hA, s1.seq hC, fun _ gc => ?_, fun z => absurd g z, fun _ z => k2 z H1 s1⟩
    obtain ⟨sc, k3, k4⟩ := k1 gc
    refine ⟨sc, fun H2 s2 => ?_⟩
    have s02 := s1.trans s2
    refine ⟨rfl, _, rfl, ?_⟩
    by_cases hw : W rs bs = W rs cs
    · refine ite_f (by simp [hw]) ?_
      have kk := k3 hw
      refine ⟨_, rfl, _, rfl, a, b, rs, bs, rfl, s02.seq hA, s02.seq hB, fun _ _ H3 p3 s3 n3 e3 => ?_, fun z => absurd g z, fun _ z => absurd gb z⟩
      have s03 := s02.trans s3
      refine ⟨_, rfl, _, rfl, a, c, rs, cs, rfl, s03.seq hA, s03.seq hC, fun _ _ H4 p4 s4 n4 e4 => ?_, fun z => absurd g z, fun _ z => absurd gc z⟩
      have s04 := s03.trans s4
      have f3 := s4 _ _ e3
      refine ⟨p3, p4, _, _, rfl, SqL.of f3, SqL.of e4, fun T hT => ?_⟩
      have l1 := R_len rs bs 0 gb.1
      have l2 := R_len rs cs 0 gc.1
      have hl := N_len gb.1 gc.1
      refine lc_zip (K := K) rs.length (by rw [List.length_map, List.length_map]; omega) (Gr H4 T ((N rs bs cs).map V.int)) (Gr.zero _ hT) (fun i H' gr => ⟨gr.1.seq (SqL.of f3), gr.1.seq (SqL.of e4)⟩) ?_ ?_
      · rintro i x y T' H' hx hy gr nT
        obtain ⟨z, hz, rfl⟩ := get_map hx
        obtain ⟨o, ho, rfl⟩ := get_map hy
        refine ⟨T', _, rfl, SqT.of upd_same, rfl, _, _, rfl, _, _, rfl, rfl, rfl, ?_⟩
        refine ⟨_, rfl, _, rfl, _, _, rfl, rfl, ?_⟩
        refine ⟨_, gr.step hT (by rw [List.length_map, hl]; have := g.1; omega) (map_get (z := z - o) ?_) (same_upd nT)⟩
        unfold N
        rw [List.getElem?_zipWith, hz, ho]
      · intro H' gr
        exact kk H' T (s04.trans gr.1) (s04.free hT) (gr.done (by rw [List.length_map, hl]; exact Nat.le_refl _))
    · exact ite_t (by simp [hw]) (k4 hw H2 s02)
end
end CB
namespace CB
open PySem PySem.Spec PyProof.Rows L2
abbrev s_fewest : Stmt := top 37
abbrev N_fewest : List Str := ["ratios", "one", "other", "number"]
theorem sc_fewest : FnScope N_fewest ["ratios", "one", "other"] (defScope s_fewest) := ⟨rfl, rfl, rfl, by decide +kernel, rfl, by decide +kernel, by decide +kernel⟩
end CB

namespace CB
open PySem PySem.Spec PyProof.Rows L2
def sp_fewest (K : PySem.W.Frag) (mg : Str → Option Value) : Sp := fun vs H Q E => ∃ (a b c : Addr) (rs bs cs : List Int), vs = [.ref a, .ref b, .ref c] ∧ SqL K H a (rs.map V.int) ∧ SqL K H b (bs.map V.int) ∧ SqL K H c (cs.map V.int) ∧
  Two mg H E rs bs cs ((W rs bs = W rs cs → TellV H Q (.int (Nabs rs bs cs))) ∧ (W rs bs ≠ W rs cs → Raise mg "NoWay" H E))
section
variable {P : Program} {w : World} {K : PySem.W.Frag} {mg : Str → Option Value} {base : Heap}
theorem ok_fewest {f : Addr} {fd : FuncData} (F : Fun K "fewest" "fewest" s_fewest f fd) (B : Bi mg) (c_net : Callee P w K mg base 4 "net" ["ratios", "one", "other"] (sp_net K mg)) :
    FnOk P w K mg base (L2.CX P w) 5 f fd ["ratios", "one", "other"] (sp_fewest K mg) := by
  refine F.okX sc_fewest (fun vs H Q E h => ?_) (fun cdv A outer s H vs Q E hr h => ?_)
  · obtain ⟨a, b, c, rs, bs, cs, rfl, _⟩ := h
    rfl
  · obtain ⟨a, b, c, rs, bs, cs, rfl, hA, hB, hC, k, kF, kB⟩ := h
    have tk : Takes (cxOf (L2.CX P w) P w K mg base N_fewest "fewest" (defScope s_fewest) f cdv A outer s H E) (fun cls d _ H => E cls d H) := takes_of rfl rfl rfl rfl
    refine ⟨_, (pss_one (ps_ret (pe_callB (cr_sum rfl) (by rfl) B.sum (by decide +kernel) (pa_cons (pe_lc (own := [("number", 3)]) (g := gName 3) (tt := tYes) rfl sc_fewest.nd (pi_list (pe_f c_net hr (by decide) tk (pa_cons (pv 0) (pa_cons (pv 1) (pa_cons (pv 2) pa_nil))))) (blkOk_by (own := [("number", 3)]) (N := N_fewest) (sc := defScope s_fewest) (by decide +kernel)) (fun _ _ _ _ _ => pg_name (i := 3) sc_fewest.nd rfl (Or.inl rfl)) (fun _ _ _ _ _ => pts_nil) (fun _ _ _ _ _ => (pe_callB call_abs (by rfl) B.abs (by decide +kernel) (pa_cons (pv 3) pa_nil)))) pa_nil)))), ?_⟩
    refine ⟨_, rfl, _, rfl, _, rfl, a, b, c, rs, bs, cs, rfl, hA, hB, hC, fun g gb => ⟨(k g gb).1, fun gc => ⟨((k g gb).2.1 gc).1, fun hw H1 p1 s1 n1 e1 => ?_, ((k g gb).2.1 gc).2.2⟩, (k g gb).2.2⟩, kF, kB⟩
    have kk := ((k g gb).2.1 gc).2.1 hw
    have hl := N_len gb.1 gc.1
    have g11 := g.1
    refine ⟨p1, rfl, ⟨_, SqL.of e1⟩, fun T hT => ?_⟩
    refine lc_list (K := K) (a := p1) (xs := (N rs bs cs).map V.int) (Gr H1 T (((N rs bs cs).map abs').map V.int)) (Gr.zero _ hT) (fun i H' _ gr => gr.1.seq (SqL.of e1)) ?_ ?_
    · rintro i x H' hx gr
      obtain ⟨z, hz, rfl⟩ := get_map hx
      refine ⟨rfl, _, rfl, z, rfl, _, gr.step hT (by rw [List.length_map, List.length_map]; omega) (map_get (z := abs' z) ?_) (Same.refl _)⟩
      rw [List.getElem?_map, hz]
      rfl
    · intro H' gr
      refine ⟨T, _, rfl, SqL.of (gr.done (by rw [List.length_map, List.length_map, List.length_map]; exact Nat.le_refl _)), ?_⟩
      exact kk H' (s1.trans gr.1)
end
end CB
namespace CB
open PySem PySem.Spec PyProof.Rows L2
abbrev s_way : Stmt := top 38
abbrev N_way : List Str := ["ratios", "one", "other", "nets", "found", "line", "k"]
theorem sc_way : FnScope N_way ["ratios", "one", "other"] (defScope s_way) := ⟨rfl, rfl, rfl, by decide +kernel, rfl, by decide +kernel, by decide +kernel⟩
end CB

namespace CB
open PySem PySem.Spec PyProof.Rows L2
def sp_way (K : PySem.W.Frag) (mg : Str → Option Value) : Sp := fun vs H Q E => ∃ (a b c : Addr) (rs bs cs : List Int), vs = [.ref a, .ref b, .ref c] ∧ SqL K H a (rs.map V.int) ∧ SqL K H b (bs.map V.int) ∧ SqL K H c (cs.map V.int) ∧
  Two mg H E rs bs cs ((W rs bs = W rs cs → (Nabs rs bs cs ≤ 2000 → TellT H Q (wayL (N rs bs cs))) ∧ (2000 < Nabs rs bs cs → Raise mg "TooLong" H E)) ∧ (W rs bs ≠ W rs cs → Raise mg "NoWay" H E))
theorem max0 (x : Int) : (if x > 0 then x else 0).toNat = x.toNat := by split <;> omega
section
variable {P : Program} {w : World} {K : PySem.W.Frag} {mg : Str → Option Value} {base : Heap}
theorem ok_way {f : Addr} {fd : FuncData} (F : Fun K "way" "way" s_way f fd) (B : Bi mg) (m_MOST_STEPS : ∃ t, mg "MOST_STEPS" = some (.int 2000 t)) (e_TooLong : Er K mg "TooLong") (c_net : Callee P w K mg base 4 "net" ["ratios", "one", "other"] (sp_net K mg))
    (c_fewest : Callee P w K mg base 5 "fewest" ["ratios", "one", "other"] (sp_fewest K mg)) :
    FnOk P w K mg base (L2.CX P w) 6 f fd ["ratios", "one", "other"] (sp_way K mg) := by
  obtain ⟨tm, m_MOST_STEPS⟩ := m_MOST_STEPS
  refine F.okX sc_way (fun vs H Q E h => ?_) (fun cdv A outer s H vs Q E hr h => ?_)
  · obtain ⟨a, b, c, rs, bs, cs, rfl, _⟩ := h
    rfl
  · obtain ⟨a, b, c, rs, bs, cs, rfl, hA, hB, hC, k, kF, kB⟩ := h
    have tk : Takes (cxOf (L2.CX P w) P w K mg base N_way "way" (defScope s_way) f cdv A outer s H E) (fun cls d _ H => E cls d H) := takes_of rfl rfl rfl rfl
    refine ⟨_, (pss_cons (ps_set (i := 3) sc_way.nd rfl (Or.inl rfl) (pe_f c_net hr (by decide) tk (pa_cons (pv 0) (pa_cons (pv 1) (pa_cons (pv 2) pa_nil)))))
  (pss_cons (ps_if (pt_cmpR op_gt (pe_f c_fewest hr (by decide) tk (pa_cons (pv 0) (pa_cons (pv 1) (pa_cons (pv 2) pa_nil)))) (pe_glob (v := .int 2000) (by rfl) m_MOST_STEPS ⟨_, rfl⟩) (nomark _)) (pss_one (ps_raise rfl tk (pmk_own PySem.F.excBase_ValueError e_TooLong.xP e_TooLong.gC e_TooLong.kP (raises_own e_TooLong.bP e_TooLong.tP) (by rfl)))) pss_nil)
  (pss_cons (ps_set (i := 4) sc_way.nd rfl (Or.inl rfl) (pe_lst pa_nil))
  (pss_cons (ps_for (passes_of rfl) rfl (pi_revR (by rfl) B.reversed (prg_1 (by rfl) B.range (pe_callB call_len_seq (by rfl) B.len PySem.boot_len (pa_cons (pv 3) pa_nil)))) (pg_name (i := 5) sc_way.nd rfl (Or.inl rfl)) (pss_one (ps_for (passes_of rfl) rfl (pi_range1 (by rfl) B.range (pa_cons (pe_callB (call_max2 rfl) (by rfl) B.max (by decide +kernel) (pa_cons pe_int (pa_cons (pe_op op_sub pe_int (pe_ix ix_list (pv 3) (pv 5) (fun _ _ => rfl))) pa_nil))) pa_nil)) (pg_name (i := 6) sc_way.nd rfl (Or.inl rfl)) (pss_one (ps_expr (pe_bm PySem.F.plainAttrs_list PySem.F.slot_list_append PySem.F.type_list_append mt_append (pv 4) (pa_cons (pe_tup (pa_cons (pv 5) (pa_cons pe_bl pa_nil))) pa_nil)))))))
  (pss_cons (ps_for (passes_of rfl) rfl (pi_range1 (by rfl) B.range (pa_cons (pe_callB call_len_seq (by rfl) B.len PySem.boot_len (pa_cons (pv 3) pa_nil)) pa_nil)) (pg_name (i := 5) sc_way.nd rfl (Or.inl rfl)) (pss_one (ps_for (passes_of rfl) rfl (pi_range1 (by rfl) B.range (pa_cons (pe_callB (call_max2 rfl) (by rfl) B.max (by decide +kernel) (pa_cons pe_int (pa_cons (pe_ix ix_list (pv 3) (pv 5) (fun _ _ => rfl)) pa_nil))) pa_nil)) (pg_name (i := 6) sc_way.nd rfl (Or.inl rfl)) (pss_one (ps_expr (pe_bm PySem.F.plainAttrs_list PySem.F.slot_list_append PySem.F.type_list_append mt_append (pv 4) (pa_cons (pe_tup (pa_cons (pv 5) (pa_cons pe_bl pa_nil))) pa_nil)))))))
  (pss_one (ps_ret (pv 4)))))))), ?_⟩
    refine ⟨_, rfl, _, rfl, _, rfl, a, b, c, rs, bs, cs, rfl, hA, hB, hC, fun g gb => ⟨(k g gb).1, fun gc => ⟨((k g gb).2.1 gc).1, fun hw H1 p1 s1 n1 e1 => ?_, ((k g gb).2.1 gc).2.2⟩, (k g gb).2.2⟩, kF, kB⟩
    obtain ⟨kS, kL⟩ := ((k g gb).2.1 gc).2.1 hw
    have sb := (k g gb).1
    have sc := ((k g gb).2.1 gc).1
    have hl := N_len gb.1 gc.1
    have g11 := g.1
    refine ⟨_, rfl, _, rfl, _, rfl, a, b, c, rs, bs, cs, rfl, s1.seq hA, s1.seq hB, s1.seq hC, Two.good g gb gc sb sc ⟨fun _ H2 s2 => ?_, fun z => absurd hw z⟩⟩
    have s02 := s1.trans s2
    have f1 := s2 _ _ e1
    refine ⟨_, _, rfl, rfl, _, rfl, ite2 (fun e => ?_) (fun e => ?_)⟩
    · exact kL (of_decide_eq_true e) H2 s02
    · have hN : Nabs rs bs cs ≤ 2000 := by
        have : ¬ 2000 < Nabs rs bs cs := fun z => e (decide_eq_true z)
        omega
      have kk := kS hN
      clear kS kL
      have hwl : ((wayL (N rs bs cs)).length : Int) = Nabs rs bs cs := wayL_len _
      have hab : ∀ x ∈ N rs bs cs, abs' x ≤ Nabs rs bs cs := fun x hx => abs_le_sum hx
      generalize Nabs rs bs cs = M at hN hwl hab
      generalize N rs bs cs = ns at *
      have hwd : (downP ns ns.length).length + (upP ns ns.length).length = (wayL ns).length := by unfold wayL; rw [List.length_append]
      refine ⟨by show 0 ≤ sizeLine; decide, fun p hp => ?_⟩
      have sp0 := same_upd (o := .lst []) hp
      refine ⟨_, rfl, p1, _, rfl, .inl (SqL.of (sp0 _ _ f1)), _, rfl, by decide, by decide, by rw [List.length_map]; omega, by rw [List.length_map]; omega, ?_⟩
      rw [List.length_map]
      rw [show ((ns.length : Int) - 0).toNat = ns.length by omega]
      refine for_rangeC (fun i σ H' => ∃ (v u : Option V) (ts : List Addr), σ = [some (.ref a), some (.ref b), some (.ref c), some (.ref p1), some (.ref p), v, u] ∧ Same H2 H' ∧ H' p = some (.lst (ts.map V.ref)) ∧ Tups H' ts (downP ns i))
        ⟨none, none, [], rfl, sp0, upd_same, trivial⟩ ?_ ?_
      · rintro i σ H' hi ⟨v, u, ts, rfl, sm, hP, ht⟩
        obtain ⟨L, hL⟩ : ∃ L, L = ns.length - 1 - i := ⟨_, rfl⟩
        have ex : (0 : Int) + (ns.length : Int) - 1 + ((i : Nat) : Int) * -1 = (L : Int) := by omega
        rw [ex]
        have hLl : L < ns.length := by omega
        have ax : atI (ns.map V.int) (L : Int) = some (.int (ns.getD L 0)) := atI_nat (map_get (getD_of hLl))
        have hx := hab _ (List.mem_of_getElem? (getD_of hLl))
        have hx2 : -2000 ≤ ns.getD L 0 ∧ ns.getD L 0 ≤ 2000 := by
          unfold abs' at hx
          split at hx <;> omega
        have hdm := downP_mono ns (i := i + 1) (j := ns.length) (by omega)
        have hde : downP ns (i + 1) = downP ns i ++ List.replicate (0 - ns.getD L 0).toNat ((L : Int), false) := by rw [hL]; rfl
        have hdl : (downP ns (i + 1)).length = (downP ns i).length + (0 - ns.getD L 0).toNat := by rw [hde, List.length_append, List.length_replicate]
        rw [hde]
        refine ⟨_, rfl, _, rfl, p1, _, _, _, rfl, rfl, SqL.of (sm _ _ f1), ax, _, _, rfl, rfl, _, _, rfl, _, rfl, by split <;> omega, by split <;> omega, ?_⟩
        rw [max0]
        refine for_range (fun j σ H' => ∃ (u : Option V) (ts : List Addr), σ = [some (.ref a), some (.ref b), some (.ref c), some (.ref p1), some (.ref p), some (.int (L : Int)), u] ∧ Same H2 H' ∧ H' p = some (.lst (ts.map V.ref)) ∧ Tups H' ts (downP ns i ++ List.replicate j ((L : Int), false)))
          ⟨_, ts, rfl, sm, hP, by rw [List.replicate_zero, List.append_nil]; exact ht⟩ ?_ ?_
        · rintro j σ H' hj ⟨u, ts, rfl, sm, hP, ht⟩
          have htl := ht.len
          rw [List.length_append, List.length_replicate] at htl
          refine ⟨_, rfl, .inl ⟨rfl, _, SqL.of hP⟩, _, rfl, by show 2 ≤ sizeLine; decide, fun t nt => ?_⟩
          obtain ⟨x1, x2, x3⟩ := tup_app ((L : Int), false) hP ht nt
          refine ⟨p, _, _, rfl, rfl, same_upd nt _ _ hP, by rw [List.length_map]; exact small64 (by omega), ?_⟩
          refine ⟨_, _, rfl, x3 _ sm hp, x2, ?_⟩
          rw [List.replicate_succ', ← List.append_assoc]
          exact x1
        · rintro σ H' ⟨u, ts, rfl, sm, hP, ht⟩
          exact ⟨_, _, _, rfl, sm, hP, ht⟩
      · rintro σ H' ⟨v, u, ts, rfl, sm, hP, ht⟩
        refine ⟨_, rfl, p1, _, rfl, .inl (SqL.of (sm _ _ f1)), _, rfl, by rw [List.length_map]; omega, by rw [List.length_map]; omega, ?_⟩
        rw [List.length_map, Int.toNat_natCast]
        refine for_range (fun i σ H' => ∃ (v u : Option V) (ts : List Addr), σ = [some (.ref a), some (.ref b), some (.ref c), some (.ref p1), some (.ref p), v, u] ∧ Same H2 H' ∧ H' p = some (.lst (ts.map V.ref)) ∧ Tups H' ts (downP ns ns.length ++ upP ns i))
          ⟨_, _, ts, rfl, sm, hP, by show Tups _ _ (_ ++ []); rw [List.append_nil]; exact ht⟩ ?_ ?_
        · rintro L σ H' hLl ⟨v, u, ts, rfl, sm, hP, ht⟩
          have ax : atI (ns.map V.int) (0 + (L : Int)) = some (.int (ns.getD L 0)) := at_of (j := L) (by omega) (map_get (getD_of hLl))
          have hx := hab _ (List.mem_of_getElem? (getD_of hLl))
          have hx2 : -2000 ≤ ns.getD L 0 ∧ ns.getD L 0 ≤ 2000 := by
            unfold abs' at hx
            split at hx <;> omega
          have hdm := upP_mono ns (i := L + 1) (j := ns.length) (by omega)
          have hde : upP ns (L + 1) = upP ns L ++ List.replicate (ns.getD L 0).toNat ((L : Int), true) := rfl
          have hdl : (upP ns (L + 1)).length = (upP ns L).length + (ns.getD L 0).toNat := by rw [hde, List.length_append, List.length_replicate]
          rw [hde, ← List.append_assoc]
          refine ⟨_, rfl, _, rfl, p1, _, _, _, rfl, rfl, SqL.of (sm _ _ f1), ax, _, _, rfl, _, rfl, by split <;> omega, by split <;> omega, ?_⟩
          rw [max0]
          refine for_range (fun j σ H' => ∃ (u : Option V) (ts : List Addr), σ = [some (.ref a), some (.ref b), some (.ref c), some (.ref p1), some (.ref p), some (.int (0 + (L : Int))), u] ∧ Same H2 H' ∧ H' p = some (.lst (ts.map V.ref)) ∧ Tups H' ts ((downP ns ns.length ++ upP ns L) ++ List.replicate j ((L : Int), true)))
            ⟨_, ts, rfl, sm, hP, by rw [List.replicate_zero, List.append_nil]; exact ht⟩ ?_ ?_
          · rintro j σ H' hj ⟨u, ts, rfl, sm, hP, ht⟩
            have htl := ht.len
            rw [List.length_append, List.length_append, List.length_replicate] at htl
            refine ⟨_, rfl, .inl ⟨rfl, _, SqL.of hP⟩, _, rfl, by show 2 ≤ sizeLine; decide, fun t nt => ?_⟩
            obtain ⟨x1, x2, x3⟩ := tup_app ((0 : Int) + (L : Int), true) hP ht nt
            refine ⟨p, _, _, rfl, rfl, same_upd nt _ _ hP, by rw [List.length_map]; exact small64 (by omega), ?_⟩
            refine ⟨_, _, rfl, x3 _ sm hp, x2, ?_⟩
            rw [List.replicate_succ', ← List.append_assoc]
            have e0 : [((0 : Int) + (L : Int), true)] = [((L : Int), true)] := by rw [Int.zero_add]
            rw [e0] at x1
            exact x1
          · rintro σ H' ⟨u, ts, rfl, sm, hP, ht⟩
            exact ⟨_, _, _, rfl, sm, hP, ht⟩
        · rintro σ H' ⟨v, u, ts, rfl, sm, hP, ht⟩
          exact ⟨_, rfl, kk H' p ts (s02.trans sm) (s02.free hp) hP ht⟩
end
end CB
namespace CB
open PySem PySem.Spec PyProof.Rows L2
abbrev s_law_word_of : Stmt := top 41
abbrev N_law_word_of : List Str := ["e", "kinds"]
theorem sc_law_word_of : FnScope N_law_word_of ["e"] (defScope s_law_word_of) := ⟨rfl, rfl, rfl, by decide +kernel, rfl, by decide +kernel, by decide +kernel⟩
end CB

namespace CB
open PySem PySem.Spec PyProof.Rows L2
/-! ### the word for the class of what was refused -/
def clsL : List Str := ["NoFrame", "NoBoard", "NoNumber", "NoStep", "NoWay", "TooLong", "NoLess", "NoNote"]
def wordL : List Str := ["frame", "board", "number", "step", "way", "long", "less", "note"]
theorem er_g {mg : Str → Option Value} {x : Str} {C : Addr} (g : mg x = some (.ref C)) : mg x = some (.ref (ErA mg x)) := by
  have e : ErA mg x = C := by unfold ErA; rw [g]
  rw [e]; exact g
/-- D is the class of the n-th refusals, and of no others -/
structure Wd (K : PySem.W.Frag) (mg : Str → Option Value) (D : Addr) (n : Nat) : Prop where
  C : ExcC K D
  lt : n < 8
  is : ∀ i x, clsL[i]? = some x → PySem.W.kitOne K (.ref D) (.ref (ErA mg x)) = some (decide (i = n))
  ve : PySem.W.kitOne K (.ref D) (.type "ValueError") = some true
  bd : PySem.W.exmOne K (.ref D) (.ref (ErA mg "BoardError")) = some true
theorem wd_mk {K : PySem.W.Frag} {mg : Str → Option Value} {x : Str} {n : Nat} {D c0 c1 c2 c3 c4 c5 c6 c7 cb : Addr} (gx : mg x = some (.ref D)) (C : ExcC K D) (g0 : mg "NoFrame" = some (.ref c0)) (g1 : mg "NoBoard" = some (.ref c1)) (g2 : mg "NoNumber" = some (.ref c2))
    (g3 : mg "NoStep" = some (.ref c3)) (g4 : mg "NoWay" = some (.ref c4)) (g5 : mg "TooLong" = some (.ref c5)) (g6 : mg "NoLess" = some (.ref c6)) (g7 : mg "NoNote" = some (.ref c7)) (gb : mg "BoardError" = some (.ref cb))
    (q0 : PySem.W.kitOne K (.ref D) (.ref c0) = some (decide (0 = n))) (q1 : PySem.W.kitOne K (.ref D) (.ref c1) = some (decide (1 = n))) (q2 : PySem.W.kitOne K (.ref D) (.ref c2) = some (decide (2 = n))) (q3 : PySem.W.kitOne K (.ref D) (.ref c3) = some (decide (3 = n)))
    (q4 : PySem.W.kitOne K (.ref D) (.ref c4) = some (decide (4 = n))) (q5 : PySem.W.kitOne K (.ref D) (.ref c5) = some (decide (5 = n))) (q6 : PySem.W.kitOne K (.ref D) (.ref c6) = some (decide (6 = n))) (q7 : PySem.W.kitOne K (.ref D) (.ref c7) = some (decide (7 = n)))
    (qv : PySem.W.kitOne K (.ref D) (.type "ValueError") = some true) (qb : PySem.W.exmOne K (.ref D) (.ref cb) = some true) (lt : n < 8 := by decide) : Wd K mg (ErA mg x) n := by
  have ea : ∀ {y : Str} {c : Addr}, mg y = some (.ref c) → ErA mg y = c := fun {y c} g => by unfold ErA; rw [g]
  rw [ea gx]
  refine ⟨C, lt, fun i y hy => ?_, qv, by rw [ea gb]; exact qb⟩
  match i, hy with
  | 0, h => cases h; rw [ea g0]; exact q0
  | 1, h => cases h; rw [ea g1]; exact q1
  | 2, h => cases h; rw [ea g2]; exact q2
  | 3, h => cases h; rw [ea g3]; exact q3
  | 4, h => cases h; rw [ea g4]; exact q4
  | 5, h => cases h; rw [ea g5]; exact q5
  | 6, h => cases h; rw [ea g6]; exact q6
  | 7, h => cases h; rw [ea g7]; exact q7
  | k + 8, h => cases h
def sp_law_word_of (K : PySem.W.Frag) (mg : Str → Option Value) : SpE := fun a D vs H Q _ => ∃ n, Wd K mg D n ∧ vs = [.ref a] ∧ TellV H Q (.str (wordL.getD n ""))
def kindL (n : Nat) : List V := [.bl (decide (0 = n)), .bl (decide (1 = n)), .bl (decide (2 = n)), .bl (decide (3 = n))] ++ [.bl (decide (4 = n)), .bl (decide (5 = n)), .bl (decide (6 = n)), .bl (decide (7 = n))]
theorem kind_flat (n : Nat) : (kindL n).all flatV = true := rfl
theorem kind_at : ∀ n, n < 8 → (kindL n)[n]? = some (.bl true) := by
  intro n h
  match n, h with
  | 0, _ => rfl
  | 1, _ => rfl
  | 2, _ => rfl
  | 3, _ => rfl
  | 4, _ => rfl
  | 5, _ => rfl
  | 6, _ => rfl
  | 7, _ => rfl
  | k + 8, h => omega
theorem kind_count : ∀ n, n < 8 → (kindL n).countP (fun z => eqV z (.bl true)) = 1 := by
  intro n h
  match n, h with
  | 0, _ => rfl
  | 1, _ => rfl
  | 2, _ => rfl
  | 3, _ => rfl
  | 4, _ => rfl
  | 5, _ => rfl
  | 6, _ => rfl
  | 7, _ => rfl
  | k + 8, h => omega
theorem kind_get (n : Nat) : ∀ m z, (kindL n)[m]? = some z → z = V.bl (decide (m = n)) := by
  intro m z h
  match m, h with
  | 0, h => cases h; rfl
  | 1, h => cases h; rfl
  | 2, h => cases h; rfl
  | 3, h => cases h; rfl
  | 4, h => cases h; rfl
  | 5, h => cases h; rfl
  | 6, h => cases h; rfl
  | 7, h => cases h; rfl
  | k + 8, h => cases h
theorem word_at : ∀ n, n < 8 → (wordL.map V.str)[n]? = some (.str (wordL.getD n "")) := by
  intro n h
  match n, h with
  | 0, _ => rfl
  | 1, _ => rfl
  | 2, _ => rfl
  | 3, _ => rfl
  | 4, _ => rfl
  | 5, _ => rfl
  | 6, _ => rfl
  | 7, _ => rfl
  | k + 8, h => omega
section
variable {P : Program} {w : World} {K : PySem.W.Frag} {mg : Str → Option Value} {base : Heap}
theorem ok_law_word_of {f : Addr} {fd : FuncData} (F : Fun K "_law_word_of" "_law_word_of" s_law_word_of f fd) (B : Bi mg) (e_NoFrame : Er K mg "NoFrame") (e_NoBoard : Er K mg "NoBoard") (e_NoNumber : Er K mg "NoNumber") (e_NoStep : Er K mg "NoStep")
    (e_NoWay : Er K mg "NoWay") (e_TooLong : Er K mg "TooLong") (e_NoLess : Er K mg "NoLess") (e_NoNote : Er K mg "NoNote") : FnE P w K mg base 1 f fd ["e"] (sp_law_word_of K mg) := by
  refine fun_okE F sc_law_word_of (fun a D vs H Q E h => ?_) (fun cdv A outer s H vs Q E p D hex hr h => ?_)
  · obtain ⟨n, _, rfl, _⟩ := h; rfl
  · obtain ⟨a, oe⟩ := p
    obtain ⟨n, hW, rfl, h⟩ := h
    obtain ⟨hz, hf⟩ := hex
    have hn := hW.lt
    refine ⟨_, (pss_cons (ps_set (i := 1) sc_law_word_of.nd rfl (Or.inl rfl) (pe_lst (pa_cons (pe_callB (call_isP List.mem_cons_self hW.C hz hf) (by rfl) B.isinstance (by decide +kernel) (pa_cons (pv 0) (pa_cons (pe_glob (v := .ref (ErA mg "NoFrame")) (by rfl) e_NoFrame.gC rfl) pa_nil))) (pa_cons (pe_callB (call_isP List.mem_cons_self hW.C hz hf) (by rfl) B.isinstance (by decide +kernel) (pa_cons (pv 0) (pa_cons (pe_glob (v := .ref (ErA mg "NoBoard")) (by rfl) e_NoBoard.gC rfl) pa_nil))) (pa_cons (pe_callB (call_isP List.mem_cons_self hW.C hz hf) (by rfl) B.isinstance (by decide +kernel) (pa_cons (pv 0) (pa_cons (pe_glob (v := .ref (ErA mg "NoNumber")) (by rfl) e_NoNumber.gC rfl) pa_nil))) (pa_cons (pe_callB (call_isP List.mem_cons_self hW.C hz hf) (by rfl) B.isinstance (by decide +kernel) (pa_cons (pv 0) (pa_cons (pe_glob (v := .ref (ErA mg "NoStep")) (by rfl) e_NoStep.gC rfl) pa_nil))) pa_nil))))))
  (pss_cons (ps_set (i := 1) sc_law_word_of.nd rfl (Or.inl rfl) (pe_op op_cat (pv 1) (pe_lst (pa_cons (pe_callB (call_isP List.mem_cons_self hW.C hz hf) (by rfl) B.isinstance (by decide +kernel) (pa_cons (pv 0) (pa_cons (pe_glob (v := .ref (ErA mg "NoWay")) (by rfl) e_NoWay.gC rfl) pa_nil))) (pa_cons (pe_callB (call_isP List.mem_cons_self hW.C hz hf) (by rfl) B.isinstance (by decide +kernel) (pa_cons (pv 0) (pa_cons (pe_glob (v := .ref (ErA mg "TooLong")) (by rfl) e_TooLong.gC rfl) pa_nil))) (pa_cons (pe_callB (call_isP List.mem_cons_self hW.C hz hf) (by rfl) B.isinstance (by decide +kernel) (pa_cons (pv 0) (pa_cons (pe_glob (v := .ref (ErA mg "NoLess")) (by rfl) e_NoLess.gC rfl) pa_nil))) (pa_cons (pe_callB (call_isP List.mem_cons_self hW.C hz hf) (by rfl) B.isinstance (by decide +kernel) (pa_cons (pv 0) (pa_cons (pe_glob (v := .ref (ErA mg "NoNote")) (by rfl) e_NoNote.gC rfl) pa_nil))) pa_nil)))))))
  (pss_cons (ps_if (pw_or (pt_cmpR op_ne (pe_bm PySem.F.plainAttrs_list PySem.F.slot_list_count PySem.F.type_list_count mt_countV (pv 1) (pa_cons pe_bl pa_nil)) pe_int (nomark _)) (pw_or1 (pt_not (pt_val (pe_callB (call_isP List.mem_cons_self hW.C hz hf) (by rfl) B.isinstance (by decide +kernel) (pa_cons (pv 0) (pa_cons (pe_bltn (v := .ty "ValueError") (by rfl) B.ValueError (by decide +kernel) rfl) pa_nil))))))).pt (pss_one (ps_ret pe_str)) pss_nil)
  (pss_one (ps_ret (pe_ix ix_list (pe_lst (pa_cons pe_str (pa_cons pe_str (pa_cons pe_str (pa_cons pe_str (pa_cons pe_str (pa_cons pe_str (pa_cons pe_str (pa_cons pe_str pa_nil))))))))) (pe_bm PySem.F.plainAttrs_list PySem.F.slot_list_index PySem.F.type_list_index mt_index (pv 1) (pa_cons pe_bl pa_nil)) (fun _ _ => rfl))))))), ?_⟩
    refine ⟨_, rfl, _, _, _, rfl, fun u r => r, hW.is 0 _ rfl, _, rfl, _, _, _, rfl, fun u r => r, hW.is 1 _ rfl, _, rfl, _, _, _, rfl, fun u r => r, hW.is 2 _ rfl, _, rfl, _, _, _, rfl, fun u r => r, hW.is 3 _ rfl, by show 4 ≤ sizeLine; decide, fun l nl => ?_⟩
    have hl : upd H l (.lst [.bl (decide (0 = n)), .bl (decide (1 = n)), .bl (decide (2 = n)), .bl (decide (3 = n))]) l = some (.lst [.bl (decide (0 = n)), .bl (decide (1 = n)), .bl (decide (2 = n)), .bl (decide (3 = n))]) := upd_same
    have s1 := same_upd (o := .lst [.bl (decide (0 = n)), .bl (decide (1 = n)), .bl (decide (2 = n)), .bl (decide (3 = n))]) nl
    generalize upd H l (.lst [.bl (decide (0 = n)), .bl (decide (1 = n)), .bl (decide (2 = n)), .bl (decide (3 = n))]) = H1 at hl s1
    refine ⟨_, rfl, _, rfl, _, _, _, rfl, fun u r => r, hW.is 4 _ rfl, _, rfl, _, _, _, rfl, fun u r => r, hW.is 5 _ rfl, _, rfl, _, _, _, rfl, fun u r => r, hW.is 6 _ rfl, _, rfl, _, _, _, rfl, fun u r => r, hW.is 7 _ rfl, by show 4 ≤ sizeLine; decide, fun m nm => ?_⟩
    have s2 := same_upd (o := .lst [.bl (decide (4 = n)), .bl (decide (5 = n)), .bl (decide (6 = n)), .bl (decide (7 = n))]) nm
    refine ⟨l, m, _, _, rfl, rfl, s2 _ _ hl, upd_same, by show 4 + 4 ≤ sizeLine; decide, fun k nk => ?_⟩
    have s3 := same_upd (o := .lst (kindL n)) nk
    have hk : upd (upd H1 m (.lst [.bl (decide (4 = n)), .bl (decide (5 = n)), .bl (decide (6 = n)), .bl (decide (7 = n))])) k (.lst (kindL n)) k = some (.lst (kindL n)) := upd_same
    have s4 := (s1.trans s2).trans s3
    show tSeq _ _ _ _ (upd (upd H1 m (.lst [.bl (decide (4 = n)), .bl (decide (5 = n)), .bl (decide (6 = n)), .bl (decide (7 = n))])) k (.lst (kindL n)))
    generalize upd (upd H1 m (.lst [.bl (decide (4 = n)), .bl (decide (5 = n)), .bl (decide (6 = n)), .bl (decide (7 = n))])) k (.lst (kindL n)) = H2 at hk s4
    refine ⟨_, rfl, .inl ⟨rfl, _, SqL.of hk⟩, _, _, .bl true, rfl, rfl, SqL.of hk, rfl, kind_flat n, ?_⟩
    rw [kind_count n hn]
    refine ⟨rfl, _, rfl, ite_f rfl ?_⟩
    refine ⟨_, rfl, _, _, _, rfl, fun u r => r, hW.ve, _, rfl, ite_f rfl ?_⟩
    refine ⟨by show 8 ≤ sizeLine; decide, fun r nr => ?_⟩
    have s5 := same_upd (o := .lst (wordL.map V.str)) nr
    refine ⟨_, rfl, .inl ⟨rfl, _, SqL.of (s5 _ _ hk)⟩, _, _, .bl true, n, _, rfl, rfl, SqL.of (s5 _ _ hk), rfl, kind_flat n, kind_at n hn, rfl, fun m z hm hz => ?_, ?_⟩
    · rw [kind_get n m z hz, decide_eq_false (by omega)]
      rfl
    · refine ⟨r, _, _, _, rfl, rfl, SqL.of (upd_same (o := .lst (wordL.map V.str))), atI_nat (word_at n hn), ?_⟩
      exact h _ (s4.trans s5)
end
end CB
namespace CB
open PySem PySem.Spec PyProof.Rows L2
abbrev s_law_cell_at : Stmt := top 40
abbrev N_law_cell_at : List Str := ["script", "k"]
theorem sc_law_cell_at : FnScope N_law_cell_at ["script", "k"] (defScope s_law_cell_at) := ⟨rfl, rfl, rfl, by decide +kernel, rfl, by decide +kernel, by decide +kernel⟩
end CB

namespace CB
open PySem PySem.Spec PyProof.Rows L2
def cell (ns : List Int) (k : Int) : Int := ns.getD k.toNat 0
def sp_law_cell_at (K : PySem.W.Frag) (_ : Str → Option Value) : Sp := fun vs H Q _ => ∃ (a : Addr) (ns : List Int) (k : Int), vs = [.ref a, .int k] ∧ SqL K H a (ns.map V.int) ∧ 0 ≤ k ∧ Q (.int (cell ns k)) H
section
variable {P : Program} {w : World} {K : PySem.W.Frag} {mg : Str → Option Value} {base : Heap}
theorem ok_law_cell_at {f : Addr} {fd : FuncData} (F : Fun K "_law_cell_at" "_law_cell_at" s_law_cell_at f fd) (B : Bi mg) : FnOk P w K mg base (L2.CX P w) 1 f fd ["script", "k"] (sp_law_cell_at K mg) := by
  refine F.okX sc_law_cell_at (fun vs H Q E h => ?_) (fun cdv A outer s H vs Q E hr h => ?_)
  · obtain ⟨a, ns, k, rfl, _⟩ := h
    rfl
  · obtain ⟨a, ns, k, rfl, hS, h0, q⟩ := h
    refine ⟨_, (pss_cons (ps_if (pt_cmpR op_lt (pv 1) (pe_callB call_len_seq (by rfl) B.len PySem.boot_len (pa_cons (pv 0) pa_nil)) (nomark _)) (pss_one (ps_ret (pe_ix ix_list (pv 0) (pv 1) (fun _ _ => rfl)))) pss_nil)
  (pss_one (ps_ret pe_int))), ?_⟩
    refine ⟨_, rfl, _, rfl, a, _, rfl, .inl hS, _, _, rfl, rfl, _, rfl, ite2 (fun e => ?_) (fun e => ?_)⟩
    · have e1 := of_decide_eq_true e
      rw [List.length_map] at e1
      have hk : k.toNat < ns.length := by omega
      refine ⟨_, rfl, _, rfl, a, _, _, .int (cell ns k), rfl, rfl, hS, ?_, q⟩
      refine at_of (j := k.toNat) (by omega) (map_get ?_)
      unfold cell
      rw [List.getElem?_eq_getElem hk, List.getD_eq_getElem?_getD, List.getElem?_eq_getElem hk]
      all_goals rfl
    · have hk : ¬ k.toNat < ns.length := fun z => e (decide_eq_true (by rw [List.length_map]; omega))
      have e0 : cell ns k = 0 := by
        unfold cell
        rw [List.getD_eq_getElem?_getD, List.getElem?_eq_none (by omega)]
        all_goals rfl
      rw [e0] at q
      exact q
end
end CB
namespace CB
open PySem PySem.Spec PyProof.Rows L2
abbrev s_law_first : Stmt := top 42
abbrev N_law_first : List Str := ["which", "ratios", "board"]
theorem sc_law_first : FnScope N_law_first ["which", "ratios", "board"] (defScope s_law_first) := ⟨rfl, rfl, rfl, by decide +kernel, rfl, by decide +kernel, by decide +kernel⟩
end CB

namespace CB
open PySem PySem.Spec PyProof.Rows L2
/-! ### each def, handed a frame and a board -/
def Fit (bs : List Int) : Prop := BS bs ∧ ∀ x ∈ bs, x < 10 ^ 30
def First (w : Nat) (rs bs : List Int) (o : Option Str) : Prop :=
  (12 ≤ w ∧ o = none) ∨ (w < 12 ∧ ¬ GF rs ∧ o = some "NoFrame") ∨ (GF rs ∧ ((w = 0 ∧ o = none) ∨ (w = 1 ∧ bs.length = 0 ∧ o = some "NoNumber") ∨ (w = 1 ∧ 0 < bs.length ∧ o = none) ∨ (w = 2 ∧ o = some "NoNote") ∨
    (3 ≤ w ∧ w ≤ 11 ∧ ¬ GB rs bs ∧ o = some "NoBoard") ∨ (3 ≤ w ∧ w ≤ 8 ∧ GB rs bs ∧ Fit bs ∧ o = none)))
def Out (mg : Str → Option Value) (H : Hp) (Q : VK) (E : XK) : Option Str → Prop
  | none => ∀ H', Same H H' → Q .non H'
  | some x => Raise mg x H E
theorem dec_nat (k j : Nat) : decide (V.int (k : Int) = V.int (j : Int)) = decide (k = j) := by
  by_cases h : k = j
  · subst h; simp
  · have : ¬ V.int (k : Int) = V.int (j : Int) := fun q => h (by have := V.int.inj q; omega)
    simp [h, this]
theorem dec_ne {k j : Nat} (h : k ≠ j) : decide (V.int (k : Int) = V.int (j : Int)) = false := by rw [dec_nat]; exact decide_eq_false h
def sp_law_first (K : PySem.W.Frag) (mg : Str → Option Value) : Sp := fun vs H Q E => ∃ (w : Nat) (a b : Addr) (rs bs : List Int) (o : Option Str), vs = [.int (w : Int), .ref a, .ref b] ∧ SqL K H a (rs.map V.int) ∧ SqL K H b (bs.map V.int) ∧ First w rs bs o ∧ bs.length ≤ 1000 ∧ Out mg H Q E o
theorem x_split : Txt.split (Str.ofString "x") bar = [Str.ofString "x"] := by
  have h : Part (Str.ofString "x") := ⟨by rw [TL.tl_ofString]; decide, by decide, .inl (bad_char (c := 120) (by rw [TL.tl_ofString]; decide) (by decide))⟩
  have := TL.split_join (parts := [Str.ofString "x"]) tl_bar (by decide +kernel) (by simp) (fun p hp => by rw [List.mem_singleton.mp hp]; exact h.1)
  rw [TL.join_eq] at this
  exact this
theorem x_bad : BadZ (Str.ofString "x") := bad_char (c := 120) (by rw [TL.tl_ofString]; decide) (by decide)
section
variable {P : Program} {w : World} {K : PySem.W.Frag} {mg : Str → Option Value} {base : Heap}
theorem ok_law_first {f : Addr} {fd : FuncData} (F : Fun K "_law_first" "_law_first" s_law_first f fd) (B : Bi mg) (c_worths : Callee P w K mg base 2 "worths" ["ratios"] (sp_worths K mg)) (c_board_of : Callee P w K mg base 2 "board_of" ["ratios", "number"] (sp_board_of K mg))
    (c_read : Callee P w K mg base 2 "read" ["ratios", "text"] (sp_read K mg)) (c_worth : Callee P w K mg base 3 "worth" ["ratios", "board"] (sp_worth K mg)) (c_is_plain : Callee P w K mg base 3 "is_plain" ["ratios", "board"] (sp_is_plain K mg))
    (c_plain : Callee P w K mg base 4 "plain" ["ratios", "board"] (sp_plain K mg)) (c_can : Callee P w K mg base 3 "can" ["ratios", "board"] (sp_can K mg)) (c_raisings : Callee P w K mg base 3 "raisings" ["ratios", "board"] (sp_raisings K mg))
    (c_shown : Callee P w K mg base 3 "shown" ["ratios", "board"] (sp_shown K mg)) (c_times : Callee P w K mg base 4 "times" ["ratios", "board", "number"] (sp_times K mg)) (c_parted : Callee P w K mg base 4 "parted" ["ratios", "board", "number"] (sp_parted K mg))
    (c_stepped : Callee P w K mg base 3 "stepped" ["ratios", "board", "line", "up"] (sp_stepped K mg)) :
    FnOk P w K mg base (L2.CX P w) 5 f fd ["which", "ratios", "board"] (sp_law_first K mg) := by
  refine F.okX sc_law_first (fun vs H Q E h => ?_) (fun cdv A outer s H vs Q E hr h => ?_)
  · obtain ⟨w, a, b, rs, bs, o, rfl, _⟩ := h
    rfl
  · obtain ⟨wh, a, b, rs, bs, o, rfl, hA, hB, hF, hbl, k⟩ := h
    have tk : Takes (cxOf (L2.CX P w) P w K mg base N_law_first "_law_first" (defScope s_law_first) f cdv A outer s H E) (fun cls d _ H => E cls d H) := takes_of rfl rfl rfl rfl
    refine ⟨_, (pss_cons (ps_if (pt_cmpR op_eq (pv 0) pe_int (nomark _)) (pss_one (ps_expr (pe_f c_worths hr (by decide) tk (pa_cons (pv 1) pa_nil)))) pss_nil)
  (pss_cons (ps_if (pt_cmpR op_eq (pv 0) pe_int (nomark _)) (pss_one (ps_expr (pe_f c_board_of hr (by decide) tk (pa_cons (pv 1) (pa_cons (pe_op op_sub (pe_callB call_len_seq (by rfl) B.len PySem.boot_len (pa_cons (pv 2) pa_nil)) pe_int) pa_nil))))) pss_nil)
  (pss_cons (ps_if (pt_cmpR op_eq (pv 0) pe_int (nomark _)) (pss_one (ps_expr (pe_f c_read hr (by decide) tk (pa_cons (pv 1) (pa_cons pe_str pa_nil))))) pss_nil)
  (pss_cons (ps_if (pt_cmpR op_eq (pv 0) pe_int (nomark _)) (pss_one (ps_expr (pe_f c_worth hr (by decide) tk (pa_cons (pv 1) (pa_cons (pv 2) pa_nil))))) pss_nil)
  (pss_cons (ps_if (pt_cmpR op_eq (pv 0) pe_int (nomark _)) (pss_one (ps_expr (pe_f c_is_plain hr (by decide) tk (pa_cons (pv 1) (pa_cons (pv 2) pa_nil))))) pss_nil)
  (pss_cons (ps_if (pt_cmpR op_eq (pv 0) pe_int (nomark _)) (pss_one (ps_expr (pe_f c_plain hr (by decide) tk (pa_cons (pv 1) (pa_cons (pv 2) pa_nil))))) pss_nil)
  (pss_cons (ps_if (pt_cmpR op_eq (pv 0) pe_int (nomark _)) (pss_one (ps_expr (pe_f c_can hr (by decide) tk (pa_cons (pv 1) (pa_cons (pv 2) pa_nil))))) pss_nil)
  (pss_cons (ps_if (pt_cmpR op_eq (pv 0) pe_int (nomark _)) (pss_one (ps_expr (pe_f c_raisings hr (by decide) tk (pa_cons (pv 1) (pa_cons (pv 2) pa_nil))))) pss_nil)
  (pss_cons (ps_if (pt_cmpR op_eq (pv 0) pe_int (nomark _)) (pss_one (ps_expr (pe_f c_shown hr (by decide) tk (pa_cons (pv 1) (pa_cons (pv 2) pa_nil))))) pss_nil)
  (pss_cons (ps_if (pt_cmpR op_eq (pv 0) pe_int (nomark _)) (pss_one (ps_expr (pe_f c_times hr (by decide) tk (pa_cons (pv 1) (pa_cons (pv 2) (pa_cons (pe_un un_neg pe_int) pa_nil)))))) pss_nil)
  (pss_cons (ps_if (pt_cmpR op_eq (pv 0) pe_int (nomark _)) (pss_one (ps_expr (pe_f c_parted hr (by decide) tk (pa_cons (pv 1) (pa_cons (pv 2) (pa_cons pe_int pa_nil)))))) pss_nil)
  (pss_one (ps_if (pt_cmpR op_eq (pv 0) pe_int (nomark _)) (pss_one (ps_expr (pe_f c_stepped hr (by decide) tk (pa_cons (pv 1) (pa_cons (pv 2) (pa_cons (pe_un un_neg pe_int) (pa_cons pe_bl pa_nil))))))) pss_nil))))))))))))), ?_⟩
    have kF : wh < 12 → ¬ GF rs → E (.ref (ErA mg "NoFrame")) none H := fun h1 h2 => by
      rcases hF with ⟨h, _⟩ | ⟨_, _, e⟩ | ⟨h, _⟩
      · omega
      · rw [e] at k; exact k H (Same.refl H)
      · exact absurd h h2
    have kB : 3 ≤ wh → wh ≤ 11 → GF rs → ¬ GB rs bs → E (.ref (ErA mg "NoBoard")) none H := fun h1 h2 h3 h4 => by
      rcases hF with ⟨h, _⟩ | ⟨_, h, _⟩ | ⟨_, h⟩
      · omega
      · exact absurd h3 h
      · rcases h with ⟨h, _⟩ | ⟨h, _⟩ | ⟨h, _⟩ | ⟨h, _⟩ | ⟨_, _, _, e⟩ | ⟨_, _, h, _⟩
        · omega
        · omega
        · omega
        · omega
        · rw [e] at k; exact k H (Same.refl H)
        · exact absurd h h4
    have kG : 3 ≤ wh → wh ≤ 11 → GF rs → GB rs bs → wh ≤ 8 ∧ Fit bs ∧ ∀ H', Same H H' → Q .non H' := fun h1 h2 h3 h4 => by
      rcases hF with ⟨h, _⟩ | ⟨_, h, _⟩ | ⟨_, h⟩
      · omega
      · exact absurd h3 h
      · rcases h with ⟨h, _⟩ | ⟨h, _⟩ | ⟨h, _⟩ | ⟨h, _⟩ | ⟨_, _, h, e⟩ | ⟨_, h5, _, h6, e⟩
        · omega
        · omega
        · omega
        · omega
        · exact absurd h4 h
        · rw [e] at k; exact ⟨h5, h6, k⟩
    have hcases : wh = 0 ∨ wh = 1 ∨ wh = 2 ∨ wh = 3 ∨ wh = 4 ∨ wh = 5 ∨ wh = 6 ∨ wh = 7 ∨ wh = 8 ∨ wh = 9 ∨ wh = 10 ∨ wh = 11 ∨ 12 ≤ wh := by omega
    rcases hcases with rfl | rfl | rfl | rfl | rfl | rfl | rfl | rfl | rfl | rfl | rfl | rfl | hw
    · refine ⟨_, rfl, rfl, _, rfl, ite_t rfl ?_⟩
      refine ⟨_, rfl, a, rs, rfl, hA, fun g H1 p1 s1 n1 e1 => ?_, kF (by decide)⟩
      have q : Q .non H1 := by
        rcases hF with ⟨h, _⟩ | ⟨_, h, _⟩ | ⟨_, h⟩
        · omega
        · exact absurd g h
        · rcases h with ⟨_, e⟩ | ⟨h, _⟩ | ⟨h, _⟩ | ⟨h, _⟩ | ⟨h, _⟩ | ⟨h, _⟩
          · rw [e] at k; exact k H1 s1
          all_goals omega
      exact ⟨_, rfl, rfl, _, rfl, ite_f rfl ⟨_, rfl, rfl, _, rfl, ite_f rfl ⟨_, rfl, rfl, _, rfl, ite_f rfl ⟨_, rfl, rfl, _, rfl, ite_f rfl ⟨_, rfl, rfl, _, rfl, ite_f rfl ⟨_, rfl, rfl, _, rfl, ite_f rfl ⟨_, rfl, rfl, _, rfl, ite_f rfl ⟨_, rfl, rfl, _, rfl, ite_f rfl ⟨_, rfl, rfl, _, rfl, ite_f rfl ⟨_, rfl, rfl, _, rfl, ite_f rfl ⟨_, rfl, rfl, _, rfl, ite_f rfl (q)⟩⟩⟩⟩⟩⟩⟩⟩⟩⟩⟩
    · refine ⟨_, rfl, rfl, _, rfl, ite_f rfl ⟨_, rfl, rfl, _, rfl, ite_t rfl ?_⟩⟩
      refine ⟨_, rfl, _, rfl, b, _, rfl, .inl hB, _, _, rfl, rfl, a, _, rs, rfl, hA, fun g h0 H1 p1 s1 n1 e1 => ?_, kF (by decide), fun g h0 => ?_⟩
      · have q : Q .non H1 := by
          rw [List.length_map] at h0
          rcases hF with ⟨h, _⟩ | ⟨_, h, _⟩ | ⟨_, h⟩
          · omega
          · exact absurd g h
          · rcases h with ⟨h, _⟩ | ⟨_, h, e⟩ | ⟨_, _, e⟩ | ⟨h, _⟩ | ⟨h, _⟩ | ⟨h, _⟩
            · omega
            · omega
            · rw [e] at k; exact k H1 s1
            all_goals omega
        exact ⟨_, rfl, rfl, _, rfl, ite_f rfl ⟨_, rfl, rfl, _, rfl, ite_f rfl ⟨_, rfl, rfl, _, rfl, ite_f rfl ⟨_, rfl, rfl, _, rfl, ite_f rfl ⟨_, rfl, rfl, _, rfl, ite_f rfl ⟨_, rfl, rfl, _, rfl, ite_f rfl ⟨_, rfl, rfl, _, rfl, ite_f rfl ⟨_, rfl, rfl, _, rfl, ite_f rfl ⟨_, rfl, rfl, _, rfl, ite_f rfl ⟨_, rfl, rfl, _, rfl, ite_f rfl (q)⟩⟩⟩⟩⟩⟩⟩⟩⟩⟩
      · rw [List.length_map] at h0
        rcases hF with ⟨h, _⟩ | ⟨_, h, _⟩ | ⟨_, h⟩
        · omega
        · exact absurd g h
        · rcases h with ⟨h, _⟩ | ⟨_, h, e⟩ | ⟨_, h, _⟩ | ⟨h, _⟩ | ⟨h, _⟩ | ⟨h, _⟩
          · omega
          · rw [e] at k; exact k H (Same.refl H)
          · omega
          all_goals omega
    · refine ⟨_, rfl, rfl, _, rfl, ite_f rfl ⟨_, rfl, rfl, _, rfl, ite_f rfl ⟨_, rfl, rfl, _, rfl, ite_t rfl ?_⟩⟩⟩
      refine ⟨_, rfl, a, Str.ofString "x", rs, [Str.ofString "x"], rfl, hA, by decide, x_split, by simp, fun p hp => by rw [List.mem_singleton.mp hp]; decide, kF (by decide), fun g => .inr ⟨⟨_, List.mem_singleton.mpr rfl, x_bad⟩, fun p hp => by rw [List.mem_singleton.mp hp]; exact .inl x_bad, fun H1 s1 => ?_⟩⟩
      rcases hF with ⟨h, _⟩ | ⟨_, h, _⟩ | ⟨_, h⟩
      · omega
      · exact absurd g h
      · rcases h with ⟨h, _⟩ | ⟨h, _⟩ | ⟨h, _⟩ | ⟨_, e⟩ | ⟨h, _⟩ | ⟨h, _⟩
        · omega
        · omega
        · omega
        · rw [e] at k; exact k H1 s1
        all_goals omega
    · refine ⟨_, rfl, rfl, _, rfl, ite_f rfl ⟨_, rfl, rfl, _, rfl, ite_f rfl ⟨_, rfl, rfl, _, rfl, ite_f rfl ⟨_, rfl, rfl, _, rfl, ite_t rfl ?_⟩⟩⟩⟩
      refine ⟨_, rfl, _, rfl, a, b, rs, bs, rfl, hA, hB, fun g gb => ?_, kF (by decide), kB (by decide) (by decide)⟩
      obtain ⟨_, ⟨f1, f2⟩, kk⟩ := kG (by decide) (by decide) g gb
      refine ⟨f1, fun H1 s1 => ?_⟩
      have q : Q .non H1 := kk H1 s1
      exact ⟨_, rfl, rfl, _, rfl, ite_f rfl ⟨_, rfl, rfl, _, rfl, ite_f rfl ⟨_, rfl, rfl, _, rfl, ite_f rfl ⟨_, rfl, rfl, _, rfl, ite_f rfl ⟨_, rfl, rfl, _, rfl, ite_f rfl ⟨_, rfl, rfl, _, rfl, ite_f rfl ⟨_, rfl, rfl, _, rfl, ite_f rfl ⟨_, rfl, rfl, _, rfl, ite_f rfl (q)⟩⟩⟩⟩⟩⟩⟩⟩
    · refine ⟨_, rfl, rfl, _, rfl, ite_f rfl ⟨_, rfl, rfl, _, rfl, ite_f rfl ⟨_, rfl, rfl, _, rfl, ite_f rfl ⟨_, rfl, rfl, _, rfl, ite_f rfl ⟨_, rfl, rfl, _, rfl, ite_t rfl ?_⟩⟩⟩⟩⟩
      refine ⟨_, rfl, _, rfl, a, b, rs, bs, rfl, hA, hB, fun g gb => ?_, kF (by decide), kB (by decide) (by decide)⟩
      obtain ⟨_, ⟨f1, f2⟩, kk⟩ := kG (by decide) (by decide) g gb
      refine fun H1 s1 => ?_
      have q : Q .non H1 := kk H1 s1
      exact ⟨_, rfl, rfl, _, rfl, ite_f rfl ⟨_, rfl, rfl, _, rfl, ite_f rfl ⟨_, rfl, rfl, _, rfl, ite_f rfl ⟨_, rfl, rfl, _, rfl, ite_f rfl ⟨_, rfl, rfl, _, rfl, ite_f rfl ⟨_, rfl, rfl, _, rfl, ite_f rfl ⟨_, rfl, rfl, _, rfl, ite_f rfl (q)⟩⟩⟩⟩⟩⟩⟩
    · refine ⟨_, rfl, rfl, _, rfl, ite_f rfl ⟨_, rfl, rfl, _, rfl, ite_f rfl ⟨_, rfl, rfl, _, rfl, ite_f rfl ⟨_, rfl, rfl, _, rfl, ite_f rfl ⟨_, rfl, rfl, _, rfl, ite_f rfl ⟨_, rfl, rfl, _, rfl, ite_t rfl ?_⟩⟩⟩⟩⟩⟩
      refine ⟨_, rfl, _, rfl, a, b, rs, bs, rfl, hA, hB, fun g gb => ?_, kF (by decide), kB (by decide) (by decide)⟩
      obtain ⟨_, ⟨f1, f2⟩, kk⟩ := kG (by decide) (by decide) g gb
      refine ⟨f1, fun H1 p1 s1 n1 e1 => ?_⟩
      have q : Q .non H1 := kk H1 s1
      exact ⟨_, rfl, rfl, _, rfl, ite_f rfl ⟨_, rfl, rfl, _, rfl, ite_f rfl ⟨_, rfl, rfl, _, rfl, ite_f rfl ⟨_, rfl, rfl, _, rfl, ite_f rfl ⟨_, rfl, rfl, _, rfl, ite_f rfl ⟨_, rfl, rfl, _, rfl, ite_f rfl (q)⟩⟩⟩⟩⟩⟩
    · refine ⟨_, rfl, rfl, _, rfl, ite_f rfl ⟨_, rfl, rfl, _, rfl, ite_f rfl ⟨_, rfl, rfl, _, rfl, ite_f rfl ⟨_, rfl, rfl, _, rfl, ite_f rfl ⟨_, rfl, rfl, _, rfl, ite_f rfl ⟨_, rfl, rfl, _, rfl, ite_f rfl ⟨_, rfl, rfl, _, rfl, ite_t rfl ?_⟩⟩⟩⟩⟩⟩⟩
      refine ⟨_, rfl, _, rfl, a, b, rs, bs, rfl, hA, hB, fun g gb => ?_, kF (by decide), kB (by decide) (by decide)⟩
      obtain ⟨_, ⟨f1, f2⟩, kk⟩ := kG (by decide) (by decide) g gb
      refine fun H1 p1 ts s1 n1 e1 ht => ?_
      have q : Q .non H1 := kk H1 s1
      exact ⟨_, rfl, rfl, _, rfl, ite_f rfl ⟨_, rfl, rfl, _, rfl, ite_f rfl ⟨_, rfl, rfl, _, rfl, ite_f rfl ⟨_, rfl, rfl, _, rfl, ite_f rfl ⟨_, rfl, rfl, _, rfl, ite_f rfl (q)⟩⟩⟩⟩⟩
    · refine ⟨_, rfl, rfl, _, rfl, ite_f rfl ⟨_, rfl, rfl, _, rfl, ite_f rfl ⟨_, rfl, rfl, _, rfl, ite_f rfl ⟨_, rfl, rfl, _, rfl, ite_f rfl ⟨_, rfl, rfl, _, rfl, ite_f rfl ⟨_, rfl, rfl, _, rfl, ite_f rfl ⟨_, rfl, rfl, _, rfl, ite_f rfl ⟨_, rfl, rfl, _, rfl, ite_t rfl ?_⟩⟩⟩⟩⟩⟩⟩⟩
      refine ⟨_, rfl, _, rfl, a, b, rs, bs, rfl, hA, hB, fun g gb => ?_, kF (by decide), kB (by decide) (by decide)⟩
      obtain ⟨_, ⟨f1, f2⟩, kk⟩ := kG (by decide) (by decide) g gb
      refine fun H1 p1 s1 n1 e1 => ?_
      have q : Q .non H1 := kk H1 s1
      exact ⟨_, rfl, rfl, _, rfl, ite_f rfl ⟨_, rfl, rfl, _, rfl, ite_f rfl ⟨_, rfl, rfl, _, rfl, ite_f rfl ⟨_, rfl, rfl, _, rfl, ite_f rfl (q)⟩⟩⟩⟩
    · refine ⟨_, rfl, rfl, _, rfl, ite_f rfl ⟨_, rfl, rfl, _, rfl, ite_f rfl ⟨_, rfl, rfl, _, rfl, ite_f rfl ⟨_, rfl, rfl, _, rfl, ite_f rfl ⟨_, rfl, rfl, _, rfl, ite_f rfl ⟨_, rfl, rfl, _, rfl, ite_f rfl ⟨_, rfl, rfl, _, rfl, ite_f rfl ⟨_, rfl, rfl, _, rfl, ite_f rfl ⟨_, rfl, rfl, _, rfl, ite_t rfl ?_⟩⟩⟩⟩⟩⟩⟩⟩⟩
      refine ⟨_, rfl, _, rfl, a, b, rs, bs, rfl, hA, hB, fun g gb => ?_, kF (by decide), kB (by decide) (by decide)⟩
      obtain ⟨_, ⟨f1, f2⟩, kk⟩ := kG (by decide) (by decide) g gb
      refine ⟨f2, fun H1 s1 => ?_⟩
      have q : Q .non H1 := kk H1 s1
      exact ⟨_, rfl, rfl, _, rfl, ite_f rfl ⟨_, rfl, rfl, _, rfl, ite_f rfl ⟨_, rfl, rfl, _, rfl, ite_f rfl (q)⟩⟩⟩
    · refine ⟨_, rfl, rfl, _, rfl, ite_f rfl ⟨_, rfl, rfl, _, rfl, ite_f rfl ⟨_, rfl, rfl, _, rfl, ite_f rfl ⟨_, rfl, rfl, _, rfl, ite_f rfl ⟨_, rfl, rfl, _, rfl, ite_f rfl ⟨_, rfl, rfl, _, rfl, ite_f rfl ⟨_, rfl, rfl, _, rfl, ite_f rfl ⟨_, rfl, rfl, _, rfl, ite_f rfl ⟨_, rfl, rfl, _, rfl, ite_f rfl ⟨_, rfl, rfl, _, rfl, ite_t rfl ?_⟩⟩⟩⟩⟩⟩⟩⟩⟩⟩
      refine ⟨_, rfl, _, rfl, _, rfl, a, b, rs, bs, -1, rfl, hA, hB, fun g gb => ?_, kF (by decide), kB (by decide) (by decide)⟩
      obtain ⟨h8, _⟩ := kG (by decide) (by decide) g gb
      omega
    · refine ⟨_, rfl, rfl, _, rfl, ite_f rfl ⟨_, rfl, rfl, _, rfl, ite_f rfl ⟨_, rfl, rfl, _, rfl, ite_f rfl ⟨_, rfl, rfl, _, rfl, ite_f rfl ⟨_, rfl, rfl, _, rfl, ite_f rfl ⟨_, rfl, rfl, _, rfl, ite_f rfl ⟨_, rfl, rfl, _, rfl, ite_f rfl ⟨_, rfl, rfl, _, rfl, ite_f rfl ⟨_, rfl, rfl, _, rfl, ite_f rfl ⟨_, rfl, rfl, _, rfl, ite_f rfl ⟨_, rfl, rfl, _, rfl, ite_t rfl ?_⟩⟩⟩⟩⟩⟩⟩⟩⟩⟩⟩
      refine ⟨_, rfl, _, rfl, a, b, rs, bs, 0, rfl, hA, hB, fun g gb => ?_, kF (by decide), kB (by decide) (by decide)⟩
      obtain ⟨h8, _⟩ := kG (by decide) (by decide) g gb
      omega
    · refine ⟨_, rfl, rfl, _, rfl, ite_f rfl ⟨_, rfl, rfl, _, rfl, ite_f rfl ⟨_, rfl, rfl, _, rfl, ite_f rfl ⟨_, rfl, rfl, _, rfl, ite_f rfl ⟨_, rfl, rfl, _, rfl, ite_f rfl ⟨_, rfl, rfl, _, rfl, ite_f rfl ⟨_, rfl, rfl, _, rfl, ite_f rfl ⟨_, rfl, rfl, _, rfl, ite_f rfl ⟨_, rfl, rfl, _, rfl, ite_f rfl ⟨_, rfl, rfl, _, rfl, ite_f rfl ⟨_, rfl, rfl, _, rfl, ite_f rfl ⟨_, rfl, rfl, _, rfl, ite_t rfl ?_⟩⟩⟩⟩⟩⟩⟩⟩⟩⟩⟩⟩
      refine ⟨_, rfl, _, rfl, _, rfl, a, b, rs, bs, -1, true, rfl, hA, hB, fun g gb => ?_, kF (by decide), kB (by decide) (by decide)⟩
      obtain ⟨h8, _⟩ := kG (by decide) (by decide) g gb
      omega
    · have q : Q .non H := by
        rcases hF with ⟨_, e⟩ | ⟨h, _⟩ | ⟨_, h⟩
        · rw [e] at k; exact k H (Same.refl H)
        · omega
        · rcases h with ⟨h, _⟩ | ⟨h, _⟩ | ⟨h, _⟩ | ⟨h, _⟩ | ⟨_, h, _⟩ | ⟨_, h, _⟩ <;> omega
      exact ⟨_, rfl, rfl, _, rfl, ite_f (dec_ne (show wh ≠ 0 by omega)) ⟨_, rfl, rfl, _, rfl, ite_f (dec_ne (show wh ≠ 1 by omega)) ⟨_, rfl, rfl, _, rfl, ite_f (dec_ne (show wh ≠ 2 by omega)) ⟨_, rfl, rfl, _, rfl, ite_f (dec_ne (show wh ≠ 3 by omega)) ⟨_, rfl, rfl, _, rfl, ite_f (dec_ne (show wh ≠ 4 by omega)) ⟨_, rfl, rfl, _, rfl, ite_f (dec_ne (show wh ≠ 5 by omega)) ⟨_, rfl, rfl, _, rfl, ite_f (dec_ne (show wh ≠ 6 by omega)) ⟨_, rfl, rfl, _, rfl, ite_f (dec_ne (show wh ≠ 7 by omega)) ⟨_, rfl, rfl, _, rfl, ite_f (dec_ne (show wh ≠ 8 by omega)) ⟨_, rfl, rfl, _, rfl, ite_f (dec_ne (show wh ≠ 9 by omega)) ⟨_, rfl, rfl, _, rfl, ite_f (dec_ne (show wh ≠ 10 by omega)) ⟨_, rfl, rfl, _, rfl, ite_f (dec_ne (show wh ≠ 11 by omega)) q⟩⟩⟩⟩⟩⟩⟩⟩⟩⟩⟩⟩
end
end CB
namespace CB
open PySem PySem.Spec PyProof.Rows L2
abbrev s_law_second : Stmt := top 43
abbrev N_law_second : List Str := ["which", "ratios", "one", "other"]
theorem sc_law_second : FnScope N_law_second ["which", "ratios", "one", "other"] (defScope s_law_second) := ⟨rfl, rfl, rfl, by decide +kernel, rfl, by decide +kernel, by decide +kernel⟩
end CB

namespace CB
open PySem PySem.Spec PyProof.Rows L2
def Second (w : Nat) (rs bs os : List Int) (o : Option Str) : Prop :=
  (w < 12 ∧ o = none) ∨ (12 ≤ w ∧ w < 17 ∧ ((¬ GF rs ∧ o = some "NoFrame") ∨ (GF rs ∧ ¬ GB rs bs ∧ o = some "NoBoard") ∨ (GF rs ∧ GB rs bs ∧ BS bs ∧ ¬ GB rs os ∧ o = some "NoBoard")))
def sp_law_second (K : PySem.W.Frag) (mg : Str → Option Value) : Sp := fun vs H Q E => ∃ (w : Nat) (a b c : Addr) (rs bs os : List Int) (o : Option Str), vs = [.int (w : Int), .ref a, .ref b, .ref c] ∧ SqL K H a (rs.map V.int) ∧ SqL K H b (bs.map V.int) ∧ SqL K H c (os.map V.int) ∧ Second w rs bs os o ∧ Out mg H Q E o
section
variable {P : Program} {w : World} {K : PySem.W.Frag} {mg : Str → Option Value} {base : Heap}
theorem ok_law_second {f : Addr} {fd : FuncData} (F : Fun K "_law_second" "_law_second" s_law_second f fd) (B : Bi mg) (c_added : Callee P w K mg base 4 "added" ["ratios", "one", "other"] (sp_added K mg)) (c_less : Callee P w K mg base 4 "less" ["ratios", "one", "other"] (sp_less K mg))
    (c_net : Callee P w K mg base 4 "net" ["ratios", "one", "other"] (sp_net K mg)) (c_fewest : Callee P w K mg base 5 "fewest" ["ratios", "one", "other"] (sp_fewest K mg)) (c_way : Callee P w K mg base 6 "way" ["ratios", "one", "other"] (sp_way K mg)) :
    FnOk P w K mg base (L2.CX P w) 7 f fd ["which", "ratios", "one", "other"] (sp_law_second K mg) := by
  refine F.okX sc_law_second (fun vs H Q E h => ?_) (fun cdv A outer s H vs Q E hr h => ?_)
  · obtain ⟨wh, a, b, c, rs, bs, os, o, rfl, _⟩ := h
    rfl
  · obtain ⟨wh, a, b, c, rs, bs, os, o, rfl, hA, hB, hC, hF, k⟩ := h
    have tk : Takes (cxOf (L2.CX P w) P w K mg base N_law_second "_law_second" (defScope s_law_second) f cdv A outer s H E) (fun cls d _ H => E cls d H) := takes_of rfl rfl rfl rfl
    refine ⟨_, (pss_cons (ps_if (pt_cmpR op_eq (pv 0) pe_int (nomark _)) (pss_one (ps_expr (pe_f c_added hr (by decide) tk (pa_cons (pv 1) (pa_cons (pv 2) (pa_cons (pv 3) pa_nil)))))) pss_nil)
  (pss_cons (ps_if (pt_cmpR op_eq (pv 0) pe_int (nomark _)) (pss_one (ps_expr (pe_f c_less hr (by decide) tk (pa_cons (pv 1) (pa_cons (pv 2) (pa_cons (pv 3) pa_nil)))))) pss_nil)
  (pss_cons (ps_if (pt_cmpR op_eq (pv 0) pe_int (nomark _)) (pss_one (ps_expr (pe_f c_net hr (by decide) tk (pa_cons (pv 1) (pa_cons (pv 2) (pa_cons (pv 3) pa_nil)))))) pss_nil)
  (pss_cons (ps_if (pt_cmpR op_eq (pv 0) pe_int (nomark _)) (pss_one (ps_expr (pe_f c_fewest hr (by decide) tk (pa_cons (pv 1) (pa_cons (pv 2) (pa_cons (pv 3) pa_nil)))))) pss_nil)
  (pss_one (ps_if (pt_cmpR op_eq (pv 0) pe_int (nomark _)) (pss_one (ps_expr (pe_f c_way hr (by decide) tk (pa_cons (pv 1) (pa_cons (pv 2) (pa_cons (pv 3) pa_nil)))))) pss_nil)))))), ?_⟩
    have two : 12 ≤ wh → ∀ P : Prop, Two mg H E rs bs os P := fun hw P => by
      rcases hF with ⟨h, _⟩ | ⟨_, _, h⟩
      · omega
      · refine ⟨fun g gb => ?_, fun ng => ?_, fun g nb => ?_⟩
        · rcases h with ⟨h, _⟩ | ⟨_, h, _⟩ | ⟨_, _, sb, no, e⟩
          · exact absurd g h
          · exact absurd gb h
          · refine ⟨sb, fun go => absurd go no, fun _ => ?_⟩
            rw [e] at k
            exact k
        · rcases h with ⟨_, e⟩ | ⟨h, _⟩ | ⟨h, _⟩
          · rw [e] at k; exact k H (Same.refl H)
          · exact absurd h ng
          · exact absurd h ng
        · rcases h with ⟨h, _⟩ | ⟨_, _, e⟩ | ⟨_, h, _⟩
          · exact absurd g h
          · rw [e] at k; exact k H (Same.refl H)
          · exact absurd h nb
    have hcases : wh < 12 ∨ wh = 12 ∨ wh = 13 ∨ wh = 14 ∨ wh = 15 ∨ wh = 16 := by
      rcases hF with ⟨h, _⟩ | ⟨h1, h2, _⟩ <;> omega
    rcases hcases with hw | rfl | rfl | rfl | rfl | rfl
    · have q : Q .non H := by
        rcases hF with ⟨_, e⟩ | ⟨h, _⟩
        · rw [e] at k; exact k H (Same.refl H)
        · omega
      exact ⟨_, rfl, rfl, _, rfl, ite_f (dec_ne (show wh ≠ 12 by omega)) ⟨_, rfl, rfl, _, rfl, ite_f (dec_ne (show wh ≠ 13 by omega)) ⟨_, rfl, rfl, _, rfl, ite_f (dec_ne (show wh ≠ 14 by omega)) ⟨_, rfl, rfl, _, rfl, ite_f (dec_ne (show wh ≠ 15 by omega)) ⟨_, rfl, rfl, _, rfl, ite_f (dec_ne (show wh ≠ 16 by omega)) q⟩⟩⟩⟩⟩
    · refine ⟨_, rfl, rfl, _, rfl, ite_t rfl ?_⟩
      exact ⟨_, rfl, _, rfl, _, rfl, a, b, c, rs, bs, os, rfl, hA, hB, hC, two (by decide) _⟩
    · refine ⟨_, rfl, rfl, _, rfl, ite_f rfl ⟨_, rfl, rfl, _, rfl, ite_t rfl ?_⟩⟩
      exact ⟨_, rfl, _, rfl, _, rfl, a, b, c, rs, bs, os, rfl, hA, hB, hC, two (by decide) _⟩
    · refine ⟨_, rfl, rfl, _, rfl, ite_f rfl ⟨_, rfl, rfl, _, rfl, ite_f rfl ⟨_, rfl, rfl, _, rfl, ite_t rfl ?_⟩⟩⟩
      exact ⟨_, rfl, _, rfl, _, rfl, a, b, c, rs, bs, os, rfl, hA, hB, hC, two (by decide) _⟩
    · refine ⟨_, rfl, rfl, _, rfl, ite_f rfl ⟨_, rfl, rfl, _, rfl, ite_f rfl ⟨_, rfl, rfl, _, rfl, ite_f rfl ⟨_, rfl, rfl, _, rfl, ite_t rfl ?_⟩⟩⟩⟩
      exact ⟨_, rfl, _, rfl, _, rfl, a, b, c, rs, bs, os, rfl, hA, hB, hC, two (by decide) _⟩
    · refine ⟨_, rfl, rfl, _, rfl, ite_f rfl ⟨_, rfl, rfl, _, rfl, ite_f rfl ⟨_, rfl, rfl, _, rfl, ite_f rfl ⟨_, rfl, rfl, _, rfl, ite_f rfl ⟨_, rfl, rfl, _, rfl, ite_t rfl ?_⟩⟩⟩⟩⟩
      exact ⟨_, rfl, _, rfl, _, rfl, a, b, c, rs, bs, os, rfl, hA, hB, hC, two (by decide) _⟩
end
end CB
namespace CB
open PySem PySem.Spec PyProof.Rows L2
abbrev s_law_tried : Stmt := top 44
abbrev N_law_tried : List Str := ["which", "ratios", "one", "other", "e"]
theorem sc_law_tried : FnScope N_law_tried ["which", "ratios", "one", "other"] (defScope s_law_tried) := ⟨rfl, rfl, rfl, by decide +kernel, rfl, by decide +kernel, by decide +kernel⟩
end CB

namespace CB
open PySem PySem.Spec PyProof.Rows L2
/-- what each of the seventeen says -/
def Said (w : Nat) (rs bs os : List Int) (t : Str) : Prop :=
  (¬ GF rs ∧ t = "frame") ∨ (GF rs ∧ ((w = 0 ∧ t = "done") ∨ (w = 1 ∧ bs.length = 0 ∧ t = "number") ∨ (w = 1 ∧ 0 < bs.length ∧ t = "done") ∨ (w = 2 ∧ t = "note") ∨ (3 ≤ w ∧ w ≤ 11 ∧ ¬ GB rs bs ∧ t = "board") ∨
    (3 ≤ w ∧ w ≤ 8 ∧ GB rs bs ∧ Fit bs ∧ t = "done") ∨ (12 ≤ w ∧ (¬ GB rs bs ∨ (GB rs bs ∧ BS bs ∧ ¬ GB rs os)) ∧ t = "board")))
def sp_law_tried (K : PySem.W.Frag) (_ : Str → Option Value) : Sp := fun vs H Q _ => ∃ (w : Nat) (a b c : Addr) (rs bs os : List Int) (t : Str), vs = [.int (w : Int), .ref a, .ref b, .ref c] ∧ w < 17 ∧ SqL K H a (rs.map V.int) ∧ SqL K H b (bs.map V.int) ∧ SqL K H c (os.map V.int) ∧ bs.length ≤ 1000 ∧ Said w rs bs os t ∧ TellV H Q (.str t)
section
variable {P : Program} {w : World} {K : PySem.W.Frag} {mg : Str → Option Value} {base : Heap}
theorem ok_law_tried {f : Addr} {fd : FuncData} (F : Fun K "_law_tried" "_law_tried" s_law_tried f fd) (B : Bi mg) (e_BoardError : mg "BoardError" = some (.ref (ErA mg "BoardError"))) (w_NoFrame : Wd K mg (ErA mg "NoFrame") 0) (w_NoBoard : Wd K mg (ErA mg "NoBoard") 1) (w_NoNumber : Wd K mg (ErA mg "NoNumber") 2) (w_NoNote : Wd K mg (ErA mg "NoNote") 7) (c_law_first : Callee P w K mg base 5 "_law_first" ["which", "ratios", "board"] (sp_law_first K mg))
    (c_law_second : Callee P w K mg base 7 "_law_second" ["which", "ratios", "one", "other"] (sp_law_second K mg)) (c_law_word_of : CalleeE P w K mg base 1 "_law_word_of" ["e"] (sp_law_word_of K mg)) :
    FnOk P w K mg base (L2.CX P w) 8 f fd ["which", "ratios", "one", "other"] (sp_law_tried K mg) := by
  refine F.okX sc_law_tried (fun vs H Q E h => ?_) (fun cdv A outer s H vs Q E hr h => ?_)
  · obtain ⟨wh, a, b, c, rs, bs, os, t, rfl, _⟩ := h
    rfl
  · obtain ⟨wh, a, b, c, rs, bs, os, t, rfl, hw, hA, hB, hC, hbl, hS, k⟩ := h
    refine ⟨_, (pss_cons (ps_try_as (i := 4) rfl rfl sc_law_tried.nd rfl rfl ⟨rfl, by decide, .inl e_BoardError⟩ takes0 (fun W pn xe tk _ => (pss_cons (ps_expr (pe_f c_law_first hr (by decide) tk (pa_cons (pv 0) (pa_cons (pv 1) (pa_cons (pv 2) pa_nil)))))
  (pss_one (ps_expr (pe_f c_law_second hr (by decide) tk (pa_cons (pv 0) (pa_cons (pv 1) (pa_cons (pv 2) (pa_cons (pv 3) pa_nil)))))))))
  (fun a oe cls d pn hz hf => (pss_one (ps_ret (pe_callE c_law_word_of hr (by decide) hz hf (pa_cons (pv 4) pa_nil))))))
  (pss_one (ps_ret pe_str))), ?_⟩
    by_cases h12 : wh < 12
    · -- the first dozen
      have key : ∃ o, First wh rs bs o ∧ ((o = none ∧ t = "done") ∨ (o = some "NoFrame" ∧ t = "frame") ∨ (o = some "NoBoard" ∧ t = "board") ∨ (o = some "NoNumber" ∧ t = "number") ∨ (o = some "NoNote" ∧ t = "note")) := by
        rcases hS with ⟨g, e⟩ | ⟨g, h⟩
        · exact ⟨_, .inr (.inl ⟨h12, g, rfl⟩), .inr (.inl ⟨rfl, e⟩)⟩
        · rcases h with ⟨h, e⟩ | ⟨h, h2, e⟩ | ⟨h, h2, e⟩ | ⟨h, e⟩ | ⟨h, h2, h3, e⟩ | ⟨h, h2, h3, h4, e⟩ | ⟨h, _⟩
          · exact ⟨_, .inr (.inr ⟨g, .inl ⟨h, rfl⟩⟩), .inl ⟨rfl, e⟩⟩
          · exact ⟨_, .inr (.inr ⟨g, .inr (.inl ⟨h, h2, rfl⟩)⟩), .inr (.inr (.inr (.inl ⟨rfl, e⟩)))⟩
          · exact ⟨_, .inr (.inr ⟨g, .inr (.inr (.inl ⟨h, h2, rfl⟩))⟩), .inl ⟨rfl, e⟩⟩
          · exact ⟨_, .inr (.inr ⟨g, .inr (.inr (.inr (.inl ⟨h, rfl⟩)))⟩), .inr (.inr (.inr (.inr ⟨rfl, e⟩)))⟩
          · exact ⟨_, .inr (.inr ⟨g, .inr (.inr (.inr (.inr (.inl ⟨h, h2, h3, rfl⟩))))⟩), .inr (.inr (.inl ⟨rfl, e⟩))⟩
          · exact ⟨_, .inr (.inr ⟨g, .inr (.inr (.inr (.inr (.inr ⟨h, h2, h3, h4, rfl⟩))))⟩), .inl ⟨rfl, e⟩⟩
          · omega
      obtain ⟨o, hFi, ho⟩ := key
      refine ⟨_, rfl, _, rfl, _, rfl, wh, a, b, rs, bs, o, rfl, hA, hB, hFi, hbl, ?_⟩
      rcases ho with ⟨rfl, rfl⟩ | ⟨rfl, rfl⟩ | ⟨rfl, rfl⟩ | ⟨rfl, rfl⟩ | ⟨rfl, rfl⟩
      · intro H1 s1
        refine ⟨_, rfl, _, rfl, _, rfl, _, rfl, wh, a, b, c, rs, bs, os, none, rfl, s1.seq hA, s1.seq hB, s1.seq hC, .inl ⟨h12, rfl⟩, fun H2 s2 => ?_⟩
        exact k H2 (s1.trans s2)
      · exact fun H1 s1 => ⟨true, w_NoFrame.bd, fun _ z hz => ⟨_, rfl, ErA mg "NoFrame", rfl, rfl, 0, w_NoFrame, rfl, fun H2 s2 => k H2 (s1.trans s2)⟩, fun q => nomatch q⟩
      · exact fun H1 s1 => ⟨true, w_NoBoard.bd, fun _ z hz => ⟨_, rfl, ErA mg "NoBoard", rfl, rfl, 1, w_NoBoard, rfl, fun H2 s2 => k H2 (s1.trans s2)⟩, fun q => nomatch q⟩
      · exact fun H1 s1 => ⟨true, w_NoNumber.bd, fun _ z hz => ⟨_, rfl, ErA mg "NoNumber", rfl, rfl, 2, w_NoNumber, rfl, fun H2 s2 => k H2 (s1.trans s2)⟩, fun q => nomatch q⟩
      · exact fun H1 s1 => ⟨true, w_NoNote.bd, fun _ z hz => ⟨_, rfl, ErA mg "NoNote", rfl, rfl, 7, w_NoNote, rfl, fun H2 s2 => k H2 (s1.trans s2)⟩, fun q => nomatch q⟩
    · have h12' : 12 ≤ wh := by omega
      refine ⟨_, rfl, _, rfl, _, rfl, wh, a, b, rs, bs, none, rfl, hA, hB, .inl ⟨h12', rfl⟩, hbl, fun H1 s1 => ?_⟩
      have key : ∃ o, Second wh rs bs os o ∧ ((o = some "NoFrame" ∧ t = "frame") ∨ (o = some "NoBoard" ∧ t = "board")) := by
        rcases hS with ⟨g, e⟩ | ⟨g, h⟩
        · exact ⟨_, .inr ⟨h12', hw, .inl ⟨g, rfl⟩⟩, .inl ⟨rfl, e⟩⟩
        · rcases h with ⟨h, e⟩ | ⟨h, h2, e⟩ | ⟨h, h2, e⟩ | ⟨h, e⟩ | ⟨h, h2, h3, e⟩ | ⟨h, h2, h3, h4, e⟩ | ⟨_, h, e⟩
          · omega
          · omega
          · omega
          · omega
          · omega
          · omega
          · rcases h with h | ⟨h1, h2, h3⟩
            · exact ⟨_, .inr ⟨h12', hw, .inr (.inl ⟨g, h, rfl⟩)⟩, .inr ⟨rfl, e⟩⟩
            · exact ⟨_, .inr ⟨h12', hw, .inr (.inr ⟨g, h1, h2, h3, rfl⟩)⟩, .inr ⟨rfl, e⟩⟩
      obtain ⟨o, hFi, ho⟩ := key
      refine ⟨_, rfl, _, rfl, _, rfl, _, rfl, wh, a, b, c, rs, bs, os, o, rfl, s1.seq hA, s1.seq hB, s1.seq hC, hFi, ?_⟩
      rcases ho with ⟨rfl, rfl⟩ | ⟨rfl, rfl⟩
      · exact fun H2 s2 => ⟨true, w_NoFrame.bd, fun _ z hz => ⟨_, rfl, ErA mg "NoFrame", rfl, rfl, 0, w_NoFrame, rfl, fun H3 s3 => k H3 ((s1.trans s2).trans s3)⟩, fun q => nomatch q⟩
      · exact fun H2 s2 => ⟨true, w_NoBoard.bd, fun _ z hz => ⟨_, rfl, ErA mg "NoBoard", rfl, rfl, 1, w_NoBoard, rfl, fun H3 s3 => k H3 ((s1.trans s2).trans s3)⟩, fun q => nomatch q⟩
end
end CB
namespace CB
open PySem PySem.Spec PyProof.Rows L2
abbrev s_law_bad_board : Stmt := top 45
abbrev N_law_bad_board : List Str := ["board", "kind", "at", "far"]
theorem sc_law_bad_board : FnScope N_law_bad_board ["board", "kind", "at", "far"] (defScope s_law_bad_board) := ⟨rfl, rfl, rfl, by decide +kernel, rfl, by decide +kernel, by decide +kernel⟩
end CB

namespace CB
open PySem PySem.Spec PyProof.Rows L2
def sp_law_bad_board (K : PySem.W.Frag) (_ : Str → Option Value) : Sp := fun vs H Q _ => ∃ (a : Addr) (bs : List Int) (kind at' : Nat) (far : Int), vs = [.ref a, .int (kind : Int), .int (at' : Int), .int far] ∧ SqL K H a (bs.map V.int) ∧ at' < bs.length ∧ bs.length ≤ 1000 ∧ 0 ≤ far ∧
  ∀ xs : List Int, (xs.length ≠ bs.length ∨ ∃ x ∈ xs, x < 0) → xs.length ≤ bs.length + 1 → TellL H Q (xs.map V.int)
section
variable {P : Program} {w : World} {K : PySem.W.Frag} {mg : Str → Option Value} {base : Heap}
theorem ok_law_bad_board {f : Addr} {fd : FuncData} (F : Fun K "_law_bad_board" "_law_bad_board" s_law_bad_board f fd) (B : Bi mg) : FnOk P w K mg base (L2.CX P w) 1 f fd ["board", "kind", "at", "far"] (sp_law_bad_board K mg) := by
  refine F.okX sc_law_bad_board (fun vs H Q E h => ?_) (fun cdv A outer s H vs Q E hr h => ?_)
  · obtain ⟨a, bs, kind, at', far, rfl, _⟩ := h
    rfl
  · obtain ⟨a, bs, kind, at', far, rfl, hA, hat, hl, hf, k⟩ := h
    refine ⟨_, (pss_cons (ps_if (pt_cmpR op_eq (pv 1) pe_int (nomark _)) (pss_one (ps_ret (pe_op op_cat (pe_slice sl_list (pv 0) po_none (po_some (pv 2))) (pe_slice sl_list (pv 0) (po_some (pe_op op_add (pv 2) pe_int)) po_none)))) pss_nil)
  (pss_cons (ps_if (pt_cmpR op_eq (pv 1) pe_int (nomark _)) (pss_one (ps_ret (pe_op op_cat (pe_op op_cat (pe_slice sl_list (pv 0) po_none (po_some (pv 2))) (pe_lst (pa_cons pe_int pa_nil))) (pe_slice sl_list (pv 0) (po_some (pv 2)) po_none)))) pss_nil)
  (pss_one (ps_ret (pe_op op_cat (pe_op op_cat (pe_slice sl_list (pv 0) po_none (po_some (pv 2))) (pe_lst (pa_cons (pe_op op_sub (pe_un un_neg pe_int) (pv 3)) pa_nil))) (pe_slice sl_list (pv 0) (po_some (pe_op op_add (pv 2) pe_int)) po_none)))))), ?_⟩
    have lA : (bs.take at').length = at' := by rw [List.length_take]; omega
    have lC : (bs.drop (at' + 1)).length = bs.length - (at' + 1) := List.length_drop ..
    have lD : (bs.drop at').length = bs.length - at' := List.length_drop ..
    have big : ∀ x : Nat, x ≤ 2000 → x ≤ sizeLine := fun x hx => Nat.le_trans hx (by decide)
    refine ⟨_, rfl, rfl, _, rfl, ite2 (fun _ => ?_) (fun _ => ?_)⟩
    · refine ⟨_, rfl, _, rfl, _, rfl, a, _, rfl, hA, fun q1 m1 => ?_⟩
      rw [cut_take, ← List.map_take]
      have u1 := same_upd (o := .lst ((bs.take at').map V.int)) m1
      refine ⟨_, rfl, _, rfl, _, _, rfl, rfl, _, rfl, a, _, rfl, u1.seq hA, fun q2 m2 => ?_⟩
      rw [show ((at' : Int) + 1) = ((at' + 1 : Nat) : Int) from rfl, cut_drop, ← List.map_drop]
      have u2 := same_upd (o := .lst ((bs.drop (at' + 1)).map V.int)) m2
      refine ⟨q1, q2, _, _, rfl, rfl, u2 _ _ upd_same, upd_same, big _ (by rw [List.length_map, List.length_map]; omega), fun q3 m3 => ?_⟩
      have u3 := same_upd (o := .lst ((bs.take at').map V.int ++ (bs.drop (at' + 1)).map V.int)) m3
      exact k (bs.take at' ++ bs.drop (at' + 1)) (.inl (by rw [List.length_append]; omega)) (by rw [List.length_append]; omega) _ q3 ((u1.trans u2).trans u3) ((u1.trans u2).free m3) (by rw [upd_same, List.map_append])
    refine ⟨_, rfl, rfl, _, rfl, ite2 (fun _ => ?_) (fun _ => ?_)⟩
    · refine ⟨_, rfl, _, rfl, _, rfl, a, _, rfl, hA, fun q1 m1 => ?_⟩
      rw [cut_take, ← List.map_take]
      have u1 := same_upd (o := .lst ((bs.take at').map V.int)) m1
      refine ⟨by show 1 ≤ sizeLine; decide, fun q2 m2 => ?_⟩
      have u2 := same_upd (o := .lst [V.int 0]) m2
      refine ⟨q1, q2, _, _, rfl, rfl, u2 _ _ upd_same, upd_same, big _ (by rw [List.length_map]; show _ + 1 ≤ 2000; omega), fun q3 m3 => ?_⟩
      have u3 := same_upd (o := .lst ((bs.take at').map V.int ++ [V.int 0])) m3
      have u13 := (u1.trans u2).trans u3
      refine ⟨_, rfl, _, rfl, _, rfl, a, _, rfl, u13.seq hA, fun q4 m4 => ?_⟩
      rw [cut_drop, ← List.map_drop]
      have u4 := same_upd (o := .lst ((bs.drop at').map V.int)) m4
      refine ⟨q3, q4, _, _, rfl, rfl, u4 _ _ upd_same, upd_same, big _ (by rw [List.length_append, List.length_map, List.length_map]; show _ + 1 + _ ≤ 2000; omega), fun q5 m5 => ?_⟩
      have u5 := same_upd (o := .lst ((bs.take at').map V.int ++ [V.int 0] ++ (bs.drop at').map V.int)) m5
      exact k (bs.take at' ++ 0 :: bs.drop at') (.inl (by simp only [List.length_append, List.length_cons]; omega)) (by simp only [List.length_append, List.length_cons]; omega) _ q5 (u13.trans (u4.trans u5)) ((u13.trans u4).free m5) (by rw [upd_same, List.map_append, List.append_assoc]; rfl)
    · refine ⟨_, rfl, _, rfl, _, rfl, a, _, rfl, hA, fun q1 m1 => ?_⟩
      rw [cut_take, ← List.map_take]
      have u1 := same_upd (o := .lst ((bs.take at').map V.int)) m1
      refine ⟨_, rfl, _, rfl, _, _, rfl, rfl, by show 1 ≤ sizeLine; decide, fun q2 m2 => ?_⟩
      have u2 := same_upd (o := .lst [V.int (-1 - far)]) m2
      refine ⟨q1, q2, _, _, rfl, rfl, u2 _ _ upd_same, upd_same, big _ (by rw [List.length_map]; show _ + 1 ≤ 2000; omega), fun q3 m3 => ?_⟩
      have u3 := same_upd (o := .lst ((bs.take at').map V.int ++ [V.int (-1 - far)])) m3
      have u13 := (u1.trans u2).trans u3
      refine ⟨_, rfl, _, rfl, _, _, rfl, rfl, _, rfl, a, _, rfl, u13.seq hA, fun q4 m4 => ?_⟩
      rw [show ((at' : Int) + 1) = ((at' + 1 : Nat) : Int) from rfl, cut_drop, ← List.map_drop]
      have u4 := same_upd (o := .lst ((bs.drop (at' + 1)).map V.int)) m4
      refine ⟨q3, q4, _, _, rfl, rfl, u4 _ _ upd_same, upd_same, big _ (by rw [List.length_append, List.length_map, List.length_map]; show _ + 1 + _ ≤ 2000; omega), fun q5 m5 => ?_⟩
      have u5 := same_upd (o := .lst ((bs.take at').map V.int ++ [V.int (-1 - far)] ++ (bs.drop (at' + 1)).map V.int)) m5
      exact k (bs.take at' ++ (-1 - far) :: bs.drop (at' + 1)) (.inr ⟨-1 - far, by simp, by omega⟩) (by simp only [List.length_append, List.length_cons]; omega) _ q5 (u13.trans (u4.trans u5)) ((u13.trans u4).free m5) (by rw [upd_same, List.map_append, List.append_assoc]; rfl)
end
end CB
namespace CB
open PySem PySem.Spec PyProof.Rows L2
theorem no_err (P : Program) (w : World) (H : Hp) (s : Shared) (e : Value) (s' : Shared) : L2.CX P w [] H s (fun _ _ _ => False) e s' → False := fun h => by
  obtain ⟨_, _, _, _, _, _, _, _, _, _, _, _, z⟩ := h
  exact z
end CB
namespace CB
open PySem PySem.Spec PyProof.Rows L2
abbrev s_law : Stmt := top 46
abbrev N_law : List Str := ["script", "far", "ratios", "good", "kind", "frame", "told", "bad", "which", "one", "other", "due", "k"]
theorem sc_law : FnScope N_law ["script"] (defScope s_law) := ⟨rfl, rfl, rfl, by decide +kernel, rfl, by decide +kernel, by decide +kernel⟩
end CB

namespace CB
open PySem PySem.Spec PyProof.Rows L2
def sp_law (K : PySem.W.Frag) : Sp := fun vs H Q _ => ∃ (a : Addr) (ns : List Int), vs = [.ref a] ∧ SqL K H a (ns.map V.int) ∧ ns.length ≤ 63 ∧ ∀ H', Q (.bl true) H'
theorem dec_int (a b : Int) : decide (V.int a = V.int b) = decide (a = b) := by
  by_cases h : a = b
  · subst h; simp
  · have : ¬ V.int a = V.int b := fun z => h (V.int.inj z)
    simp [h, this]
theorem dec_str (a b : Str) : decide (V.str a = V.str b) = decide (a = b) := by
  by_cases h : a = b
  · subst h; simp
  · have : ¬ V.str a = V.str b := fun z => h (V.str.inj z)
    simp [h, this]
theorem pick4 {x y u v z : Int} (h : 0 ≤ z ∧ z < 4) : ∃ m, (m = x ∨ m = y ∨ m = u ∨ m = v) ∧ atI [V.int x, V.int y, V.int u, V.int v] z = some (.int m) := by
  have : z = 0 ∨ z = 1 ∨ z = 2 ∨ z = 3 := by omega
  rcases this with rfl | rfl | rfl | rfl
  · exact ⟨x, .inl rfl, rfl⟩
  · exact ⟨y, .inr (.inl rfl), rfl⟩
  · exact ⟨u, .inr (.inr (.inl rfl)), rfl⟩
  · exact ⟨v, .inr (.inr (.inr rfl)), rfl⟩
/-- the frame that is told, and the word for it -/
def Told (rs ts : List Int) (fr : Str) : Prop := ts.length ≤ 14 ∧ ((GF ts ∧ ts = rs ∧ fr = "done") ∨ (¬ GF ts ∧ fr = "frame"))
section
variable {P : Program} {w : World} {K : PySem.W.Frag} {mg : Str → Option Value} {base : Heap}
theorem ok_law {f : Addr} {fd : FuncData} (F : Fun K "law" "law" s_law f fd) (B : Bi mg) (c_law_cell_at : Callee P w K mg base 1 "_law_cell_at" ["script", "k"] (sp_law_cell_at K mg))
    (c_law_bad_board : Callee P w K mg base 1 "_law_bad_board" ["board", "kind", "at", "far"] (sp_law_bad_board K mg)) (c_law_tried : Callee P w K mg base 8 "_law_tried" ["which", "ratios", "one", "other"] (sp_law_tried K mg)) :
    FnOk P w K mg base (L2.CX P w) 9 f fd ["script"] (sp_law K) := by
  refine F.okX sc_law (fun vs H Q E h => ?_) (fun cdv A outer s H vs Q E hr h => ?_)
  · obtain ⟨a, ns, rfl, _⟩ := h
    rfl
  · obtain ⟨a, ns, rfl, hS, _, q⟩ := h
    refine ⟨_, (pss_cons (ps_set (i := 1) sc_law.nd rfl (Or.inl rfl) (pe_op op_mod (pe_f c_law_cell_at hr (by decide) takes0 (pa_cons (pv 0) (pa_cons pe_int pa_nil))) (pe_op op_pow pe_int pe_int)))
  (pss_cons (ps_setLc (i := 2) (own := [("k", 12)]) (g := gName 12) (tt := tYes) rfl sc_law.nd rfl rfl (sw_true rfl rfl rfl (by decide +kernel)) (pi_range1 (by rfl) B.range (pa_cons (pe_op op_mod (pe_f c_law_cell_at hr (by decide) takes0 (pa_cons (pv 0) (pa_cons pe_int pa_nil))) pe_int) pa_nil)) (blkOk_by (own := [("k", 12)]) (N := N_law) (sc := defScope s_law) (by decide +kernel)) (fun _ _ _ _ _ => pg_name (i := 12) sc_law.nd rfl (Or.inl rfl)) (fun _ _ _ _ _ => pts_nil) (fun _ _ _ _ _ => (pe_op op_add pe_int (pe_op op_mod (pe_f c_law_cell_at hr (by decide) takes0 (pa_cons (pv 0) (pa_cons (pe_op op_add pe_int (pv 12)) pa_nil))) pe_int))))
  (pss_cons (ps_setLc (i := 3) (own := [("k", 12)]) (g := gName 12) (tt := tYes) rfl sc_law.nd rfl rfl (sw_true rfl rfl rfl (by decide +kernel)) (pi_range1 (by rfl) B.range (pa_cons (pe_op op_add (pe_callB call_len_seq (by rfl) B.len PySem.boot_len (pa_cons (pv 2) pa_nil)) pe_int) pa_nil)) (blkOk_by (own := [("k", 12)]) (N := N_law) (sc := defScope s_law) (by decide +kernel)) (fun _ _ _ _ _ => pg_name (i := 12) sc_law.nd rfl (Or.inl rfl)) (fun _ _ _ _ _ => pts_nil) (fun _ _ _ _ _ => (pe_op op_mod (pe_f c_law_cell_at hr (by decide) takes0 (pa_cons (pv 0) (pa_cons (pe_op op_add pe_int (pv 12)) pa_nil))) pe_int)))
  (pss_cons (ps_set (i := 4) sc_law.nd rfl (Or.inl rfl) (pe_op op_mod (pe_f c_law_cell_at hr (by decide) takes0 (pa_cons (pv 0) (pa_cons pe_int pa_nil))) pe_int))
  (pss_cons (ps_set (i := 5) sc_law.nd rfl (Or.inl rfl) pe_str)
  (pss_cons (ps_set (i := 6) sc_law.nd rfl (Or.inl rfl) (pe_callTy call_list_of (by rfl) B.list (by decide +kernel) (pa_cons (pv 2) pa_nil)))
  (pss_cons (ps_if (pw_and (pt_cmpR op_lt (pv 4) pe_int (nomark _)) (pw_and1 (pt_cmpR (op_neD hr.units) (pv 6) (pe_lst pa_nil) (nomark _)))).pt (pss_cons (ps_asg (pe_ix ix_list (pe_lst (pa_cons pe_int (pa_cons (pe_op op_sub pe_int (pv 1)) (pa_cons pe_int (pa_cons (pe_op op_add pe_int (pv 1)) pa_nil))))) (pv 4) (fun _ _ => rfl)) (pg_sub (pv 6) (pe_op op_mod (pe_f c_law_cell_at hr (by decide) takes0 (pa_cons (pv 0) (pa_cons pe_int pa_nil))) (pe_callB call_len_seq (by rfl) B.len PySem.boot_len (pa_cons (pv 6) pa_nil))) set_list))
  (pss_one (ps_set (i := 5) sc_law.nd rfl (Or.inl rfl) pe_str))) pss_nil)
  (pss_cons (ps_if (pt_cmpR op_eq (pv 4) pe_int (nomark _)) (pss_cons (ps_setLc (i := 6) (own := [("k", 12)]) (g := gName 12) (tt := tYes) rfl sc_law.nd rfl rfl (sw_true rfl rfl rfl (by decide +kernel)) (pi_range1 (by rfl) B.range (pa_cons (pe_op op_add pe_int (pe_op op_mod (pe_f c_law_cell_at hr (by decide) takes0 (pa_cons (pv 0) (pa_cons pe_int pa_nil))) pe_int)) pa_nil)) (blkOk_by (own := [("k", 12)]) (N := N_law) (sc := defScope s_law) (by decide +kernel)) (fun _ _ _ _ _ => pg_name (i := 12) sc_law.nd rfl (Or.inl rfl)) (fun _ _ _ _ _ => pts_nil) (fun _ _ _ _ _ => pe_int))
  (pss_one (ps_set (i := 5) sc_law.nd rfl (Or.inl rfl) pe_str))) pss_nil)
  (pss_cons (ps_set (i := 7) sc_law.nd rfl (Or.inl rfl) (pe_f c_law_bad_board hr (by decide) takes0 (pa_cons (pv 3) (pa_cons (pe_op op_mod (pe_f c_law_cell_at hr (by decide) takes0 (pa_cons (pv 0) (pa_cons pe_int pa_nil))) pe_int) (pa_cons (pe_op op_mod (pe_f c_law_cell_at hr (by decide) takes0 (pa_cons (pv 0) (pa_cons pe_int pa_nil))) (pe_callB call_len_seq (by rfl) B.len PySem.boot_len (pa_cons (pv 3) pa_nil))) (pa_cons (pv 1) pa_nil))))))
  (pss_cons (ps_for (passes_of rfl) rfl (pi_range1 (by rfl) B.range (pa_cons pe_int pa_nil)) (pg_name (i := 8) sc_law.nd rfl (Or.inl rfl)) (pss_cons (ps_par (i := 9) (j := 10) rfl sc_law.nd rfl rfl (by decide) rfl rfl (pa_cons (pv 7) (pa_cons (pv 3) pa_nil)) (by rfl))
  (pss_cons (ps_if (pw_and (pt_cmpR op_gt (pv 8) pe_int (nomark _)) (pw_and1 (pt_cmpR op_eq (pe_op op_mod (pe_f c_law_cell_at hr (by decide) takes0 (pa_cons (pv 0) (pa_cons pe_int pa_nil))) pe_int) pe_int (nomark _)))).pt (pss_one (ps_par (i := 9) (j := 10) rfl sc_law.nd rfl rfl (by decide) rfl rfl (pa_cons (pv 3) (pa_cons (pv 7) pa_nil)) (by rfl))) pss_nil)
  (pss_cons (ps_set (i := 11) sc_law.nd rfl (Or.inl rfl) (pv 5))
  (pss_cons (ps_if (pw_and (pt_cmpR op_eq (pv 5) pe_str (nomark _)) (pw_and1 (pt_cmpR op_gt (pv 8) pe_int (nomark _)))).pt (pss_one (ps_set (i := 11) sc_law.nd rfl (Or.inl rfl) pe_str)) pss_nil)
  (pss_cons (ps_if (pw_and (pt_cmpR op_eq (pv 5) pe_str (nomark _)) (pw_and1 (pt_cmpR op_eq (pv 8) pe_int (nomark _)))).pt (pss_one (ps_set (i := 11) sc_law.nd rfl (Or.inl rfl) pe_str)) pss_nil)
  (pss_cons (ps_if (pw_and (pt_cmpR op_eq (pv 5) pe_str (nomark _)) (pw_and (pt_cmpR op_eq (pv 8) pe_int (nomark _)) (pw_and1 (pt_cmpR op_eq (pe_callB call_len_seq (by rfl) B.len PySem.boot_len (pa_cons (pv 7) pa_nil)) pe_int (nomark _))))).pt (pss_one (ps_set (i := 11) sc_law.nd rfl (Or.inl rfl) pe_str)) pss_nil)
  (pss_one (ps_if (pt_cmpR op_ne (pe_f c_law_tried hr (by decide) takes0 (pa_cons (pv 8) (pa_cons (pe_callTy call_list_of (by rfl) B.list (by decide +kernel) (pa_cons (pv 6) pa_nil)) (pa_cons (pe_callTy call_list_of (by rfl) B.list (by decide +kernel) (pa_cons (pv 9) pa_nil)) (pa_cons (pe_callTy call_list_of (by rfl) B.list (by decide +kernel) (pa_cons (pv 10) pa_nil)) pa_nil))))) (pv 11) (nomark _)) (pss_one (ps_ret pe_bl)) pss_nil)))))))))
  (pss_cons (ps_for (passes_of rfl) rfl (pi_range2 (by rfl) B.range (pa_cons pe_int (pa_cons pe_int pa_nil))) (pg_name (i := 8) sc_law.nd rfl (Or.inl rfl)) (pss_one (ps_if (pw_and (pt_cmpR op_eq (pv 5) pe_str (nomark _)) (pw_and1 (pt_cmpR op_ne (pe_f c_law_tried hr (by decide) takes0 (pa_cons (pv 8) (pa_cons (pe_callTy call_list_of (by rfl) B.list (by decide +kernel) (pa_cons (pv 6) pa_nil)) (pa_cons (pe_callTy call_list_of (by rfl) B.list (by decide +kernel) (pa_cons (pv 3) pa_nil)) (pa_cons (pe_callTy call_list_of (by rfl) B.list (by decide +kernel) (pa_cons (pv 3) pa_nil)) pa_nil))))) pe_str (nomark _)))).pt (pss_one (ps_ret pe_bl)) pss_nil)))
  (pss_one (ps_ret pe_bl))))))))))))), ?_⟩
    -- far
    refine ⟨.ref a, rfl, a, ns, 0, rfl, hS, by decide, _, _, rfl, rfl, ⟨by decide, by decide, by decide⟩, _, _, rfl, rfl, (by decide : (0 : Int) < 10 ^ (20 : Int).toNat), ?_⟩
    obtain ⟨far, hfar⟩ : ∃ far, far = cell ns 0 % 10 ^ (20 : Int).toNat := ⟨_, rfl⟩
    have hf0 : 0 ≤ far := by rw [hfar]; exact Int.emod_nonneg _ (by decide)
    show tSeq _ _ _ [some (V.ref a), some (V.int (cell ns 0 % 10 ^ (20 : Int).toNat)), none, none, none, none, none, none, none, none, none, none, none] H
    rw [← hfar]
    clear hfar
    obtain ⟨n, hn⟩ : ∃ n : Nat, (n : Int) = cell ns 1 % 12 := ⟨(cell ns 1 % 12).toNat, by omega⟩
    have hn5 : n ≤ 11 := by omega
    -- ratios
    refine ⟨_, rfl, a, ns, 1, rfl, hS, by decide, _, _, rfl, rfl, (show (0 : Int) < 12 by decide), _, rfl, by omega, by omega, fun p1 n1 => ?_⟩
    rw [show (cell ns 1 % 12).toNat = n by omega]
    refine lc_range (lo := 0) (n := n) (Gr H p1 (((List.range n).map fun j : Nat => 2 + cell ns (3 + (0 + (j : Int))) % 11).map V.int)) (Gr.zero _ n1) ?_ ?_
    · rintro i H' hi gr
      refine ⟨rfl, .ref a, rfl, _, rfl, _, _, rfl, rfl, a, ns, _, rfl, gr.1.seq hS, by omega, _, _, rfl, rfl, (show (0 : Int) < 11 by decide), _, _, rfl, rfl, _, gr.step n1 (by simp; omega) (map_get ?_) (Same.refl _)⟩
      rw [List.getElem?_map, List.getElem?_range hi]
      rfl
    intro H1 gr1
    have e1 := gr1.done (by simp)
    have g := frame_gf (fun j => cell ns (3 + (0 + (j : Int)))) n (by omega)
    have hrl : ((List.range n).map fun j : Nat => 2 + cell ns (3 + (0 + (j : Int))) % 11).length = n := by simp
    generalize (List.range n).map (fun j : Nat => 2 + cell ns (3 + (0 + (j : Int))) % 11) = rs at e1 g hrl
    have s1 := gr1.1
    subst hrl
    -- good
    refine ⟨_, rfl, p1, _, rfl, .inl (SqL.of e1), _, _, rfl, rfl, _, rfl, by rw [List.length_map]; omega, by rw [List.length_map]; omega, fun p2 n2 => ?_⟩
    rw [List.length_map, show ((rs.length : Int) + 1).toNat = rs.length + 1 by omega]
    refine lc_range (lo := 0) (n := rs.length + 1) (Gr H1 p2 (((List.range (rs.length + 1)).map fun j : Nat => cell ns (20 + (0 + (j : Int))) % 9).map V.int)) (Gr.zero _ n2) ?_ ?_
    · rintro i H' hi gr
      refine ⟨rfl, .ref a, rfl, _, rfl, _, _, rfl, rfl, a, ns, _, rfl, gr.1.seq (s1.seq hS), by omega, _, _, rfl, rfl, (show (0 : Int) < 9 by decide), _, gr.step n2 (by simp; omega) (map_get ?_) (Same.refl _)⟩
      rw [List.getElem?_map, List.getElem?_range hi]
      rfl
    intro H2 gr2
    have e2 := gr2.done (by simp)
    have hgl : ((List.range (rs.length + 1)).map fun j : Nat => cell ns (20 + (0 + (j : Int))) % 9).length = rs.length + 1 := by simp
    have hg9 : ∀ x ∈ ((List.range (rs.length + 1)).map fun j : Nat => cell ns (20 + (0 + (j : Int))) % 9), 0 ≤ x ∧ x < 9 := fun x hx => by
      obtain ⟨j, _, rfl⟩ := List.mem_map.mp hx
      omega
    generalize (List.range (rs.length + 1)).map (fun j : Nat => cell ns (20 + (0 + (j : Int))) % 9) = gs at e2 hgl hg9
    have s2 := s1.trans gr2.1
    have f1 := gr2.1 _ _ e1
    have hS2 := s2.seq hS
    clear gr1 gr2
    -- kind, frame, told
    refine ⟨_, rfl, a, ns, 2, rfl, hS2, by decide, _, _, rfl, rfl, (show (0 : Int) < 8 by decide), ?_⟩
    obtain ⟨kd, hkd⟩ : ∃ k, k = cell ns 2 % 8 := ⟨_, rfl⟩
    have hkd8 : 0 ≤ kd ∧ kd < 8 := by omega
    show tSeq _ _ _ [some (V.ref a), some (V.int far), some (V.ref p1), some (V.ref p2), some (V.int (cell ns 2 % 8)), none, none, none, none, none, none, none, none] H2
    rw [← hkd]
    refine ⟨_, rfl, p1, _, rfl, .inl (SqL.of f1), fun p3 n3 => ?_⟩
    have t3 := same_upd (o := .lst (rs.map V.int)) n3
    have e3 := upd_same (H := H2) (a := p3) (o := .lst (rs.map V.int))
    generalize upd H2 p3 (.lst (rs.map V.int)) = H3 at t3 e3
    refine ⟨_, rfl, _, _, rfl, rfl, _, rfl, ite2 (fun h4 => ?A) (fun h4 => ?C)⟩
    case' A =>
      have h4' := of_decide_eq_true h4
      refine ⟨_, rfl, by show 0 ≤ sizeLine; decide, fun x1 y1 => ?_⟩
      have t4 := same_upd (o := .lst []) y1
      refine ⟨dL rs, dL [], dp_L (SqL.of (t4 _ _ e3)), .lst (SqL.of upd_same) .nil, shaped_dL _, shaped_dL _, _, rfl, ?_⟩
      rw [eqv_dL]
      have e4 := t4 _ _ e3
      have sX := t3.trans t4
      generalize upd H3 x1 (.lst []) = H4 at e4 sX
      refine ite2 (fun he => ?A1) (fun he => ?A2)
    case' A1 =>
      have he' : ¬ rs = [] := fun z => by rw [z] at he; simp at he
      have hpos : 0 < rs.length := List.length_pos_iff.mpr he'
      refine ⟨_, rfl, _, _, rfl, rfl, _, rfl, _, _, rfl, rfl, by show 4 ≤ sizeLine; decide, fun x2 y2 => ?_⟩
      have t5 := same_upd (o := .lst [V.int 1, V.int (0 - far), V.int 13, V.int (13 + far)]) y2
      obtain ⟨m, hm, hat⟩ := pick4 (x := 1) (y := 0 - far) (u := 13) (v := 13 + far) (z := kd) ⟨hkd8.1, h4'⟩
      refine ⟨_, rfl, x2, _, _, _, rfl, rfl, SqL.of upd_same, hat, ?_⟩
      have e5 := t5 _ _ e4
      have sY := sX.trans t5
      generalize upd H4 x2 (.lst [V.int 1, V.int (0 - far), V.int 13, V.int (13 + far)]) = H5 at e5 sY
      obtain ⟨j, hj⟩ : ∃ j : Nat, (j : Int) = cell ns 33 % (rs.length : Int) := ⟨(cell ns 33 % (rs.length : Int)).toNat, by have := Int.emod_nonneg (cell ns 33) (show (rs.length : Int) ≠ 0 by omega); omega⟩
      have hj2 : j < rs.length := by have := Int.emod_lt_of_pos (cell ns 33) (show (0 : Int) < (rs.length : Int) by omega); omega
      refine ⟨_, rfl, _, rfl, a, ns, 33, rfl, sY.seq hS2, by decide, _, rfl, p3, _, rfl, .inl (SqL.of e5), _, _, rfl, rfl, (by show (0 : Int) < ((rs.map V.int).length : Int); rw [List.length_map]; omega), p3, _, _, j, rfl, rfl, e5, ix_of (by rw [List.length_map]; exact hj.symm) (by rw [List.length_map]; exact hj2), ?_⟩
      have hT : Told rs (rs.set j m) "frame" := ⟨by rw [List.length_set]; omega, .inr ⟨fun hg => by
        have := hg.2 m (List.mem_iff_getElem?.mpr ⟨j, by rw [List.getElem?_set_self hj2]⟩)
        omega, rfl⟩⟩
      refine ⟨_, rfl, rfl, _, rfl, ite_f (by rw [dec_int]; exact decide_eq_false (by omega)) ?_⟩
      show tSeq _ _ _ [some (V.ref a), some (V.int far), some (V.ref p1), some (V.ref p2), some (V.int kd), some (V.str "frame"), some (V.ref p3), none, none, none, none, none, none] (upd H5 p3 (.lst ((rs.map V.int).set j (V.int m))))
      have e6 : (upd H5 p3 (.lst ((rs.map V.int).set j (V.int m)))) p3 = some (.lst ((rs.set j m).map V.int)) := by rw [upd_same, List.map_set]
      have sZ : Same H2 (upd H5 p3 (.lst ((rs.map V.int).set j (V.int m)))) := fun c o z => by rw [upd_ne (ne_of_none z n3)]; exact sY _ _ z
      generalize upd H5 p3 (.lst ((rs.map V.int).set j (V.int m))) = HX at e6 sZ
      have hng : ¬ GF (rs.set j m) := hT.2.elim (fun z => absurd z.2.2 (by decide +kernel)) (fun z => z.1)
      have htl := hT.1
      clear hT
      generalize rs.set j m = ts at hng htl e6
      generalize p3 = pt at e6
      have hSX := sZ.seq hS2
      have f2 := sZ _ _ e2
      obtain ⟨k34, hk34⟩ : ∃ j : Nat, (j : Int) = cell ns 34 % 3 := ⟨(cell ns 34 % 3).toNat, by omega⟩
      obtain ⟨j35, hj35⟩ : ∃ j : Nat, (j : Int) = cell ns 35 % (gs.length : Int) := ⟨(cell ns 35 % (gs.length : Int)).toNat, by have := Int.emod_nonneg (cell ns 35) (show (gs.length : Int) ≠ 0 by omega); omega⟩
      have hj36 : j35 < gs.length := by have := Int.emod_lt_of_pos (cell ns 35) (show (0 : Int) < (gs.length : Int) by omega); omega
      refine ⟨_, rfl, _, rfl, a, ns, 34, rfl, hSX, by decide, _, _, rfl, rfl, (show (0 : Int) < 3 by decide), _, rfl, a, ns, 35, rfl, hSX, by decide, _, rfl, p2, _, rfl, .inl (SqL.of f2), _, _, rfl, rfl, (by show (0 : Int) < ((gs.map V.int).length : Int); rw [List.length_map]; omega), _, rfl, ?_⟩
      rw [List.length_map]
      refine ⟨p2, gs, k34, j35, far, by rw [hk34, hj35], SqL.of f2, hj36, by omega, hf0, fun xs hxs hxl H8 pb s8 n8 e8 => ?_⟩
      have g2 := s8 _ _ f2
      have g6 := s8 _ _ e6
      have hS8 := s8.seq hSX
      refine ⟨_, rfl, by decide, by decide, ?_⟩
      refine for_range (n := 17) (fun i σ H' => ∃ v8 v9 v10 v11, σ = [some (V.ref a), some (V.int far), some (V.ref p1), some (V.ref p2), some (V.int kd), some (V.str "frame"), some (V.ref pt), some (V.ref pb), v8, v9, v10, v11, none] ∧ Same H8 H') ⟨none, none, none, none, rfl, Same.refl _⟩ ?_ ?_
      · rintro i σ H' hi ⟨v8, v9, v10, v11, rfl, sm⟩
        have z2 := sm _ _ g2
        have z6 := sm _ _ g6
        have z8 := sm _ _ e8
        have zS := sm.seq hS8
        refine ⟨_, rfl, _, rfl, _, _, rfl, ?_⟩
        refine ⟨_, rfl, _, _, rfl, rfl, _, rfl, ite2 (fun e => ?_) (fun e => ?_)⟩
        · have e' := of_decide_eq_true e
          refine ⟨_, rfl, a, ns, 36, rfl, zS, by decide, _, _, rfl, rfl, (show (0 : Int) < 2 by decide), rfl, _, rfl, ite2 (fun _ => ?_) (fun _ => ?_)⟩
          · refine ⟨_, rfl, _, rfl, _, _, rfl, ?_⟩
            refine ⟨_, rfl, ?_⟩
            refine ⟨_, rfl, rfl, _, rfl, ite_f (by decide +kernel) ?_⟩
            refine ⟨_, rfl, rfl, _, rfl, ite_f (by decide +kernel) ?_⟩
            refine ⟨_, rfl, rfl, _, rfl, ite_f (by decide +kernel) ?_⟩
            refine ⟨_, rfl, _, rfl, pt, _, rfl, .inl (SqL.of z6), fun x1 y1 => ?_⟩
            have t1 := same_upd (o := .lst (ts.map V.int)) y1
            refine ⟨_, rfl, p2, _, rfl, .inl (SqL.of (t1 _ _ z2)), fun x2 y2 => ?_⟩
            have t2 := same_upd (o := .lst (gs.map V.int)) y2
            refine ⟨_, rfl, pb, _, rfl, .inl (SqL.of (t2 _ _ (t1 _ _ z8))), fun x3 y3 => ?_⟩
            have t3 := same_upd (o := .lst (xs.map V.int)) y3
            refine ⟨i, x1, x2, x3, ts, gs, xs, "frame", by rw [Int.zero_add], by omega, SqL.of (t3 _ _ (t2 _ _ upd_same)), SqL.of (t3 _ _ upd_same), SqL.of upd_same, by omega, .inl ⟨hng, rfl⟩, fun H9 s9 => ?_⟩
            refine ⟨_, rfl, rfl, _, rfl, ite_f (by simp) ?_⟩
            exact ⟨_, _, _, _, rfl, sm.trans (((t1.trans t2).trans t3).trans s9)⟩
          · skip
            refine ⟨_, rfl, ?_⟩
            refine ⟨_, rfl, rfl, _, rfl, ite_f (by decide +kernel) ?_⟩
            refine ⟨_, rfl, rfl, _, rfl, ite_f (by decide +kernel) ?_⟩
            refine ⟨_, rfl, rfl, _, rfl, ite_f (by decide +kernel) ?_⟩
            refine ⟨_, rfl, _, rfl, pt, _, rfl, .inl (SqL.of z6), fun x1 y1 => ?_⟩
            have t1 := same_upd (o := .lst (ts.map V.int)) y1
            refine ⟨_, rfl, pb, _, rfl, .inl (SqL.of (t1 _ _ z8)), fun x2 y2 => ?_⟩
            have t2 := same_upd (o := .lst (xs.map V.int)) y2
            refine ⟨_, rfl, p2, _, rfl, .inl (SqL.of (t2 _ _ (t1 _ _ z2))), fun x3 y3 => ?_⟩
            have t3 := same_upd (o := .lst (gs.map V.int)) y3
            refine ⟨i, x1, x2, x3, ts, xs, gs, "frame", by rw [Int.zero_add], by omega, SqL.of (t3 _ _ (t2 _ _ upd_same)), SqL.of (t3 _ _ upd_same), SqL.of upd_same, by omega, .inl ⟨hng, rfl⟩, fun H9 s9 => ?_⟩
            refine ⟨_, rfl, rfl, _, rfl, ite_f (by simp) ?_⟩
            exact ⟨_, _, _, _, rfl, sm.trans (((t1.trans t2).trans t3).trans s9)⟩
        · have e' : ¬ (11 : Int) < 0 + (i : Int) := fun z => e (decide_eq_true z)
          refine ⟨_, rfl, ?_⟩
          refine ⟨_, rfl, rfl, _, rfl, ite_f (by decide +kernel) ?_⟩
          refine ⟨_, rfl, rfl, _, rfl, ite_f (by decide +kernel) ?_⟩
          refine ⟨_, rfl, rfl, _, rfl, ite_f (by decide +kernel) ?_⟩
          refine ⟨_, rfl, _, rfl, pt, _, rfl, .inl (SqL.of z6), fun x1 y1 => ?_⟩
          have t1 := same_upd (o := .lst (ts.map V.int)) y1
          refine ⟨_, rfl, pb, _, rfl, .inl (SqL.of (t1 _ _ z8)), fun x2 y2 => ?_⟩
          have t2 := same_upd (o := .lst (xs.map V.int)) y2
          refine ⟨_, rfl, p2, _, rfl, .inl (SqL.of (t2 _ _ (t1 _ _ z2))), fun x3 y3 => ?_⟩
          have t3 := same_upd (o := .lst (gs.map V.int)) y3
          refine ⟨i, x1, x2, x3, ts, xs, gs, "frame", by rw [Int.zero_add], by omega, SqL.of (t3 _ _ (t2 _ _ upd_same)), SqL.of (t3 _ _ upd_same), SqL.of upd_same, by omega, .inl ⟨hng, rfl⟩, fun H9 s9 => ?_⟩
          refine ⟨_, rfl, rfl, _, rfl, ite_f (by simp) ?_⟩
          exact ⟨_, _, _, _, rfl, sm.trans (((t1.trans t2).trans t3).trans s9)⟩
      · rintro σ H' ⟨v8, v9, v10, v11, rfl, sm⟩
        refine ⟨_, _, rfl, by decide, ?_⟩
        refine for_range (n := 6) (fun i σ H2' => ∃ v8 v9 v10 v11, σ = [some (V.ref a), some (V.int far), some (V.ref p1), some (V.ref p2), some (V.int kd), some (V.str "frame"), some (V.ref pt), some (V.ref pb), v8, v9, v10, v11, none] ∧ Same H8 H2') ⟨_, _, _, _, rfl, sm⟩ ?_ ?_
        · rintro i σ H2' hi ⟨v8, v9, v10, v11, rfl, sm⟩
          refine ⟨_, rfl, rfl, _, rfl, ite_f (by decide +kernel) ?_⟩
          exact ⟨_, _, _, _, rfl, sm⟩
        · rintro σ H2' ⟨v8, v9, v10, v11, rfl, sm⟩
          exact q _
    case' A2 =>
      refine ⟨_, rfl, rfl, _, rfl, ite_f (by rw [dec_int]; exact decide_eq_false (by omega)) ?_⟩
      show tSeq _ _ _ [some (V.ref a), some (V.int far), some (V.ref p1), some (V.ref p2), some (V.int kd), some (V.str "done"), some (V.ref p3), none, none, none, none, none, none] H4
      have e6 := e4
      have sZ := sX
      generalize H4 = HX at e6 sZ
      generalize p3 = pt at e6
      have hSX := sZ.seq hS2
      have f2 := sZ _ _ e2
      obtain ⟨k34, hk34⟩ : ∃ j : Nat, (j : Int) = cell ns 34 % 3 := ⟨(cell ns 34 % 3).toNat, by omega⟩
      obtain ⟨j35, hj35⟩ : ∃ j : Nat, (j : Int) = cell ns 35 % (gs.length : Int) := ⟨(cell ns 35 % (gs.length : Int)).toNat, by have := Int.emod_nonneg (cell ns 35) (show (gs.length : Int) ≠ 0 by omega); omega⟩
      have hj36 : j35 < gs.length := by have := Int.emod_lt_of_pos (cell ns 35) (show (0 : Int) < (gs.length : Int) by omega); omega
      refine ⟨_, rfl, _, rfl, a, ns, 34, rfl, hSX, by decide, _, _, rfl, rfl, (show (0 : Int) < 3 by decide), _, rfl, a, ns, 35, rfl, hSX, by decide, _, rfl, p2, _, rfl, .inl (SqL.of f2), _, _, rfl, rfl, (by show (0 : Int) < ((gs.map V.int).length : Int); rw [List.length_map]; omega), _, rfl, ?_⟩
      rw [List.length_map]
      refine ⟨p2, gs, k34, j35, far, by rw [hk34, hj35], SqL.of f2, hj36, by omega, hf0, fun xs hxs hxl H8 pb s8 n8 e8 => ?_⟩
      have g2 := s8 _ _ f2
      have g6 := s8 _ _ e6
      have hS8 := s8.seq hSX
      have hnb : ¬ GB rs xs := fun z => by
        rcases hxs with h | ⟨x, hx, h⟩
        · have := z.1; omega
        · have := z.2 x hx; omega
      have hgg : GB rs gs := ⟨hgl, fun x hx => (hg9 x hx).1⟩
      have hfit : Fit gs := ⟨fun x hx => by
        have := (hg9 x hx).2
        have : (9 : Int) < 2 ^ 200 := by decide
        omega, fun x hx => by
        have := (hg9 x hx).2
        have : (9 : Int) < 10 ^ 30 := by decide
        omega⟩
      refine ⟨_, rfl, by decide, by decide, ?_⟩
      refine for_range (n := 17) (fun i σ H' => ∃ v8 v9 v10 v11, σ = [some (V.ref a), some (V.int far), some (V.ref p1), some (V.ref p2), some (V.int kd), some (V.str "done"), some (V.ref pt), some (V.ref pb), v8, v9, v10, v11, none] ∧ Same H8 H') ⟨none, none, none, none, rfl, Same.refl _⟩ ?_ ?_
      · rintro i σ H' hi ⟨v8, v9, v10, v11, rfl, sm⟩
        have z2 := sm _ _ g2
        have z6 := sm _ _ g6
        have z8 := sm _ _ e8
        have zS := sm.seq hS8
        refine ⟨_, rfl, _, rfl, _, _, rfl, ?_⟩
        refine ⟨_, rfl, _, _, rfl, rfl, _, rfl, ite2 (fun e => ?_) (fun e => ?_)⟩
        · have e' := of_decide_eq_true e
          refine ⟨_, rfl, a, ns, 36, rfl, zS, by decide, _, _, rfl, rfl, (show (0 : Int) < 2 by decide), rfl, _, rfl, ite2 (fun _ => ?_) (fun _ => ?_)⟩
          · refine ⟨_, rfl, _, rfl, _, _, rfl, ?_⟩
            refine ⟨_, rfl, ?_⟩
            refine ⟨_, rfl, rfl, _, rfl, ite_t (by decide +kernel) ?_⟩
            refine ⟨_, rfl, _, _, rfl, rfl, _, rfl, ite_t (decide_eq_true (by omega)) ?_⟩
            refine ⟨_, rfl, rfl, _, rfl, ite_t (by decide +kernel) ?_⟩
            refine ⟨_, rfl, rfl, _, rfl, ite_f (by rw [dec_int]; exact decide_eq_false (by omega)) ?_⟩
            refine ⟨_, rfl, rfl, _, rfl, ite_t (by decide +kernel) ?_⟩
            refine ⟨_, rfl, rfl, _, rfl, ite_f (by rw [dec_int]; exact decide_eq_false (by omega)) ?_⟩
            refine ⟨_, rfl, _, rfl, pt, _, rfl, .inl (SqL.of z6), fun x1 y1 => ?_⟩
            have t1 := same_upd (o := .lst (rs.map V.int)) y1
            refine ⟨_, rfl, p2, _, rfl, .inl (SqL.of (t1 _ _ z2)), fun x2 y2 => ?_⟩
            have t2 := same_upd (o := .lst (gs.map V.int)) y2
            refine ⟨_, rfl, pb, _, rfl, .inl (SqL.of (t2 _ _ (t1 _ _ z8))), fun x3 y3 => ?_⟩
            have t3 := same_upd (o := .lst (xs.map V.int)) y3
            refine ⟨i, x1, x2, x3, rs, gs, xs, "board", by rw [Int.zero_add], by omega, SqL.of (t3 _ _ (t2 _ _ upd_same)), SqL.of (t3 _ _ upd_same), SqL.of upd_same, by omega, .inr ⟨g, .inr (.inr (.inr (.inr (.inr (.inr ⟨by omega, .inr ⟨hgg, hfit.1, hnb⟩, rfl⟩)))))⟩, fun H9 s9 => ?_⟩
            refine ⟨_, rfl, rfl, _, rfl, ite_f (by simp) ?_⟩
            exact ⟨_, _, _, _, rfl, sm.trans (((t1.trans t2).trans t3).trans s9)⟩
          · skip
            refine ⟨_, rfl, ?_⟩
            refine ⟨_, rfl, rfl, _, rfl, ite_t (by decide +kernel) ?_⟩
            refine ⟨_, rfl, _, _, rfl, rfl, _, rfl, ite_t (decide_eq_true (by omega)) ?_⟩
            refine ⟨_, rfl, rfl, _, rfl, ite_t (by decide +kernel) ?_⟩
            refine ⟨_, rfl, rfl, _, rfl, ite_f (by rw [dec_int]; exact decide_eq_false (by omega)) ?_⟩
            refine ⟨_, rfl, rfl, _, rfl, ite_t (by decide +kernel) ?_⟩
            refine ⟨_, rfl, rfl, _, rfl, ite_f (by rw [dec_int]; exact decide_eq_false (by omega)) ?_⟩
            refine ⟨_, rfl, _, rfl, pt, _, rfl, .inl (SqL.of z6), fun x1 y1 => ?_⟩
            have t1 := same_upd (o := .lst (rs.map V.int)) y1
            refine ⟨_, rfl, pb, _, rfl, .inl (SqL.of (t1 _ _ z8)), fun x2 y2 => ?_⟩
            have t2 := same_upd (o := .lst (xs.map V.int)) y2
            refine ⟨_, rfl, p2, _, rfl, .inl (SqL.of (t2 _ _ (t1 _ _ z2))), fun x3 y3 => ?_⟩
            have t3 := same_upd (o := .lst (gs.map V.int)) y3
            refine ⟨i, x1, x2, x3, rs, xs, gs, "board", by rw [Int.zero_add], by omega, SqL.of (t3 _ _ (t2 _ _ upd_same)), SqL.of (t3 _ _ upd_same), SqL.of upd_same, by omega, .inr ⟨g, .inr (.inr (.inr (.inr (.inr (.inr ⟨by omega, .inl hnb, rfl⟩)))))⟩, fun H9 s9 => ?_⟩
            refine ⟨_, rfl, rfl, _, rfl, ite_f (by simp) ?_⟩
            exact ⟨_, _, _, _, rfl, sm.trans (((t1.trans t2).trans t3).trans s9)⟩
        · have e' : ¬ (11 : Int) < 0 + (i : Int) := fun z => e (decide_eq_true z)
          have hi4 : i = 0 ∨ i = 1 ∨ i = 2 ∨ (3 ≤ i ∧ i ≤ 11) := by omega
          rcases hi4 with rfl | rfl | rfl | hi4
          · refine ⟨_, rfl, ?_⟩
            refine ⟨_, rfl, rfl, _, rfl, ite_t (by decide +kernel) ?_⟩
            refine ⟨_, rfl, _, _, rfl, rfl, _, rfl, ite_f (decide_eq_false (by omega)) ?_⟩
            refine ⟨_, rfl, rfl, _, rfl, ite_t (by decide +kernel) ?_⟩
            refine ⟨_, rfl, rfl, _, rfl, ite_f rfl ?_⟩
            refine ⟨_, rfl, rfl, _, rfl, ite_t (by decide +kernel) ?_⟩
            refine ⟨_, rfl, rfl, _, rfl, ite_f rfl ?_⟩
            refine ⟨_, rfl, _, rfl, pt, _, rfl, .inl (SqL.of z6), fun x1 y1 => ?_⟩
            have t1 := same_upd (o := .lst (rs.map V.int)) y1
            refine ⟨_, rfl, pb, _, rfl, .inl (SqL.of (t1 _ _ z8)), fun x2 y2 => ?_⟩
            have t2 := same_upd (o := .lst (xs.map V.int)) y2
            refine ⟨_, rfl, p2, _, rfl, .inl (SqL.of (t2 _ _ (t1 _ _ z2))), fun x3 y3 => ?_⟩
            have t3 := same_upd (o := .lst (gs.map V.int)) y3
            refine ⟨0, x1, x2, x3, rs, xs, gs, "done", by rfl, by omega, SqL.of (t3 _ _ (t2 _ _ upd_same)), SqL.of (t3 _ _ upd_same), SqL.of upd_same, by omega, .inr ⟨g, .inl ⟨rfl, rfl⟩⟩, fun H9 s9 => ?_⟩
            refine ⟨_, rfl, rfl, _, rfl, ite_f (by simp) ?_⟩
            exact ⟨_, _, _, _, rfl, sm.trans (((t1.trans t2).trans t3).trans s9)⟩
          · refine ⟨_, rfl, ?_⟩
            refine ⟨_, rfl, rfl, _, rfl, ite_t (by decide +kernel) ?_⟩
            refine ⟨_, rfl, _, _, rfl, rfl, _, rfl, ite_f (decide_eq_false (by omega)) ?_⟩
            refine ⟨_, rfl, rfl, _, rfl, ite_t (by decide +kernel) ?_⟩
            refine ⟨_, rfl, rfl, _, rfl, ite_f rfl ?_⟩
            refine ⟨_, rfl, rfl, _, rfl, ite_t (by decide +kernel) ?_⟩
            refine ⟨_, rfl, rfl, _, rfl, ite_t rfl ?_⟩
            refine ⟨_, rfl, pb, _, rfl, .inl (SqL.of z8), rfl, _, rfl, ?_⟩
            rw [List.length_map, dec_int]
            by_cases h0 : xs.length = 0
            · refine ite_t (decide_eq_true (by omega)) ?_
              refine ⟨_, rfl, _, rfl, pt, _, rfl, .inl (SqL.of z6), fun x1 y1 => ?_⟩
              have t1 := same_upd (o := .lst (rs.map V.int)) y1
              refine ⟨_, rfl, pb, _, rfl, .inl (SqL.of (t1 _ _ z8)), fun x2 y2 => ?_⟩
              have t2 := same_upd (o := .lst (xs.map V.int)) y2
              refine ⟨_, rfl, p2, _, rfl, .inl (SqL.of (t2 _ _ (t1 _ _ z2))), fun x3 y3 => ?_⟩
              have t3 := same_upd (o := .lst (gs.map V.int)) y3
              refine ⟨1, x1, x2, x3, rs, xs, gs, "number", by rfl, by omega, SqL.of (t3 _ _ (t2 _ _ upd_same)), SqL.of (t3 _ _ upd_same), SqL.of upd_same, by omega, .inr ⟨g, .inr (.inl ⟨rfl, h0, rfl⟩)⟩, fun H9 s9 => ?_⟩
              refine ⟨_, rfl, rfl, _, rfl, ite_f (by simp) ?_⟩
              exact ⟨_, _, _, _, rfl, sm.trans (((t1.trans t2).trans t3).trans s9)⟩
            · refine ite_f (decide_eq_false (by omega)) ?_
              refine ⟨_, rfl, _, rfl, pt, _, rfl, .inl (SqL.of z6), fun x1 y1 => ?_⟩
              have t1 := same_upd (o := .lst (rs.map V.int)) y1
              refine ⟨_, rfl, pb, _, rfl, .inl (SqL.of (t1 _ _ z8)), fun x2 y2 => ?_⟩
              have t2 := same_upd (o := .lst (xs.map V.int)) y2
              refine ⟨_, rfl, p2, _, rfl, .inl (SqL.of (t2 _ _ (t1 _ _ z2))), fun x3 y3 => ?_⟩
              have t3 := same_upd (o := .lst (gs.map V.int)) y3
              refine ⟨1, x1, x2, x3, rs, xs, gs, "done", by rfl, by omega, SqL.of (t3 _ _ (t2 _ _ upd_same)), SqL.of (t3 _ _ upd_same), SqL.of upd_same, by omega, .inr ⟨g, .inr (.inr (.inl ⟨rfl, by omega, rfl⟩))⟩, fun H9 s9 => ?_⟩
              refine ⟨_, rfl, rfl, _, rfl, ite_f (by simp) ?_⟩
              exact ⟨_, _, _, _, rfl, sm.trans (((t1.trans t2).trans t3).trans s9)⟩
          · refine ⟨_, rfl, ?_⟩
            refine ⟨_, rfl, rfl, _, rfl, ite_t (by decide +kernel) ?_⟩
            refine ⟨_, rfl, _, _, rfl, rfl, _, rfl, ite_f (decide_eq_false (by omega)) ?_⟩
            refine ⟨_, rfl, rfl, _, rfl, ite_t (by decide +kernel) ?_⟩
            refine ⟨_, rfl, rfl, _, rfl, ite_t rfl ?_⟩
            refine ⟨_, rfl, rfl, _, rfl, ite_t (by decide +kernel) ?_⟩
            refine ⟨_, rfl, rfl, _, rfl, ite_f rfl ?_⟩
            refine ⟨_, rfl, _, rfl, pt, _, rfl, .inl (SqL.of z6), fun x1 y1 => ?_⟩
            have t1 := same_upd (o := .lst (rs.map V.int)) y1
            refine ⟨_, rfl, pb, _, rfl, .inl (SqL.of (t1 _ _ z8)), fun x2 y2 => ?_⟩
            have t2 := same_upd (o := .lst (xs.map V.int)) y2
            refine ⟨_, rfl, p2, _, rfl, .inl (SqL.of (t2 _ _ (t1 _ _ z2))), fun x3 y3 => ?_⟩
            have t3 := same_upd (o := .lst (gs.map V.int)) y3
            refine ⟨2, x1, x2, x3, rs, xs, gs, "note", by rfl, by omega, SqL.of (t3 _ _ (t2 _ _ upd_same)), SqL.of (t3 _ _ upd_same), SqL.of upd_same, by omega, .inr ⟨g, .inr (.inr (.inr (.inl ⟨rfl, rfl⟩)))⟩, fun H9 s9 => ?_⟩
            refine ⟨_, rfl, rfl, _, rfl, ite_f (by simp) ?_⟩
            exact ⟨_, _, _, _, rfl, sm.trans (((t1.trans t2).trans t3).trans s9)⟩
          · refine ⟨_, rfl, ?_⟩
            refine ⟨_, rfl, rfl, _, rfl, ite_t (by decide +kernel) ?_⟩
            refine ⟨_, rfl, _, _, rfl, rfl, _, rfl, ite_t (decide_eq_true (by omega)) ?_⟩
            refine ⟨_, rfl, rfl, _, rfl, ite_t (by decide +kernel) ?_⟩
            refine ⟨_, rfl, rfl, _, rfl, ite_f (by rw [dec_int]; exact decide_eq_false (by omega)) ?_⟩
            refine ⟨_, rfl, rfl, _, rfl, ite_t (by decide +kernel) ?_⟩
            refine ⟨_, rfl, rfl, _, rfl, ite_f (by rw [dec_int]; exact decide_eq_false (by omega)) ?_⟩
            refine ⟨_, rfl, _, rfl, pt, _, rfl, .inl (SqL.of z6), fun x1 y1 => ?_⟩
            have t1 := same_upd (o := .lst (rs.map V.int)) y1
            refine ⟨_, rfl, pb, _, rfl, .inl (SqL.of (t1 _ _ z8)), fun x2 y2 => ?_⟩
            have t2 := same_upd (o := .lst (xs.map V.int)) y2
            refine ⟨_, rfl, p2, _, rfl, .inl (SqL.of (t2 _ _ (t1 _ _ z2))), fun x3 y3 => ?_⟩
            have t3 := same_upd (o := .lst (gs.map V.int)) y3
            refine ⟨i, x1, x2, x3, rs, xs, gs, "board", by rw [Int.zero_add], by omega, SqL.of (t3 _ _ (t2 _ _ upd_same)), SqL.of (t3 _ _ upd_same), SqL.of upd_same, by omega, .inr ⟨g, .inr (.inr (.inr (.inr (.inl ⟨hi4.1, hi4.2, hnb, rfl⟩))))⟩, fun H9 s9 => ?_⟩
            refine ⟨_, rfl, rfl, _, rfl, ite_f (by simp) ?_⟩
            exact ⟨_, _, _, _, rfl, sm.trans (((t1.trans t2).trans t3).trans s9)⟩
      · rintro σ H' ⟨v8, v9, v10, v11, rfl, sm⟩
        refine ⟨_, _, rfl, by decide, ?_⟩
        refine for_range (n := 6) (fun i σ H2' => ∃ v8 v9 v10 v11, σ = [some (V.ref a), some (V.int far), some (V.ref p1), some (V.ref p2), some (V.int kd), some (V.str "done"), some (V.ref pt), some (V.ref pb), v8, v9, v10, v11, none] ∧ Same H8 H2') ⟨_, _, _, _, rfl, sm⟩ ?_ ?_
        · rintro i σ H2' hi ⟨v8, v9, v10, v11, rfl, sm⟩
          have z2 := sm _ _ g2
          have z6 := sm _ _ g6
          refine ⟨_, rfl, rfl, _, rfl, ite_t (by decide +kernel) ?_⟩
          refine ⟨_, rfl, _, rfl, pt, _, rfl, .inl (SqL.of z6), fun x1 y1 => ?_⟩
          have t1 := same_upd (o := .lst (rs.map V.int)) y1
          refine ⟨_, rfl, p2, _, rfl, .inl (SqL.of (t1 _ _ z2)), fun x2 y2 => ?_⟩
          have t2 := same_upd (o := .lst (gs.map V.int)) y2
          refine ⟨_, rfl, p2, _, rfl, .inl (SqL.of (t2 _ _ (t1 _ _ z2))), fun x3 y3 => ?_⟩
          have t3 := same_upd (o := .lst (gs.map V.int)) y3
          refine ⟨3 + i, x1, x2, x3, rs, gs, gs, "done", rfl, by omega, SqL.of (t3 _ _ (t2 _ _ upd_same)), SqL.of (t3 _ _ upd_same), SqL.of upd_same, by omega, .inr ⟨g, .inr (.inr (.inr (.inr (.inr (.inl ⟨by omega, by omega, hgg, hfit, rfl⟩)))))⟩, fun H9 s9 => ?_⟩
          refine ⟨rfl, _, rfl, ite_f (by simp) ?_⟩
          exact ⟨_, _, _, _, rfl, sm.trans (((t1.trans t2).trans t3).trans s9)⟩
        · rintro σ H2' ⟨v8, v9, v10, v11, rfl, sm⟩
          exact q _
    case' C =>
      have h4' : ¬ kd < 4 := fun z => h4 (decide_eq_true z)
      refine ⟨_, rfl, rfl, _, rfl, ?_⟩
      rw [dec_int]
      refine ite2 (fun he => ?C1) (fun he => ?C2)
    case' C1 =>
      obtain ⟨n', hn'⟩ : ∃ n' : Nat, n' = (12 + cell ns 33 % 3).toNat := ⟨_, rfl⟩
      have hn12 : 12 ≤ n' ∧ n' ≤ 14 := by omega
      refine ⟨_, rfl, a, ns, 33, rfl, t3.seq hS2, by decide, _, _, rfl, rfl, (show (0 : Int) < 3 by decide), _, _, rfl, rfl, _, rfl, by omega, by omega, fun T hT => ?_⟩
      rw [← hn']
      refine lc_range (lo := 0) (n := n') (Gr H3 T (((List.range n').map fun _ : Nat => (2 : Int)).map V.int)) (Gr.zero _ hT) ?_ ?_
      · rintro i H' hi gr
        refine ⟨rfl, _, gr.step hT (by simp; omega) (map_get (z := 2) ?_) (Same.refl _)⟩
        rw [List.getElem?_map, List.getElem?_range hi]
        rfl
      intro HX gr
      have e6 := gr.done (by simp)
      have sZ := t3.trans gr.1
      have hl : ((List.range n').map fun _ : Nat => (2 : Int)).length = n' := by simp
      generalize (List.range n').map (fun _ : Nat => (2 : Int)) = ts at e6 hl
      have hng : ¬ GF ts := fun z => by have := z.1; omega
      have htl : ts.length ≤ 14 := by omega
      clear gr hl hT
      generalize T = pt at e6
      have hSX := sZ.seq hS2
      have f2 := sZ _ _ e2
      obtain ⟨k34, hk34⟩ : ∃ j : Nat, (j : Int) = cell ns 34 % 3 := ⟨(cell ns 34 % 3).toNat, by omega⟩
      obtain ⟨j35, hj35⟩ : ∃ j : Nat, (j : Int) = cell ns 35 % (gs.length : Int) := ⟨(cell ns 35 % (gs.length : Int)).toNat, by have := Int.emod_nonneg (cell ns 35) (show (gs.length : Int) ≠ 0 by omega); omega⟩
      have hj36 : j35 < gs.length := by have := Int.emod_lt_of_pos (cell ns 35) (show (0 : Int) < (gs.length : Int) by omega); omega
      refine ⟨_, rfl, _, rfl, a, ns, 34, rfl, hSX, by decide, _, _, rfl, rfl, (show (0 : Int) < 3 by decide), _, rfl, a, ns, 35, rfl, hSX, by decide, _, rfl, p2, _, rfl, .inl (SqL.of f2), _, _, rfl, rfl, (by show (0 : Int) < ((gs.map V.int).length : Int); rw [List.length_map]; omega), _, rfl, ?_⟩
      rw [List.length_map]
      refine ⟨p2, gs, k34, j35, far, by rw [hk34, hj35], SqL.of f2, hj36, by omega, hf0, fun xs hxs hxl H8 pb s8 n8 e8 => ?_⟩
      have g2 := s8 _ _ f2
      have g6 := s8 _ _ e6
      have hS8 := s8.seq hSX
      refine ⟨_, rfl, by decide, by decide, ?_⟩
      refine for_range (n := 17) (fun i σ H' => ∃ v8 v9 v10 v11, σ = [some (V.ref a), some (V.int far), some (V.ref p1), some (V.ref p2), some (V.int kd), some (V.str "frame"), some (V.ref pt), some (V.ref pb), v8, v9, v10, v11, none] ∧ Same H8 H') ⟨none, none, none, none, rfl, Same.refl _⟩ ?_ ?_
      · rintro i σ H' hi ⟨v8, v9, v10, v11, rfl, sm⟩
        have z2 := sm _ _ g2
        have z6 := sm _ _ g6
        have z8 := sm _ _ e8
        have zS := sm.seq hS8
        refine ⟨_, rfl, _, rfl, _, _, rfl, ?_⟩
        refine ⟨_, rfl, _, _, rfl, rfl, _, rfl, ite2 (fun e => ?_) (fun e => ?_)⟩
        · have e' := of_decide_eq_true e
          refine ⟨_, rfl, a, ns, 36, rfl, zS, by decide, _, _, rfl, rfl, (show (0 : Int) < 2 by decide), rfl, _, rfl, ite2 (fun _ => ?_) (fun _ => ?_)⟩
          · refine ⟨_, rfl, _, rfl, _, _, rfl, ?_⟩
            refine ⟨_, rfl, ?_⟩
            refine ⟨_, rfl, rfl, _, rfl, ite_f (by decide +kernel) ?_⟩
            refine ⟨_, rfl, rfl, _, rfl, ite_f (by decide +kernel) ?_⟩
            refine ⟨_, rfl, rfl, _, rfl, ite_f (by decide +kernel) ?_⟩
            refine ⟨_, rfl, _, rfl, pt, _, rfl, .inl (SqL.of z6), fun x1 y1 => ?_⟩
            have t1 := same_upd (o := .lst (ts.map V.int)) y1
            refine ⟨_, rfl, p2, _, rfl, .inl (SqL.of (t1 _ _ z2)), fun x2 y2 => ?_⟩
            have t2 := same_upd (o := .lst (gs.map V.int)) y2
            refine ⟨_, rfl, pb, _, rfl, .inl (SqL.of (t2 _ _ (t1 _ _ z8))), fun x3 y3 => ?_⟩
            have t3 := same_upd (o := .lst (xs.map V.int)) y3
            refine ⟨i, x1, x2, x3, ts, gs, xs, "frame", by rw [Int.zero_add], by omega, SqL.of (t3 _ _ (t2 _ _ upd_same)), SqL.of (t3 _ _ upd_same), SqL.of upd_same, by omega, .inl ⟨hng, rfl⟩, fun H9 s9 => ?_⟩
            refine ⟨_, rfl, rfl, _, rfl, ite_f (by simp) ?_⟩
            exact ⟨_, _, _, _, rfl, sm.trans (((t1.trans t2).trans t3).trans s9)⟩
          · skip
            refine ⟨_, rfl, ?_⟩
            refine ⟨_, rfl, rfl, _, rfl, ite_f (by decide +kernel) ?_⟩
            refine ⟨_, rfl, rfl, _, rfl, ite_f (by decide +kernel) ?_⟩
            refine ⟨_, rfl, rfl, _, rfl, ite_f (by decide +kernel) ?_⟩
            refine ⟨_, rfl, _, rfl, pt, _, rfl, .inl (SqL.of z6), fun x1 y1 => ?_⟩
            have t1 := same_upd (o := .lst (ts.map V.int)) y1
            refine ⟨_, rfl, pb, _, rfl, .inl (SqL.of (t1 _ _ z8)), fun x2 y2 => ?_⟩
            have t2 := same_upd (o := .lst (xs.map V.int)) y2
            refine ⟨_, rfl, p2, _, rfl, .inl (SqL.of (t2 _ _ (t1 _ _ z2))), fun x3 y3 => ?_⟩
            have t3 := same_upd (o := .lst (gs.map V.int)) y3
            refine ⟨i, x1, x2, x3, ts, xs, gs, "frame", by rw [Int.zero_add], by omega, SqL.of (t3 _ _ (t2 _ _ upd_same)), SqL.of (t3 _ _ upd_same), SqL.of upd_same, by omega, .inl ⟨hng, rfl⟩, fun H9 s9 => ?_⟩
            refine ⟨_, rfl, rfl, _, rfl, ite_f (by simp) ?_⟩
            exact ⟨_, _, _, _, rfl, sm.trans (((t1.trans t2).trans t3).trans s9)⟩
        · have e' : ¬ (11 : Int) < 0 + (i : Int) := fun z => e (decide_eq_true z)
          refine ⟨_, rfl, ?_⟩
          refine ⟨_, rfl, rfl, _, rfl, ite_f (by decide +kernel) ?_⟩
          refine ⟨_, rfl, rfl, _, rfl, ite_f (by decide +kernel) ?_⟩
          refine ⟨_, rfl, rfl, _, rfl, ite_f (by decide +kernel) ?_⟩
          refine ⟨_, rfl, _, rfl, pt, _, rfl, .inl (SqL.of z6), fun x1 y1 => ?_⟩
          have t1 := same_upd (o := .lst (ts.map V.int)) y1
          refine ⟨_, rfl, pb, _, rfl, .inl (SqL.of (t1 _ _ z8)), fun x2 y2 => ?_⟩
          have t2 := same_upd (o := .lst (xs.map V.int)) y2
          refine ⟨_, rfl, p2, _, rfl, .inl (SqL.of (t2 _ _ (t1 _ _ z2))), fun x3 y3 => ?_⟩
          have t3 := same_upd (o := .lst (gs.map V.int)) y3
          refine ⟨i, x1, x2, x3, ts, xs, gs, "frame", by rw [Int.zero_add], by omega, SqL.of (t3 _ _ (t2 _ _ upd_same)), SqL.of (t3 _ _ upd_same), SqL.of upd_same, by omega, .inl ⟨hng, rfl⟩, fun H9 s9 => ?_⟩
          refine ⟨_, rfl, rfl, _, rfl, ite_f (by simp) ?_⟩
          exact ⟨_, _, _, _, rfl, sm.trans (((t1.trans t2).trans t3).trans s9)⟩
      · rintro σ H' ⟨v8, v9, v10, v11, rfl, sm⟩
        refine ⟨_, _, rfl, by decide, ?_⟩
        refine for_range (n := 6) (fun i σ H2' => ∃ v8 v9 v10 v11, σ = [some (V.ref a), some (V.int far), some (V.ref p1), some (V.ref p2), some (V.int kd), some (V.str "frame"), some (V.ref pt), some (V.ref pb), v8, v9, v10, v11, none] ∧ Same H8 H2') ⟨_, _, _, _, rfl, sm⟩ ?_ ?_
        · rintro i σ H2' hi ⟨v8, v9, v10, v11, rfl, sm⟩
          refine ⟨_, rfl, rfl, _, rfl, ite_f (by decide +kernel) ?_⟩
          exact ⟨_, _, _, _, rfl, sm⟩
        · rintro σ H2' ⟨v8, v9, v10, v11, rfl, sm⟩
          exact q _
    case' C2 =>
      show tSeq _ _ _ [some (V.ref a), some (V.int far), some (V.ref p1), some (V.ref p2), some (V.int kd), some (V.str "done"), some (V.ref p3), none, none, none, none, none, none] H3
      have e6 := e3
      have sZ := t3
      generalize H3 = HX at e6 sZ
      generalize p3 = pt at e6
      have hSX := sZ.seq hS2
      have f2 := sZ _ _ e2
      obtain ⟨k34, hk34⟩ : ∃ j : Nat, (j : Int) = cell ns 34 % 3 := ⟨(cell ns 34 % 3).toNat, by omega⟩
      obtain ⟨j35, hj35⟩ : ∃ j : Nat, (j : Int) = cell ns 35 % (gs.length : Int) := ⟨(cell ns 35 % (gs.length : Int)).toNat, by have := Int.emod_nonneg (cell ns 35) (show (gs.length : Int) ≠ 0 by omega); omega⟩
      have hj36 : j35 < gs.length := by have := Int.emod_lt_of_pos (cell ns 35) (show (0 : Int) < (gs.length : Int) by omega); omega
      refine ⟨_, rfl, _, rfl, a, ns, 34, rfl, hSX, by decide, _, _, rfl, rfl, (show (0 : Int) < 3 by decide), _, rfl, a, ns, 35, rfl, hSX, by decide, _, rfl, p2, _, rfl, .inl (SqL.of f2), _, _, rfl, rfl, (by show (0 : Int) < ((gs.map V.int).length : Int); rw [List.length_map]; omega), _, rfl, ?_⟩
      rw [List.length_map]
      refine ⟨p2, gs, k34, j35, far, by rw [hk34, hj35], SqL.of f2, hj36, by omega, hf0, fun xs hxs hxl H8 pb s8 n8 e8 => ?_⟩
      have g2 := s8 _ _ f2
      have g6 := s8 _ _ e6
      have hS8 := s8.seq hSX
      have hnb : ¬ GB rs xs := fun z => by
        rcases hxs with h | ⟨x, hx, h⟩
        · have := z.1; omega
        · have := z.2 x hx; omega
      have hgg : GB rs gs := ⟨hgl, fun x hx => (hg9 x hx).1⟩
      have hfit : Fit gs := ⟨fun x hx => by
        have := (hg9 x hx).2
        have : (9 : Int) < 2 ^ 200 := by decide
        omega, fun x hx => by
        have := (hg9 x hx).2
        have : (9 : Int) < 10 ^ 30 := by decide
        omega⟩
      refine ⟨_, rfl, by decide, by decide, ?_⟩
      refine for_range (n := 17) (fun i σ H' => ∃ v8 v9 v10 v11, σ = [some (V.ref a), some (V.int far), some (V.ref p1), some (V.ref p2), some (V.int kd), some (V.str "done"), some (V.ref pt), some (V.ref pb), v8, v9, v10, v11, none] ∧ Same H8 H') ⟨none, none, none, none, rfl, Same.refl _⟩ ?_ ?_
      · rintro i σ H' hi ⟨v8, v9, v10, v11, rfl, sm⟩
        have z2 := sm _ _ g2
        have z6 := sm _ _ g6
        have z8 := sm _ _ e8
        have zS := sm.seq hS8
        refine ⟨_, rfl, _, rfl, _, _, rfl, ?_⟩
        refine ⟨_, rfl, _, _, rfl, rfl, _, rfl, ite2 (fun e => ?_) (fun e => ?_)⟩
        · have e' := of_decide_eq_true e
          refine ⟨_, rfl, a, ns, 36, rfl, zS, by decide, _, _, rfl, rfl, (show (0 : Int) < 2 by decide), rfl, _, rfl, ite2 (fun _ => ?_) (fun _ => ?_)⟩
          · refine ⟨_, rfl, _, rfl, _, _, rfl, ?_⟩
            refine ⟨_, rfl, ?_⟩
            refine ⟨_, rfl, rfl, _, rfl, ite_t (by decide +kernel) ?_⟩
            refine ⟨_, rfl, _, _, rfl, rfl, _, rfl, ite_t (decide_eq_true (by omega)) ?_⟩
            refine ⟨_, rfl, rfl, _, rfl, ite_t (by decide +kernel) ?_⟩
            refine ⟨_, rfl, rfl, _, rfl, ite_f (by rw [dec_int]; exact decide_eq_false (by omega)) ?_⟩
            refine ⟨_, rfl, rfl, _, rfl, ite_t (by decide +kernel) ?_⟩
            refine ⟨_, rfl, rfl, _, rfl, ite_f (by rw [dec_int]; exact decide_eq_false (by omega)) ?_⟩
            refine ⟨_, rfl, _, rfl, pt, _, rfl, .inl (SqL.of z6), fun x1 y1 => ?_⟩
            have t1 := same_upd (o := .lst (rs.map V.int)) y1
            refine ⟨_, rfl, p2, _, rfl, .inl (SqL.of (t1 _ _ z2)), fun x2 y2 => ?_⟩
            have t2 := same_upd (o := .lst (gs.map V.int)) y2
            refine ⟨_, rfl, pb, _, rfl, .inl (SqL.of (t2 _ _ (t1 _ _ z8))), fun x3 y3 => ?_⟩
            have t3 := same_upd (o := .lst (xs.map V.int)) y3
            refine ⟨i, x1, x2, x3, rs, gs, xs, "board", by rw [Int.zero_add], by omega, SqL.of (t3 _ _ (t2 _ _ upd_same)), SqL.of (t3 _ _ upd_same), SqL.of upd_same, by omega, .inr ⟨g, .inr (.inr (.inr (.inr (.inr (.inr ⟨by omega, .inr ⟨hgg, hfit.1, hnb⟩, rfl⟩)))))⟩, fun H9 s9 => ?_⟩
            refine ⟨_, rfl, rfl, _, rfl, ite_f (by simp) ?_⟩
            exact ⟨_, _, _, _, rfl, sm.trans (((t1.trans t2).trans t3).trans s9)⟩
          · skip
            refine ⟨_, rfl, ?_⟩
            refine ⟨_, rfl, rfl, _, rfl, ite_t (by decide +kernel) ?_⟩
            refine ⟨_, rfl, _, _, rfl, rfl, _, rfl, ite_t (decide_eq_true (by omega)) ?_⟩
            refine ⟨_, rfl, rfl, _, rfl, ite_t (by decide +kernel) ?_⟩
            refine ⟨_, rfl, rfl, _, rfl, ite_f (by rw [dec_int]; exact decide_eq_false (by omega)) ?_⟩
            refine ⟨_, rfl, rfl, _, rfl, ite_t (by decide +kernel) ?_⟩
            refine ⟨_, rfl, rfl, _, rfl, ite_f (by rw [dec_int]; exact decide_eq_false (by omega)) ?_⟩
            refine ⟨_, rfl, _, rfl, pt, _, rfl, .inl (SqL.of z6), fun x1 y1 => ?_⟩
            have t1 := same_upd (o := .lst (rs.map V.int)) y1
            refine ⟨_, rfl, pb, _, rfl, .inl (SqL.of (t1 _ _ z8)), fun x2 y2 => ?_⟩
            have t2 := same_upd (o := .lst (xs.map V.int)) y2
            refine ⟨_, rfl, p2, _, rfl, .inl (SqL.of (t2 _ _ (t1 _ _ z2))), fun x3 y3 => ?_⟩
            have t3 := same_upd (o := .lst (gs.map V.int)) y3
            refine ⟨i, x1, x2, x3, rs, xs, gs, "board", by rw [Int.zero_add], by omega, SqL.of (t3 _ _ (t2 _ _ upd_same)), SqL.of (t3 _ _ upd_same), SqL.of upd_same, by omega, .inr ⟨g, .inr (.inr (.inr (.inr (.inr (.inr ⟨by omega, .inl hnb, rfl⟩)))))⟩, fun H9 s9 => ?_⟩
            refine ⟨_, rfl, rfl, _, rfl, ite_f (by simp) ?_⟩
            exact ⟨_, _, _, _, rfl, sm.trans (((t1.trans t2).trans t3).trans s9)⟩
        · have e' : ¬ (11 : Int) < 0 + (i : Int) := fun z => e (decide_eq_true z)
          have hi4 : i = 0 ∨ i = 1 ∨ i = 2 ∨ (3 ≤ i ∧ i ≤ 11) := by omega
          rcases hi4 with rfl | rfl | rfl | hi4
          · refine ⟨_, rfl, ?_⟩
            refine ⟨_, rfl, rfl, _, rfl, ite_t (by decide +kernel) ?_⟩
            refine ⟨_, rfl, _, _, rfl, rfl, _, rfl, ite_f (decide_eq_false (by omega)) ?_⟩
            refine ⟨_, rfl, rfl, _, rfl, ite_t (by decide +kernel) ?_⟩
            refine ⟨_, rfl, rfl, _, rfl, ite_f rfl ?_⟩
            refine ⟨_, rfl, rfl, _, rfl, ite_t (by decide +kernel) ?_⟩
            refine ⟨_, rfl, rfl, _, rfl, ite_f rfl ?_⟩
            refine ⟨_, rfl, _, rfl, pt, _, rfl, .inl (SqL.of z6), fun x1 y1 => ?_⟩
            have t1 := same_upd (o := .lst (rs.map V.int)) y1
            refine ⟨_, rfl, pb, _, rfl, .inl (SqL.of (t1 _ _ z8)), fun x2 y2 => ?_⟩
            have t2 := same_upd (o := .lst (xs.map V.int)) y2
            refine ⟨_, rfl, p2, _, rfl, .inl (SqL.of (t2 _ _ (t1 _ _ z2))), fun x3 y3 => ?_⟩
            have t3 := same_upd (o := .lst (gs.map V.int)) y3
            refine ⟨0, x1, x2, x3, rs, xs, gs, "done", by rfl, by omega, SqL.of (t3 _ _ (t2 _ _ upd_same)), SqL.of (t3 _ _ upd_same), SqL.of upd_same, by omega, .inr ⟨g, .inl ⟨rfl, rfl⟩⟩, fun H9 s9 => ?_⟩
            refine ⟨_, rfl, rfl, _, rfl, ite_f (by simp) ?_⟩
            exact ⟨_, _, _, _, rfl, sm.trans (((t1.trans t2).trans t3).trans s9)⟩
          · refine ⟨_, rfl, ?_⟩
            refine ⟨_, rfl, rfl, _, rfl, ite_t (by decide +kernel) ?_⟩
            refine ⟨_, rfl, _, _, rfl, rfl, _, rfl, ite_f (decide_eq_false (by omega)) ?_⟩
            refine ⟨_, rfl, rfl, _, rfl, ite_t (by decide +kernel) ?_⟩
            refine ⟨_, rfl, rfl, _, rfl, ite_f rfl ?_⟩
            refine ⟨_, rfl, rfl, _, rfl, ite_t (by decide +kernel) ?_⟩
            refine ⟨_, rfl, rfl, _, rfl, ite_t rfl ?_⟩
            refine ⟨_, rfl, pb, _, rfl, .inl (SqL.of z8), rfl, _, rfl, ?_⟩
            rw [List.length_map, dec_int]
            by_cases h0 : xs.length = 0
            · refine ite_t (decide_eq_true (by omega)) ?_
              refine ⟨_, rfl, _, rfl, pt, _, rfl, .inl (SqL.of z6), fun x1 y1 => ?_⟩
              have t1 := same_upd (o := .lst (rs.map V.int)) y1
              refine ⟨_, rfl, pb, _, rfl, .inl (SqL.of (t1 _ _ z8)), fun x2 y2 => ?_⟩
              have t2 := same_upd (o := .lst (xs.map V.int)) y2
              refine ⟨_, rfl, p2, _, rfl, .inl (SqL.of (t2 _ _ (t1 _ _ z2))), fun x3 y3 => ?_⟩
              have t3 := same_upd (o := .lst (gs.map V.int)) y3
              refine ⟨1, x1, x2, x3, rs, xs, gs, "number", by rfl, by omega, SqL.of (t3 _ _ (t2 _ _ upd_same)), SqL.of (t3 _ _ upd_same), SqL.of upd_same, by omega, .inr ⟨g, .inr (.inl ⟨rfl, h0, rfl⟩)⟩, fun H9 s9 => ?_⟩
              refine ⟨_, rfl, rfl, _, rfl, ite_f (by simp) ?_⟩
              exact ⟨_, _, _, _, rfl, sm.trans (((t1.trans t2).trans t3).trans s9)⟩
            · refine ite_f (decide_eq_false (by omega)) ?_
              refine ⟨_, rfl, _, rfl, pt, _, rfl, .inl (SqL.of z6), fun x1 y1 => ?_⟩
              have t1 := same_upd (o := .lst (rs.map V.int)) y1
              refine ⟨_, rfl, pb, _, rfl, .inl (SqL.of (t1 _ _ z8)), fun x2 y2 => ?_⟩
              have t2 := same_upd (o := .lst (xs.map V.int)) y2
              refine ⟨_, rfl, p2, _, rfl, .inl (SqL.of (t2 _ _ (t1 _ _ z2))), fun x3 y3 => ?_⟩
              have t3 := same_upd (o := .lst (gs.map V.int)) y3
              refine ⟨1, x1, x2, x3, rs, xs, gs, "done", by rfl, by omega, SqL.of (t3 _ _ (t2 _ _ upd_same)), SqL.of (t3 _ _ upd_same), SqL.of upd_same, by omega, .inr ⟨g, .inr (.inr (.inl ⟨rfl, by omega, rfl⟩))⟩, fun H9 s9 => ?_⟩
              refine ⟨_, rfl, rfl, _, rfl, ite_f (by simp) ?_⟩
              exact ⟨_, _, _, _, rfl, sm.trans (((t1.trans t2).trans t3).trans s9)⟩
          · refine ⟨_, rfl, ?_⟩
            refine ⟨_, rfl, rfl, _, rfl, ite_t (by decide +kernel) ?_⟩
            refine ⟨_, rfl, _, _, rfl, rfl, _, rfl, ite_f (decide_eq_false (by omega)) ?_⟩
            refine ⟨_, rfl, rfl, _, rfl, ite_t (by decide +kernel) ?_⟩
            refine ⟨_, rfl, rfl, _, rfl, ite_t rfl ?_⟩
            refine ⟨_, rfl, rfl, _, rfl, ite_t (by decide +kernel) ?_⟩
            refine ⟨_, rfl, rfl, _, rfl, ite_f rfl ?_⟩
            refine ⟨_, rfl, _, rfl, pt, _, rfl, .inl (SqL.of z6), fun x1 y1 => ?_⟩
            have t1 := same_upd (o := .lst (rs.map V.int)) y1
            refine ⟨_, rfl, pb, _, rfl, .inl (SqL.of (t1 _ _ z8)), fun x2 y2 => ?_⟩
            have t2 := same_upd (o := .lst (xs.map V.int)) y2
            refine ⟨_, rfl, p2, _, rfl, .inl (SqL.of (t2 _ _ (t1 _ _ z2))), fun x3 y3 => ?_⟩
            have t3 := same_upd (o := .lst (gs.map V.int)) y3
            refine ⟨2, x1, x2, x3, rs, xs, gs, "note", by rfl, by omega, SqL.of (t3 _ _ (t2 _ _ upd_same)), SqL.of (t3 _ _ upd_same), SqL.of upd_same, by omega, .inr ⟨g, .inr (.inr (.inr (.inl ⟨rfl, rfl⟩)))⟩, fun H9 s9 => ?_⟩
            refine ⟨_, rfl, rfl, _, rfl, ite_f (by simp) ?_⟩
            exact ⟨_, _, _, _, rfl, sm.trans (((t1.trans t2).trans t3).trans s9)⟩
          · refine ⟨_, rfl, ?_⟩
            refine ⟨_, rfl, rfl, _, rfl, ite_t (by decide +kernel) ?_⟩
            refine ⟨_, rfl, _, _, rfl, rfl, _, rfl, ite_t (decide_eq_true (by omega)) ?_⟩
            refine ⟨_, rfl, rfl, _, rfl, ite_t (by decide +kernel) ?_⟩
            refine ⟨_, rfl, rfl, _, rfl, ite_f (by rw [dec_int]; exact decide_eq_false (by omega)) ?_⟩
            refine ⟨_, rfl, rfl, _, rfl, ite_t (by decide +kernel) ?_⟩
            refine ⟨_, rfl, rfl, _, rfl, ite_f (by rw [dec_int]; exact decide_eq_false (by omega)) ?_⟩
            refine ⟨_, rfl, _, rfl, pt, _, rfl, .inl (SqL.of z6), fun x1 y1 => ?_⟩
            have t1 := same_upd (o := .lst (rs.map V.int)) y1
            refine ⟨_, rfl, pb, _, rfl, .inl (SqL.of (t1 _ _ z8)), fun x2 y2 => ?_⟩
            have t2 := same_upd (o := .lst (xs.map V.int)) y2
            refine ⟨_, rfl, p2, _, rfl, .inl (SqL.of (t2 _ _ (t1 _ _ z2))), fun x3 y3 => ?_⟩
            have t3 := same_upd (o := .lst (gs.map V.int)) y3
            refine ⟨i, x1, x2, x3, rs, xs, gs, "board", by rw [Int.zero_add], by omega, SqL.of (t3 _ _ (t2 _ _ upd_same)), SqL.of (t3 _ _ upd_same), SqL.of upd_same, by omega, .inr ⟨g, .inr (.inr (.inr (.inr (.inl ⟨hi4.1, hi4.2, hnb, rfl⟩))))⟩, fun H9 s9 => ?_⟩
            refine ⟨_, rfl, rfl, _, rfl, ite_f (by simp) ?_⟩
            exact ⟨_, _, _, _, rfl, sm.trans (((t1.trans t2).trans t3).trans s9)⟩
      · rintro σ H' ⟨v8, v9, v10, v11, rfl, sm⟩
        refine ⟨_, _, rfl, by decide, ?_⟩
        refine for_range (n := 6) (fun i σ H2' => ∃ v8 v9 v10 v11, σ = [some (V.ref a), some (V.int far), some (V.ref p1), some (V.ref p2), some (V.int kd), some (V.str "done"), some (V.ref pt), some (V.ref pb), v8, v9, v10, v11, none] ∧ Same H8 H2') ⟨_, _, _, _, rfl, sm⟩ ?_ ?_
        · rintro i σ H2' hi ⟨v8, v9, v10, v11, rfl, sm⟩
          have z2 := sm _ _ g2
          have z6 := sm _ _ g6
          refine ⟨_, rfl, rfl, _, rfl, ite_t (by decide +kernel) ?_⟩
          refine ⟨_, rfl, _, rfl, pt, _, rfl, .inl (SqL.of z6), fun x1 y1 => ?_⟩
          have t1 := same_upd (o := .lst (rs.map V.int)) y1
          refine ⟨_, rfl, p2, _, rfl, .inl (SqL.of (t1 _ _ z2)), fun x2 y2 => ?_⟩
          have t2 := same_upd (o := .lst (gs.map V.int)) y2
          refine ⟨_, rfl, p2, _, rfl, .inl (SqL.of (t2 _ _ (t1 _ _ z2))), fun x3 y3 => ?_⟩
          have t3 := same_upd (o := .lst (gs.map V.int)) y3
          refine ⟨3 + i, x1, x2, x3, rs, gs, gs, "done", rfl, by omega, SqL.of (t3 _ _ (t2 _ _ upd_same)), SqL.of (t3 _ _ upd_same), SqL.of upd_same, by omega, .inr ⟨g, .inr (.inr (.inr (.inr (.inr (.inl ⟨by omega, by omega, hgg, hfit, rfl⟩)))))⟩, fun H9 s9 => ?_⟩
          refine ⟨rfl, _, rfl, ite_f (by simp) ?_⟩
          exact ⟨_, _, _, _, rfl, sm.trans (((t1.trans t2).trans t3).trans s9)⟩
        · rintro σ H2' ⟨v8, v9, v10, v11, rfl, sm⟩
          exact q _
end
end CB
namespace CB
open PySem PySem.Spec PyProof.Rows L2
theorem all_mk {l : PySem.W.OpenLaw} {w : World} {K : PySem.W.Frag} {h : Heap} {mg : Str → Option Value} {fa : Addr} (X : K.In h) (G : h.Ns mainGlobals mg) (hfa : mg "law" = some (.ref fa))
    {t_MOST : Tok}
    {t_FIGURES : Tok}
    {t_MOST_STEPS : Tok}
    {C_NoFrame : Addr}
    {C_NoBoard : Addr}
    {C_NoNumber : Addr}
    {C_NoStep : Addr}
    {C_NoWay : Addr}
    {C_TooLong : Addr}
    {C_NoLess : Addr}
    {C_NoNote : Addr}
    {C_BoardError : Addr}
    {f_asked_frame : Addr} {od_asked_frame an_asked_frame : Option Addr} {sl_asked_frame : Array (Option Value)} {oc_asked_frame kV_asked_frame dc_asked_frame pm_asked_frame cd_asked_frame ct_asked_frame : Value}
    {f_asked_board : Addr} {od_asked_board an_asked_board : Option Addr} {sl_asked_board : Array (Option Value)} {oc_asked_board kV_asked_board dc_asked_board pm_asked_board cd_asked_board ct_asked_board : Value}
    {f_worths : Addr} {od_worths an_worths : Option Addr} {sl_worths : Array (Option Value)} {oc_worths kV_worths dc_worths pm_worths cd_worths ct_worths : Value}
    {f_worth : Addr} {od_worth an_worth : Option Addr} {sl_worth : Array (Option Value)} {oc_worth kV_worth dc_worth pm_worth cd_worth ct_worth : Value}
    {f_is_plain : Addr} {od_is_plain an_is_plain : Option Addr} {sl_is_plain : Array (Option Value)} {oc_is_plain kV_is_plain dc_is_plain pm_is_plain cd_is_plain ct_is_plain : Value}
    {f_board_of : Addr} {od_board_of an_board_of : Option Addr} {sl_board_of : Array (Option Value)} {oc_board_of kV_board_of dc_board_of pm_board_of cd_board_of ct_board_of : Value}
    {f_plain : Addr} {od_plain an_plain : Option Addr} {sl_plain : Array (Option Value)} {oc_plain kV_plain dc_plain pm_plain cd_plain ct_plain : Value}
    {f_shown : Addr} {od_shown an_shown : Option Addr} {sl_shown : Array (Option Value)} {oc_shown kV_shown dc_shown pm_shown cd_shown ct_shown : Value}
    {f_number_of : Addr} {od_number_of an_number_of : Option Addr} {sl_number_of : Array (Option Value)} {oc_number_of kV_number_of dc_number_of pm_number_of cd_number_of ct_number_of : Value}
    {f_read : Addr} {od_read an_read : Option Addr} {sl_read : Array (Option Value)} {oc_read kV_read dc_read pm_read cd_read ct_read : Value}
    {f_added : Addr} {od_added an_added : Option Addr} {sl_added : Array (Option Value)} {oc_added kV_added dc_added pm_added cd_added ct_added : Value}
    {f_less : Addr} {od_less an_less : Option Addr} {sl_less : Array (Option Value)} {oc_less kV_less dc_less pm_less cd_less ct_less : Value}
    {f_times : Addr} {od_times an_times : Option Addr} {sl_times : Array (Option Value)} {oc_times kV_times dc_times pm_times cd_times ct_times : Value}
    {f_parted : Addr} {od_parted an_parted : Option Addr} {sl_parted : Array (Option Value)} {oc_parted kV_parted dc_parted pm_parted cd_parted ct_parted : Value}
    {f_goes : Addr} {od_goes an_goes : Option Addr} {sl_goes : Array (Option Value)} {oc_goes kV_goes dc_goes pm_goes cd_goes ct_goes : Value}
    {f_can : Addr} {od_can an_can : Option Addr} {sl_can : Array (Option Value)} {oc_can kV_can dc_can pm_can cd_can ct_can : Value}
    {f_stepped : Addr} {od_stepped an_stepped : Option Addr} {sl_stepped : Array (Option Value)} {oc_stepped kV_stepped dc_stepped pm_stepped cd_stepped ct_stepped : Value}
    {f_raisings : Addr} {od_raisings an_raisings : Option Addr} {sl_raisings : Array (Option Value)} {oc_raisings kV_raisings dc_raisings pm_raisings cd_raisings ct_raisings : Value}
    {f_net : Addr} {od_net an_net : Option Addr} {sl_net : Array (Option Value)} {oc_net kV_net dc_net pm_net cd_net ct_net : Value}
    {f_fewest : Addr} {od_fewest an_fewest : Option Addr} {sl_fewest : Array (Option Value)} {oc_fewest kV_fewest dc_fewest pm_fewest cd_fewest ct_fewest : Value}
    {f_way : Addr} {od_way an_way : Option Addr} {sl_way : Array (Option Value)} {oc_way kV_way dc_way pm_way cd_way ct_way : Value}
    {f_law_cell_at : Addr} {od_law_cell_at an_law_cell_at : Option Addr} {sl_law_cell_at : Array (Option Value)} {oc_law_cell_at kV_law_cell_at dc_law_cell_at pm_law_cell_at cd_law_cell_at ct_law_cell_at : Value}
    {f_law_word_of : Addr} {od_law_word_of an_law_word_of : Option Addr} {sl_law_word_of : Array (Option Value)} {oc_law_word_of kV_law_word_of dc_law_word_of pm_law_word_of cd_law_word_of ct_law_word_of : Value}
    {f_law_first : Addr} {od_law_first an_law_first : Option Addr} {sl_law_first : Array (Option Value)} {oc_law_first kV_law_first dc_law_first pm_law_first cd_law_first ct_law_first : Value}
    {f_law_second : Addr} {od_law_second an_law_second : Option Addr} {sl_law_second : Array (Option Value)} {oc_law_second kV_law_second dc_law_second pm_law_second cd_law_second ct_law_second : Value}
    {f_law_tried : Addr} {od_law_tried an_law_tried : Option Addr} {sl_law_tried : Array (Option Value)} {oc_law_tried kV_law_tried dc_law_tried pm_law_tried cd_law_tried ct_law_tried : Value}
    {f_law_bad_board : Addr} {od_law_bad_board an_law_bad_board : Option Addr} {sl_law_bad_board : Array (Option Value)} {oc_law_bad_board kV_law_bad_board dc_law_bad_board pm_law_bad_board cd_law_bad_board ct_law_bad_board : Value}
    {f_law : Addr} {od_law an_law : Option Addr} {sl_law : Array (Option Value)} {oc_law kV_law dc_law pm_law cd_law ct_law : Value}
    (z_len : PySem.W.nsIn K mainGlobals "len" = some none)
    (z_list : PySem.W.nsIn K mainGlobals "list" = some none)
    (z_range : PySem.W.nsIn K mainGlobals "range" = some none)
    (z_isinstance : PySem.W.nsIn K mainGlobals "isinstance" = some none)
    (z_zip : PySem.W.nsIn K mainGlobals "zip" = some none)
    (z_reversed : PySem.W.nsIn K mainGlobals "reversed" = some none)
    (z_sum : PySem.W.nsIn K mainGlobals "sum" = some none)
    (z_all : PySem.W.nsIn K mainGlobals "all" = some none)
    (z_abs : PySem.W.nsIn K mainGlobals "abs" = some none)
    (z_max : PySem.W.nsIn K mainGlobals "max" = some none)
    (z_min : PySem.W.nsIn K mainGlobals "min" = some none)
    (z_str : PySem.W.nsIn K mainGlobals "str" = some none)
    (z_int : PySem.W.nsIn K mainGlobals "int" = some none)
    (z_bool : PySem.W.nsIn K mainGlobals "bool" = some none)
    (z_tuple : PySem.W.nsIn K mainGlobals "tuple" = some none)
    (z_ValueError : PySem.W.nsIn K mainGlobals "ValueError" = some none)
    (g_MOST : PySem.W.nsIn K mainGlobals "MOST" = some (some (.int 11 t_MOST)))
    (g_FIGURES : PySem.W.nsIn K mainGlobals "FIGURES" = some (some (.str "0123456789" t_FIGURES)))
    (g_MOST_STEPS : PySem.W.nsIn K mainGlobals "MOST_STEPS" = some (some (.int 2000 t_MOST_STEPS)))
    (g_NoFrame : PySem.W.nsIn K mainGlobals "NoFrame" = some (some (.ref C_NoFrame)))
    (x_NoFrame : PySem.W.excIn K C_NoFrame [.type "ValueError", .type "Exception", .type "BaseException", .type "object"] "ValueError.__new__" = true)
    (k_NoFrame : PySem.W.keepIn K (.ref C_NoFrame) = true)
    (b_NoFrame : PySem.W.subIn K (.ref C_NoFrame) (.type "BaseException") = some true)
    (t_NoFrame : PySem.W.typeIn K (.ref C_NoFrame) = some (.type "type"))
    (g_NoBoard : PySem.W.nsIn K mainGlobals "NoBoard" = some (some (.ref C_NoBoard)))
    (x_NoBoard : PySem.W.excIn K C_NoBoard [.type "ValueError", .type "Exception", .type "BaseException", .type "object"] "ValueError.__new__" = true)
    (k_NoBoard : PySem.W.keepIn K (.ref C_NoBoard) = true)
    (b_NoBoard : PySem.W.subIn K (.ref C_NoBoard) (.type "BaseException") = some true)
    (t_NoBoard : PySem.W.typeIn K (.ref C_NoBoard) = some (.type "type"))
    (g_NoNumber : PySem.W.nsIn K mainGlobals "NoNumber" = some (some (.ref C_NoNumber)))
    (x_NoNumber : PySem.W.excIn K C_NoNumber [.type "ValueError", .type "Exception", .type "BaseException", .type "object"] "ValueError.__new__" = true)
    (k_NoNumber : PySem.W.keepIn K (.ref C_NoNumber) = true)
    (b_NoNumber : PySem.W.subIn K (.ref C_NoNumber) (.type "BaseException") = some true)
    (t_NoNumber : PySem.W.typeIn K (.ref C_NoNumber) = some (.type "type"))
    (g_NoStep : PySem.W.nsIn K mainGlobals "NoStep" = some (some (.ref C_NoStep)))
    (x_NoStep : PySem.W.excIn K C_NoStep [.type "ValueError", .type "Exception", .type "BaseException", .type "object"] "ValueError.__new__" = true)
    (k_NoStep : PySem.W.keepIn K (.ref C_NoStep) = true)
    (b_NoStep : PySem.W.subIn K (.ref C_NoStep) (.type "BaseException") = some true)
    (t_NoStep : PySem.W.typeIn K (.ref C_NoStep) = some (.type "type"))
    (g_NoWay : PySem.W.nsIn K mainGlobals "NoWay" = some (some (.ref C_NoWay)))
    (x_NoWay : PySem.W.excIn K C_NoWay [.type "ValueError", .type "Exception", .type "BaseException", .type "object"] "ValueError.__new__" = true)
    (k_NoWay : PySem.W.keepIn K (.ref C_NoWay) = true)
    (b_NoWay : PySem.W.subIn K (.ref C_NoWay) (.type "BaseException") = some true)
    (t_NoWay : PySem.W.typeIn K (.ref C_NoWay) = some (.type "type"))
    (g_TooLong : PySem.W.nsIn K mainGlobals "TooLong" = some (some (.ref C_TooLong)))
    (x_TooLong : PySem.W.excIn K C_TooLong [.type "ValueError", .type "Exception", .type "BaseException", .type "object"] "ValueError.__new__" = true)
    (k_TooLong : PySem.W.keepIn K (.ref C_TooLong) = true)
    (b_TooLong : PySem.W.subIn K (.ref C_TooLong) (.type "BaseException") = some true)
    (t_TooLong : PySem.W.typeIn K (.ref C_TooLong) = some (.type "type"))
    (g_NoLess : PySem.W.nsIn K mainGlobals "NoLess" = some (some (.ref C_NoLess)))
    (x_NoLess : PySem.W.excIn K C_NoLess [.type "ValueError", .type "Exception", .type "BaseException", .type "object"] "ValueError.__new__" = true)
    (k_NoLess : PySem.W.keepIn K (.ref C_NoLess) = true)
    (b_NoLess : PySem.W.subIn K (.ref C_NoLess) (.type "BaseException") = some true)
    (t_NoLess : PySem.W.typeIn K (.ref C_NoLess) = some (.type "type"))
    (g_NoNote : PySem.W.nsIn K mainGlobals "NoNote" = some (some (.ref C_NoNote)))
    (x_NoNote : PySem.W.excIn K C_NoNote [.type "ValueError", .type "Exception", .type "BaseException", .type "object"] "ValueError.__new__" = true)
    (k_NoNote : PySem.W.keepIn K (.ref C_NoNote) = true)
    (b_NoNote : PySem.W.subIn K (.ref C_NoNote) (.type "BaseException") = some true)
    (t_NoNote : PySem.W.typeIn K (.ref C_NoNote) = some (.type "type"))
    (g_BoardError : PySem.W.nsIn K mainGlobals "BoardError" = some (some (.ref C_BoardError)))
    (xn_all : PySem.W.specialIn K (.builtin "object.__class__") "__get__" = some (some (.builtin "getset_descriptor.__get__")))
    (xt_all : PySem.W.takesIn K (.builtin "object.__class__") = some true)
    (xg_NoFrame : PySem.W.findIn K (.ref C_NoFrame) "__getattribute__" = some (some (.builtin "BaseException.__getattribute__")))
    (xk_NoFrame : PySem.W.findIn K (.ref C_NoFrame) "__getattr__" = some none)
    (xd_NoFrame : PySem.W.hasDictIn K C_NoFrame = true)
    (xa_NoFrame : PySem.W.findIn K (.ref C_NoFrame) "__class__" = some (some (.builtin "object.__class__")))
    (xm_NoFrame : PySem.W.mroIn K C_NoFrame (.type "object") = some true)
    (q0_NoFrame : PySem.W.kitOne K (.ref C_NoFrame) (.ref C_NoFrame) = some true)
    (q1_NoFrame : PySem.W.kitOne K (.ref C_NoFrame) (.ref C_NoBoard) = some false)
    (q2_NoFrame : PySem.W.kitOne K (.ref C_NoFrame) (.ref C_NoNumber) = some false)
    (q3_NoFrame : PySem.W.kitOne K (.ref C_NoFrame) (.ref C_NoStep) = some false)
    (q4_NoFrame : PySem.W.kitOne K (.ref C_NoFrame) (.ref C_NoWay) = some false)
    (q5_NoFrame : PySem.W.kitOne K (.ref C_NoFrame) (.ref C_TooLong) = some false)
    (q6_NoFrame : PySem.W.kitOne K (.ref C_NoFrame) (.ref C_NoLess) = some false)
    (q7_NoFrame : PySem.W.kitOne K (.ref C_NoFrame) (.ref C_NoNote) = some false)
    (qv_NoFrame : PySem.W.kitOne K (.ref C_NoFrame) (.type "ValueError") = some true)
    (qb_NoFrame : PySem.W.exmOne K (.ref C_NoFrame) (.ref C_BoardError) = some true)
    (xg_NoBoard : PySem.W.findIn K (.ref C_NoBoard) "__getattribute__" = some (some (.builtin "BaseException.__getattribute__")))
    (xk_NoBoard : PySem.W.findIn K (.ref C_NoBoard) "__getattr__" = some none)
    (xd_NoBoard : PySem.W.hasDictIn K C_NoBoard = true)
    (xa_NoBoard : PySem.W.findIn K (.ref C_NoBoard) "__class__" = some (some (.builtin "object.__class__")))
    (xm_NoBoard : PySem.W.mroIn K C_NoBoard (.type "object") = some true)
    (q0_NoBoard : PySem.W.kitOne K (.ref C_NoBoard) (.ref C_NoFrame) = some false)
    (q1_NoBoard : PySem.W.kitOne K (.ref C_NoBoard) (.ref C_NoBoard) = some true)
    (q2_NoBoard : PySem.W.kitOne K (.ref C_NoBoard) (.ref C_NoNumber) = some false)
    (q3_NoBoard : PySem.W.kitOne K (.ref C_NoBoard) (.ref C_NoStep) = some false)
    (q4_NoBoard : PySem.W.kitOne K (.ref C_NoBoard) (.ref C_NoWay) = some false)
    (q5_NoBoard : PySem.W.kitOne K (.ref C_NoBoard) (.ref C_TooLong) = some false)
    (q6_NoBoard : PySem.W.kitOne K (.ref C_NoBoard) (.ref C_NoLess) = some false)
    (q7_NoBoard : PySem.W.kitOne K (.ref C_NoBoard) (.ref C_NoNote) = some false)
    (qv_NoBoard : PySem.W.kitOne K (.ref C_NoBoard) (.type "ValueError") = some true)
    (qb_NoBoard : PySem.W.exmOne K (.ref C_NoBoard) (.ref C_BoardError) = some true)
    (xg_NoNumber : PySem.W.findIn K (.ref C_NoNumber) "__getattribute__" = some (some (.builtin "BaseException.__getattribute__")))
    (xk_NoNumber : PySem.W.findIn K (.ref C_NoNumber) "__getattr__" = some none)
    (xd_NoNumber : PySem.W.hasDictIn K C_NoNumber = true)
    (xa_NoNumber : PySem.W.findIn K (.ref C_NoNumber) "__class__" = some (some (.builtin "object.__class__")))
    (xm_NoNumber : PySem.W.mroIn K C_NoNumber (.type "object") = some true)
    (q0_NoNumber : PySem.W.kitOne K (.ref C_NoNumber) (.ref C_NoFrame) = some false)
    (q1_NoNumber : PySem.W.kitOne K (.ref C_NoNumber) (.ref C_NoBoard) = some false)
    (q2_NoNumber : PySem.W.kitOne K (.ref C_NoNumber) (.ref C_NoNumber) = some true)
    (q3_NoNumber : PySem.W.kitOne K (.ref C_NoNumber) (.ref C_NoStep) = some false)
    (q4_NoNumber : PySem.W.kitOne K (.ref C_NoNumber) (.ref C_NoWay) = some false)
    (q5_NoNumber : PySem.W.kitOne K (.ref C_NoNumber) (.ref C_TooLong) = some false)
    (q6_NoNumber : PySem.W.kitOne K (.ref C_NoNumber) (.ref C_NoLess) = some false)
    (q7_NoNumber : PySem.W.kitOne K (.ref C_NoNumber) (.ref C_NoNote) = some false)
    (qv_NoNumber : PySem.W.kitOne K (.ref C_NoNumber) (.type "ValueError") = some true)
    (qb_NoNumber : PySem.W.exmOne K (.ref C_NoNumber) (.ref C_BoardError) = some true)
    (xg_NoNote : PySem.W.findIn K (.ref C_NoNote) "__getattribute__" = some (some (.builtin "BaseException.__getattribute__")))
    (xk_NoNote : PySem.W.findIn K (.ref C_NoNote) "__getattr__" = some none)
    (xd_NoNote : PySem.W.hasDictIn K C_NoNote = true)
    (xa_NoNote : PySem.W.findIn K (.ref C_NoNote) "__class__" = some (some (.builtin "object.__class__")))
    (xm_NoNote : PySem.W.mroIn K C_NoNote (.type "object") = some true)
    (q0_NoNote : PySem.W.kitOne K (.ref C_NoNote) (.ref C_NoFrame) = some false)
    (q1_NoNote : PySem.W.kitOne K (.ref C_NoNote) (.ref C_NoBoard) = some false)
    (q2_NoNote : PySem.W.kitOne K (.ref C_NoNote) (.ref C_NoNumber) = some false)
    (q3_NoNote : PySem.W.kitOne K (.ref C_NoNote) (.ref C_NoStep) = some false)
    (q4_NoNote : PySem.W.kitOne K (.ref C_NoNote) (.ref C_NoWay) = some false)
    (q5_NoNote : PySem.W.kitOne K (.ref C_NoNote) (.ref C_TooLong) = some false)
    (q6_NoNote : PySem.W.kitOne K (.ref C_NoNote) (.ref C_NoLess) = some false)
    (q7_NoNote : PySem.W.kitOne K (.ref C_NoNote) (.ref C_NoNote) = some true)
    (qv_NoNote : PySem.W.kitOne K (.ref C_NoNote) (.type "ValueError") = some true)
    (qb_NoNote : PySem.W.exmOne K (.ref C_NoNote) (.ref C_BoardError) = some true)
    (a_asked_frame : PySem.W.nsIn K mainGlobals "asked_frame" = some (some (.ref f_asked_frame)))
    (l_asked_frame : K.lookup f_asked_frame = some ⟨oc_asked_frame, od_asked_frame, .func (PySem.W.fnOf "asked_frame" "asked_frame" (defArgs s_asked_frame) (defBody s_asked_frame) (defScope s_asked_frame) .none kV_asked_frame dc_asked_frame pm_asked_frame an_asked_frame cd_asked_frame ct_asked_frame), sl_asked_frame⟩)
    (c_asked_frame : PySem.W.codeIn K cd_asked_frame "asked_frame" = true)
    (p_asked_frame : PySem.W.keepIn K (.ref f_asked_frame) = true)
    (a_asked_board : PySem.W.nsIn K mainGlobals "asked_board" = some (some (.ref f_asked_board)))
    (l_asked_board : K.lookup f_asked_board = some ⟨oc_asked_board, od_asked_board, .func (PySem.W.fnOf "asked_board" "asked_board" (defArgs s_asked_board) (defBody s_asked_board) (defScope s_asked_board) .none kV_asked_board dc_asked_board pm_asked_board an_asked_board cd_asked_board ct_asked_board), sl_asked_board⟩)
    (c_asked_board : PySem.W.codeIn K cd_asked_board "asked_board" = true)
    (p_asked_board : PySem.W.keepIn K (.ref f_asked_board) = true)
    (a_worths : PySem.W.nsIn K mainGlobals "worths" = some (some (.ref f_worths)))
    (l_worths : K.lookup f_worths = some ⟨oc_worths, od_worths, .func (PySem.W.fnOf "worths" "worths" (defArgs s_worths) (defBody s_worths) (defScope s_worths) .none kV_worths dc_worths pm_worths an_worths cd_worths ct_worths), sl_worths⟩)
    (c_worths : PySem.W.codeIn K cd_worths "worths" = true)
    (p_worths : PySem.W.keepIn K (.ref f_worths) = true)
    (a_worth : PySem.W.nsIn K mainGlobals "worth" = some (some (.ref f_worth)))
    (l_worth : K.lookup f_worth = some ⟨oc_worth, od_worth, .func (PySem.W.fnOf "worth" "worth" (defArgs s_worth) (defBody s_worth) (defScope s_worth) .none kV_worth dc_worth pm_worth an_worth cd_worth ct_worth), sl_worth⟩)
    (c_worth : PySem.W.codeIn K cd_worth "worth" = true)
    (p_worth : PySem.W.keepIn K (.ref f_worth) = true)
    (a_is_plain : PySem.W.nsIn K mainGlobals "is_plain" = some (some (.ref f_is_plain)))
    (l_is_plain : K.lookup f_is_plain = some ⟨oc_is_plain, od_is_plain, .func (PySem.W.fnOf "is_plain" "is_plain" (defArgs s_is_plain) (defBody s_is_plain) (defScope s_is_plain) .none kV_is_plain dc_is_plain pm_is_plain an_is_plain cd_is_plain ct_is_plain), sl_is_plain⟩)
    (c_is_plain : PySem.W.codeIn K cd_is_plain "is_plain" = true)
    (p_is_plain : PySem.W.keepIn K (.ref f_is_plain) = true)
    (a_board_of : PySem.W.nsIn K mainGlobals "board_of" = some (some (.ref f_board_of)))
    (l_board_of : K.lookup f_board_of = some ⟨oc_board_of, od_board_of, .func (PySem.W.fnOf "board_of" "board_of" (defArgs s_board_of) (defBody s_board_of) (defScope s_board_of) .none kV_board_of dc_board_of pm_board_of an_board_of cd_board_of ct_board_of), sl_board_of⟩)
    (c_board_of : PySem.W.codeIn K cd_board_of "board_of" = true)
    (p_board_of : PySem.W.keepIn K (.ref f_board_of) = true)
    (a_plain : PySem.W.nsIn K mainGlobals "plain" = some (some (.ref f_plain)))
    (l_plain : K.lookup f_plain = some ⟨oc_plain, od_plain, .func (PySem.W.fnOf "plain" "plain" (defArgs s_plain) (defBody s_plain) (defScope s_plain) .none kV_plain dc_plain pm_plain an_plain cd_plain ct_plain), sl_plain⟩)
    (c_plain : PySem.W.codeIn K cd_plain "plain" = true)
    (p_plain : PySem.W.keepIn K (.ref f_plain) = true)
    (a_shown : PySem.W.nsIn K mainGlobals "shown" = some (some (.ref f_shown)))
    (l_shown : K.lookup f_shown = some ⟨oc_shown, od_shown, .func (PySem.W.fnOf "shown" "shown" (defArgs s_shown) (defBody s_shown) (defScope s_shown) .none kV_shown dc_shown pm_shown an_shown cd_shown ct_shown), sl_shown⟩)
    (c_shown : PySem.W.codeIn K cd_shown "shown" = true)
    (p_shown : PySem.W.keepIn K (.ref f_shown) = true)
    (a_number_of : PySem.W.nsIn K mainGlobals "number_of" = some (some (.ref f_number_of)))
    (l_number_of : K.lookup f_number_of = some ⟨oc_number_of, od_number_of, .func (PySem.W.fnOf "number_of" "number_of" (defArgs s_number_of) (defBody s_number_of) (defScope s_number_of) .none kV_number_of dc_number_of pm_number_of an_number_of cd_number_of ct_number_of), sl_number_of⟩)
    (c_number_of : PySem.W.codeIn K cd_number_of "number_of" = true)
    (p_number_of : PySem.W.keepIn K (.ref f_number_of) = true)
    (a_read : PySem.W.nsIn K mainGlobals "read" = some (some (.ref f_read)))
    (l_read : K.lookup f_read = some ⟨oc_read, od_read, .func (PySem.W.fnOf "read" "read" (defArgs s_read) (defBody s_read) (defScope s_read) .none kV_read dc_read pm_read an_read cd_read ct_read), sl_read⟩)
    (c_read : PySem.W.codeIn K cd_read "read" = true)
    (p_read : PySem.W.keepIn K (.ref f_read) = true)
    (a_added : PySem.W.nsIn K mainGlobals "added" = some (some (.ref f_added)))
    (l_added : K.lookup f_added = some ⟨oc_added, od_added, .func (PySem.W.fnOf "added" "added" (defArgs s_added) (defBody s_added) (defScope s_added) .none kV_added dc_added pm_added an_added cd_added ct_added), sl_added⟩)
    (c_added : PySem.W.codeIn K cd_added "added" = true)
    (p_added : PySem.W.keepIn K (.ref f_added) = true)
    (a_less : PySem.W.nsIn K mainGlobals "less" = some (some (.ref f_less)))
    (l_less : K.lookup f_less = some ⟨oc_less, od_less, .func (PySem.W.fnOf "less" "less" (defArgs s_less) (defBody s_less) (defScope s_less) .none kV_less dc_less pm_less an_less cd_less ct_less), sl_less⟩)
    (c_less : PySem.W.codeIn K cd_less "less" = true)
    (p_less : PySem.W.keepIn K (.ref f_less) = true)
    (a_times : PySem.W.nsIn K mainGlobals "times" = some (some (.ref f_times)))
    (l_times : K.lookup f_times = some ⟨oc_times, od_times, .func (PySem.W.fnOf "times" "times" (defArgs s_times) (defBody s_times) (defScope s_times) .none kV_times dc_times pm_times an_times cd_times ct_times), sl_times⟩)
    (c_times : PySem.W.codeIn K cd_times "times" = true)
    (p_times : PySem.W.keepIn K (.ref f_times) = true)
    (a_parted : PySem.W.nsIn K mainGlobals "parted" = some (some (.ref f_parted)))
    (l_parted : K.lookup f_parted = some ⟨oc_parted, od_parted, .func (PySem.W.fnOf "parted" "parted" (defArgs s_parted) (defBody s_parted) (defScope s_parted) .none kV_parted dc_parted pm_parted an_parted cd_parted ct_parted), sl_parted⟩)
    (c_parted : PySem.W.codeIn K cd_parted "parted" = true)
    (p_parted : PySem.W.keepIn K (.ref f_parted) = true)
    (a_goes : PySem.W.nsIn K mainGlobals "goes" = some (some (.ref f_goes)))
    (l_goes : K.lookup f_goes = some ⟨oc_goes, od_goes, .func (PySem.W.fnOf "goes" "goes" (defArgs s_goes) (defBody s_goes) (defScope s_goes) .none kV_goes dc_goes pm_goes an_goes cd_goes ct_goes), sl_goes⟩)
    (c_goes : PySem.W.codeIn K cd_goes "goes" = true)
    (p_goes : PySem.W.keepIn K (.ref f_goes) = true)
    (a_can : PySem.W.nsIn K mainGlobals "can" = some (some (.ref f_can)))
    (l_can : K.lookup f_can = some ⟨oc_can, od_can, .func (PySem.W.fnOf "can" "can" (defArgs s_can) (defBody s_can) (defScope s_can) .none kV_can dc_can pm_can an_can cd_can ct_can), sl_can⟩)
    (c_can : PySem.W.codeIn K cd_can "can" = true)
    (p_can : PySem.W.keepIn K (.ref f_can) = true)
    (a_stepped : PySem.W.nsIn K mainGlobals "stepped" = some (some (.ref f_stepped)))
    (l_stepped : K.lookup f_stepped = some ⟨oc_stepped, od_stepped, .func (PySem.W.fnOf "stepped" "stepped" (defArgs s_stepped) (defBody s_stepped) (defScope s_stepped) .none kV_stepped dc_stepped pm_stepped an_stepped cd_stepped ct_stepped), sl_stepped⟩)
    (c_stepped : PySem.W.codeIn K cd_stepped "stepped" = true)
    (p_stepped : PySem.W.keepIn K (.ref f_stepped) = true)
    (a_raisings : PySem.W.nsIn K mainGlobals "raisings" = some (some (.ref f_raisings)))
    (l_raisings : K.lookup f_raisings = some ⟨oc_raisings, od_raisings, .func (PySem.W.fnOf "raisings" "raisings" (defArgs s_raisings) (defBody s_raisings) (defScope s_raisings) .none kV_raisings dc_raisings pm_raisings an_raisings cd_raisings ct_raisings), sl_raisings⟩)
    (c_raisings : PySem.W.codeIn K cd_raisings "raisings" = true)
    (p_raisings : PySem.W.keepIn K (.ref f_raisings) = true)
    (a_net : PySem.W.nsIn K mainGlobals "net" = some (some (.ref f_net)))
    (l_net : K.lookup f_net = some ⟨oc_net, od_net, .func (PySem.W.fnOf "net" "net" (defArgs s_net) (defBody s_net) (defScope s_net) .none kV_net dc_net pm_net an_net cd_net ct_net), sl_net⟩)
    (c_net : PySem.W.codeIn K cd_net "net" = true)
    (p_net : PySem.W.keepIn K (.ref f_net) = true)
    (a_fewest : PySem.W.nsIn K mainGlobals "fewest" = some (some (.ref f_fewest)))
    (l_fewest : K.lookup f_fewest = some ⟨oc_fewest, od_fewest, .func (PySem.W.fnOf "fewest" "fewest" (defArgs s_fewest) (defBody s_fewest) (defScope s_fewest) .none kV_fewest dc_fewest pm_fewest an_fewest cd_fewest ct_fewest), sl_fewest⟩)
    (c_fewest : PySem.W.codeIn K cd_fewest "fewest" = true)
    (p_fewest : PySem.W.keepIn K (.ref f_fewest) = true)
    (a_way : PySem.W.nsIn K mainGlobals "way" = some (some (.ref f_way)))
    (l_way : K.lookup f_way = some ⟨oc_way, od_way, .func (PySem.W.fnOf "way" "way" (defArgs s_way) (defBody s_way) (defScope s_way) .none kV_way dc_way pm_way an_way cd_way ct_way), sl_way⟩)
    (c_way : PySem.W.codeIn K cd_way "way" = true)
    (p_way : PySem.W.keepIn K (.ref f_way) = true)
    (a_law_cell_at : PySem.W.nsIn K mainGlobals "_law_cell_at" = some (some (.ref f_law_cell_at)))
    (l_law_cell_at : K.lookup f_law_cell_at = some ⟨oc_law_cell_at, od_law_cell_at, .func (PySem.W.fnOf "_law_cell_at" "_law_cell_at" (defArgs s_law_cell_at) (defBody s_law_cell_at) (defScope s_law_cell_at) .none kV_law_cell_at dc_law_cell_at pm_law_cell_at an_law_cell_at cd_law_cell_at ct_law_cell_at), sl_law_cell_at⟩)
    (c_law_cell_at : PySem.W.codeIn K cd_law_cell_at "_law_cell_at" = true)
    (p_law_cell_at : PySem.W.keepIn K (.ref f_law_cell_at) = true)
    (a_law_word_of : PySem.W.nsIn K mainGlobals "_law_word_of" = some (some (.ref f_law_word_of)))
    (l_law_word_of : K.lookup f_law_word_of = some ⟨oc_law_word_of, od_law_word_of, .func (PySem.W.fnOf "_law_word_of" "_law_word_of" (defArgs s_law_word_of) (defBody s_law_word_of) (defScope s_law_word_of) .none kV_law_word_of dc_law_word_of pm_law_word_of an_law_word_of cd_law_word_of ct_law_word_of), sl_law_word_of⟩)
    (c_law_word_of : PySem.W.codeIn K cd_law_word_of "_law_word_of" = true)
    (p_law_word_of : PySem.W.keepIn K (.ref f_law_word_of) = true)
    (a_law_first : PySem.W.nsIn K mainGlobals "_law_first" = some (some (.ref f_law_first)))
    (l_law_first : K.lookup f_law_first = some ⟨oc_law_first, od_law_first, .func (PySem.W.fnOf "_law_first" "_law_first" (defArgs s_law_first) (defBody s_law_first) (defScope s_law_first) .none kV_law_first dc_law_first pm_law_first an_law_first cd_law_first ct_law_first), sl_law_first⟩)
    (c_law_first : PySem.W.codeIn K cd_law_first "_law_first" = true)
    (p_law_first : PySem.W.keepIn K (.ref f_law_first) = true)
    (a_law_second : PySem.W.nsIn K mainGlobals "_law_second" = some (some (.ref f_law_second)))
    (l_law_second : K.lookup f_law_second = some ⟨oc_law_second, od_law_second, .func (PySem.W.fnOf "_law_second" "_law_second" (defArgs s_law_second) (defBody s_law_second) (defScope s_law_second) .none kV_law_second dc_law_second pm_law_second an_law_second cd_law_second ct_law_second), sl_law_second⟩)
    (c_law_second : PySem.W.codeIn K cd_law_second "_law_second" = true)
    (p_law_second : PySem.W.keepIn K (.ref f_law_second) = true)
    (a_law_tried : PySem.W.nsIn K mainGlobals "_law_tried" = some (some (.ref f_law_tried)))
    (l_law_tried : K.lookup f_law_tried = some ⟨oc_law_tried, od_law_tried, .func (PySem.W.fnOf "_law_tried" "_law_tried" (defArgs s_law_tried) (defBody s_law_tried) (defScope s_law_tried) .none kV_law_tried dc_law_tried pm_law_tried an_law_tried cd_law_tried ct_law_tried), sl_law_tried⟩)
    (c_law_tried : PySem.W.codeIn K cd_law_tried "_law_tried" = true)
    (p_law_tried : PySem.W.keepIn K (.ref f_law_tried) = true)
    (a_law_bad_board : PySem.W.nsIn K mainGlobals "_law_bad_board" = some (some (.ref f_law_bad_board)))
    (l_law_bad_board : K.lookup f_law_bad_board = some ⟨oc_law_bad_board, od_law_bad_board, .func (PySem.W.fnOf "_law_bad_board" "_law_bad_board" (defArgs s_law_bad_board) (defBody s_law_bad_board) (defScope s_law_bad_board) .none kV_law_bad_board dc_law_bad_board pm_law_bad_board an_law_bad_board cd_law_bad_board ct_law_bad_board), sl_law_bad_board⟩)
    (c_law_bad_board : PySem.W.codeIn K cd_law_bad_board "_law_bad_board" = true)
    (p_law_bad_board : PySem.W.keepIn K (.ref f_law_bad_board) = true)
    (a_law : PySem.W.nsIn K mainGlobals "law" = some (some (.ref f_law)))
    (l_law : K.lookup f_law = some ⟨oc_law, od_law, .func (PySem.W.fnOf "law" "law" (defArgs s_law) (defBody s_law) (defScope s_law) .none kV_law dc_law pm_law an_law cd_law ct_law), sl_law⟩)
    (c_law : PySem.W.codeIn K cd_law "law" = true)
    (p_law : PySem.W.keepIn K (.ref f_law) = true) :
    ∃ fd : FuncData, (∀ (s : Shared) (v : Value), BindsTo s fd ⟨[v], []⟩ [("script", v)]) ∧ ∀ base : Heap, K.In base → base.Ns mainGlobals mg → FnOk l.prog w K mg base (L2.CX l.prog w) 9 fa fd ["script"] (sp_law K) := by
  have e := hfa.symm.trans (PySem.W.mg_of X G a_law)
  cases e
  have B : Bi mg := ⟨PySem.W.mg_none_of X G z_len, PySem.W.mg_none_of X G z_list, PySem.W.mg_none_of X G z_range, PySem.W.mg_none_of X G z_isinstance, PySem.W.mg_none_of X G z_zip, PySem.W.mg_none_of X G z_reversed, PySem.W.mg_none_of X G z_sum, PySem.W.mg_none_of X G z_all, PySem.W.mg_none_of X G z_abs, PySem.W.mg_none_of X G z_max, PySem.W.mg_none_of X G z_min, PySem.W.mg_none_of X G z_str, PySem.W.mg_none_of X G z_int, PySem.W.mg_none_of X G z_bool, PySem.W.mg_none_of X G z_tuple, PySem.W.mg_none_of X G z_ValueError⟩
  have m_MOST : ∃ t, mg "MOST" = some (.int 11 t) := ⟨_, PySem.W.mg_of X G g_MOST⟩
  have m_FIGURES : ∃ t, mg "FIGURES" = some (.str "0123456789" t) := ⟨_, PySem.W.mg_of X G g_FIGURES⟩
  have m_MOST_STEPS : ∃ t, mg "MOST_STEPS" = some (.int 2000 t) := ⟨_, PySem.W.mg_of X G g_MOST_STEPS⟩
  have e_NoFrame : Er K mg "NoFrame" := er_mk (PySem.W.mg_of X G g_NoFrame) x_NoFrame k_NoFrame b_NoFrame t_NoFrame
  have e_NoBoard : Er K mg "NoBoard" := er_mk (PySem.W.mg_of X G g_NoBoard) x_NoBoard k_NoBoard b_NoBoard t_NoBoard
  have e_NoNumber : Er K mg "NoNumber" := er_mk (PySem.W.mg_of X G g_NoNumber) x_NoNumber k_NoNumber b_NoNumber t_NoNumber
  have e_NoStep : Er K mg "NoStep" := er_mk (PySem.W.mg_of X G g_NoStep) x_NoStep k_NoStep b_NoStep t_NoStep
  have e_NoWay : Er K mg "NoWay" := er_mk (PySem.W.mg_of X G g_NoWay) x_NoWay k_NoWay b_NoWay t_NoWay
  have e_TooLong : Er K mg "TooLong" := er_mk (PySem.W.mg_of X G g_TooLong) x_TooLong k_TooLong b_TooLong t_TooLong
  have e_NoLess : Er K mg "NoLess" := er_mk (PySem.W.mg_of X G g_NoLess) x_NoLess k_NoLess b_NoLess t_NoLess
  have e_NoNote : Er K mg "NoNote" := er_mk (PySem.W.mg_of X G g_NoNote) x_NoNote k_NoNote b_NoNote t_NoNote
  have e_BoardError : mg "BoardError" = some (.ref (ErA mg "BoardError")) := er_g (PySem.W.mg_of X G g_BoardError)
  have w_NoFrame : Wd K mg (ErA mg "NoFrame") 0 := wd_mk (PySem.W.mg_of X G g_NoFrame) ⟨xg_NoFrame, xk_NoFrame, b_NoFrame, xd_NoFrame, xa_NoFrame, xn_all, xt_all, xm_NoFrame⟩ (PySem.W.mg_of X G g_NoFrame) (PySem.W.mg_of X G g_NoBoard) (PySem.W.mg_of X G g_NoNumber) (PySem.W.mg_of X G g_NoStep) (PySem.W.mg_of X G g_NoWay) (PySem.W.mg_of X G g_TooLong) (PySem.W.mg_of X G g_NoLess) (PySem.W.mg_of X G g_NoNote) (PySem.W.mg_of X G g_BoardError) q0_NoFrame q1_NoFrame q2_NoFrame q3_NoFrame q4_NoFrame q5_NoFrame q6_NoFrame q7_NoFrame qv_NoFrame qb_NoFrame
  have w_NoBoard : Wd K mg (ErA mg "NoBoard") 1 := wd_mk (PySem.W.mg_of X G g_NoBoard) ⟨xg_NoBoard, xk_NoBoard, b_NoBoard, xd_NoBoard, xa_NoBoard, xn_all, xt_all, xm_NoBoard⟩ (PySem.W.mg_of X G g_NoFrame) (PySem.W.mg_of X G g_NoBoard) (PySem.W.mg_of X G g_NoNumber) (PySem.W.mg_of X G g_NoStep) (PySem.W.mg_of X G g_NoWay) (PySem.W.mg_of X G g_TooLong) (PySem.W.mg_of X G g_NoLess) (PySem.W.mg_of X G g_NoNote) (PySem.W.mg_of X G g_BoardError) q0_NoBoard q1_NoBoard q2_NoBoard q3_NoBoard q4_NoBoard q5_NoBoard q6_NoBoard q7_NoBoard qv_NoBoard qb_NoBoard
  have w_NoNumber : Wd K mg (ErA mg "NoNumber") 2 := wd_mk (PySem.W.mg_of X G g_NoNumber) ⟨xg_NoNumber, xk_NoNumber, b_NoNumber, xd_NoNumber, xa_NoNumber, xn_all, xt_all, xm_NoNumber⟩ (PySem.W.mg_of X G g_NoFrame) (PySem.W.mg_of X G g_NoBoard) (PySem.W.mg_of X G g_NoNumber) (PySem.W.mg_of X G g_NoStep) (PySem.W.mg_of X G g_NoWay) (PySem.W.mg_of X G g_TooLong) (PySem.W.mg_of X G g_NoLess) (PySem.W.mg_of X G g_NoNote) (PySem.W.mg_of X G g_BoardError) q0_NoNumber q1_NoNumber q2_NoNumber q3_NoNumber q4_NoNumber q5_NoNumber q6_NoNumber q7_NoNumber qv_NoNumber qb_NoNumber
  have w_NoNote : Wd K mg (ErA mg "NoNote") 7 := wd_mk (PySem.W.mg_of X G g_NoNote) ⟨xg_NoNote, xk_NoNote, b_NoNote, xd_NoNote, xa_NoNote, xn_all, xt_all, xm_NoNote⟩ (PySem.W.mg_of X G g_NoFrame) (PySem.W.mg_of X G g_NoBoard) (PySem.W.mg_of X G g_NoNumber) (PySem.W.mg_of X G g_NoStep) (PySem.W.mg_of X G g_NoWay) (PySem.W.mg_of X G g_TooLong) (PySem.W.mg_of X G g_NoLess) (PySem.W.mg_of X G g_NoNote) (PySem.W.mg_of X G g_BoardError) q0_NoNote q1_NoNote q2_NoNote q3_NoNote q4_NoNote q5_NoNote q6_NoNote q7_NoNote qv_NoNote qb_NoNote
  have F_asked_frame := fun_mk (st := s_asked_frame) l_asked_frame c_asked_frame p_asked_frame
  have b_asked_frame := F_asked_frame.binds (ps := ["ratios"]) fun _ _ _ _ _ _ us hl => match us, hl with | [_], _ => rfl
  have F_asked_board := fun_mk (st := s_asked_board) l_asked_board c_asked_board p_asked_board
  have b_asked_board := F_asked_board.binds (ps := ["ratios", "board"]) fun _ _ _ _ _ _ us hl => match us, hl with | [_, _], _ => rfl
  have F_worths := fun_mk (st := s_worths) l_worths c_worths p_worths
  have b_worths := F_worths.binds (ps := ["ratios"]) fun _ _ _ _ _ _ us hl => match us, hl with | [_], _ => rfl
  have F_worth := fun_mk (st := s_worth) l_worth c_worth p_worth
  have b_worth := F_worth.binds (ps := ["ratios", "board"]) fun _ _ _ _ _ _ us hl => match us, hl with | [_, _], _ => rfl
  have F_is_plain := fun_mk (st := s_is_plain) l_is_plain c_is_plain p_is_plain
  have b_is_plain := F_is_plain.binds (ps := ["ratios", "board"]) fun _ _ _ _ _ _ us hl => match us, hl with | [_, _], _ => rfl
  have F_board_of := fun_mk (st := s_board_of) l_board_of c_board_of p_board_of
  have b_board_of := F_board_of.binds (ps := ["ratios", "number"]) fun _ _ _ _ _ _ us hl => match us, hl with | [_, _], _ => rfl
  have F_plain := fun_mk (st := s_plain) l_plain c_plain p_plain
  have b_plain := F_plain.binds (ps := ["ratios", "board"]) fun _ _ _ _ _ _ us hl => match us, hl with | [_, _], _ => rfl
  have F_shown := fun_mk (st := s_shown) l_shown c_shown p_shown
  have b_shown := F_shown.binds (ps := ["ratios", "board"]) fun _ _ _ _ _ _ us hl => match us, hl with | [_, _], _ => rfl
  have F_number_of := fun_mk (st := s_number_of) l_number_of c_number_of p_number_of
  have b_number_of := F_number_of.binds (ps := ["figures"]) fun _ _ _ _ _ _ us hl => match us, hl with | [_], _ => rfl
  have F_read := fun_mk (st := s_read) l_read c_read p_read
  have b_read := F_read.binds (ps := ["ratios", "text"]) fun _ _ _ _ _ _ us hl => match us, hl with | [_, _], _ => rfl
  have F_added := fun_mk (st := s_added) l_added c_added p_added
  have b_added := F_added.binds (ps := ["ratios", "one", "other"]) fun _ _ _ _ _ _ us hl => match us, hl with | [_, _, _], _ => rfl
  have F_less := fun_mk (st := s_less) l_less c_less p_less
  have b_less := F_less.binds (ps := ["ratios", "one", "other"]) fun _ _ _ _ _ _ us hl => match us, hl with | [_, _, _], _ => rfl
  have F_times := fun_mk (st := s_times) l_times c_times p_times
  have b_times := F_times.binds (ps := ["ratios", "board", "number"]) fun _ _ _ _ _ _ us hl => match us, hl with | [_, _, _], _ => rfl
  have F_parted := fun_mk (st := s_parted) l_parted c_parted p_parted
  have b_parted := F_parted.binds (ps := ["ratios", "board", "number"]) fun _ _ _ _ _ _ us hl => match us, hl with | [_, _, _], _ => rfl
  have F_goes := fun_mk (st := s_goes) l_goes c_goes p_goes
  have b_goes := F_goes.binds (ps := ["ratios", "board", "line", "up"]) fun _ _ _ _ _ _ us hl => match us, hl with | [_, _, _, _], _ => rfl
  have F_can := fun_mk (st := s_can) l_can c_can p_can
  have b_can := F_can.binds (ps := ["ratios", "board"]) fun _ _ _ _ _ _ us hl => match us, hl with | [_, _], _ => rfl
  have F_stepped := fun_mk (st := s_stepped) l_stepped c_stepped p_stepped
  have b_stepped := F_stepped.binds (ps := ["ratios", "board", "line", "up"]) fun _ _ _ _ _ _ us hl => match us, hl with | [_, _, _, _], _ => rfl
  have F_raisings := fun_mk (st := s_raisings) l_raisings c_raisings p_raisings
  have b_raisings := F_raisings.binds (ps := ["ratios", "board"]) fun _ _ _ _ _ _ us hl => match us, hl with | [_, _], _ => rfl
  have F_net := fun_mk (st := s_net) l_net c_net p_net
  have b_net := F_net.binds (ps := ["ratios", "one", "other"]) fun _ _ _ _ _ _ us hl => match us, hl with | [_, _, _], _ => rfl
  have F_fewest := fun_mk (st := s_fewest) l_fewest c_fewest p_fewest
  have b_fewest := F_fewest.binds (ps := ["ratios", "one", "other"]) fun _ _ _ _ _ _ us hl => match us, hl with | [_, _, _], _ => rfl
  have F_way := fun_mk (st := s_way) l_way c_way p_way
  have b_way := F_way.binds (ps := ["ratios", "one", "other"]) fun _ _ _ _ _ _ us hl => match us, hl with | [_, _, _], _ => rfl
  have F_law_cell_at := fun_mk (st := s_law_cell_at) l_law_cell_at c_law_cell_at p_law_cell_at
  have b_law_cell_at := F_law_cell_at.binds (ps := ["script", "k"]) fun _ _ _ _ _ _ us hl => match us, hl with | [_, _], _ => rfl
  have F_law_word_of := fun_mk (st := s_law_word_of) l_law_word_of c_law_word_of p_law_word_of
  have b_law_word_of := F_law_word_of.binds (ps := ["e"]) fun _ _ _ _ _ _ us hl => match us, hl with | [_], _ => rfl
  have F_law_first := fun_mk (st := s_law_first) l_law_first c_law_first p_law_first
  have b_law_first := F_law_first.binds (ps := ["which", "ratios", "board"]) fun _ _ _ _ _ _ us hl => match us, hl with | [_, _, _], _ => rfl
  have F_law_second := fun_mk (st := s_law_second) l_law_second c_law_second p_law_second
  have b_law_second := F_law_second.binds (ps := ["which", "ratios", "one", "other"]) fun _ _ _ _ _ _ us hl => match us, hl with | [_, _, _, _], _ => rfl
  have F_law_tried := fun_mk (st := s_law_tried) l_law_tried c_law_tried p_law_tried
  have b_law_tried := F_law_tried.binds (ps := ["which", "ratios", "one", "other"]) fun _ _ _ _ _ _ us hl => match us, hl with | [_, _, _, _], _ => rfl
  have F_law_bad_board := fun_mk (st := s_law_bad_board) l_law_bad_board c_law_bad_board p_law_bad_board
  have b_law_bad_board := F_law_bad_board.binds (ps := ["board", "kind", "at", "far"]) fun _ _ _ _ _ _ us hl => match us, hl with | [_, _, _, _], _ => rfl
  have F_law := fun_mk (st := s_law) l_law c_law p_law
  refine ⟨PySem.W.fnOf "law" "law" (defArgs s_law) (defBody s_law) (defScope s_law) .none kV_law dc_law pm_law an_law cd_law ct_law, fun s v => .of_eq rfl, fun base _ _ => ?_⟩
  have c_asked_frame : Callee l.prog w K mg base 1 "asked_frame" ["ratios"] (sp_asked_frame K mg) := Callee.mk' (ok_asked_frame F_asked_frame B (m_MOST := m_MOST) (e_NoFrame := e_NoFrame)) (PySem.W.mg_of X G a_asked_frame) p_asked_frame b_asked_frame
  have c_asked_board : Callee l.prog w K mg base 2 "asked_board" ["ratios", "board"] (sp_asked_board K mg) := Callee.mk' (ok_asked_board F_asked_board B (e_NoBoard := e_NoBoard) (c_asked_frame := c_asked_frame)) (PySem.W.mg_of X G a_asked_board) p_asked_board b_asked_board
  have c_worths : Callee l.prog w K mg base 2 "worths" ["ratios"] (sp_worths K mg) := Callee.mk' (ok_worths F_worths B (c_asked_frame := c_asked_frame)) (PySem.W.mg_of X G a_worths) p_worths b_worths
  have c_worth : Callee l.prog w K mg base 3 "worth" ["ratios", "board"] (sp_worth K mg) := Callee.mk' (ok_worth F_worth B (c_asked_board := c_asked_board) (c_worths := c_worths)) (PySem.W.mg_of X G a_worth) p_worth b_worth
  have c_is_plain : Callee l.prog w K mg base 3 "is_plain" ["ratios", "board"] (sp_is_plain K mg) := Callee.mk' (ok_is_plain F_is_plain B (c_asked_board := c_asked_board)) (PySem.W.mg_of X G a_is_plain) p_is_plain b_is_plain
  have c_board_of : Callee l.prog w K mg base 2 "board_of" ["ratios", "number"] (sp_board_of K mg) := Callee.mk' (ok_board_of F_board_of B (e_NoNumber := e_NoNumber) (c_asked_frame := c_asked_frame)) (PySem.W.mg_of X G a_board_of) p_board_of b_board_of
  have c_plain : Callee l.prog w K mg base 4 "plain" ["ratios", "board"] (sp_plain K mg) := Callee.mk' (ok_plain F_plain B (c_board_of := c_board_of) (c_worth := c_worth)) (PySem.W.mg_of X G a_plain) p_plain b_plain
  have c_shown : Callee l.prog w K mg base 3 "shown" ["ratios", "board"] (sp_shown K mg) := Callee.mk' (ok_shown F_shown B (c_asked_board := c_asked_board)) (PySem.W.mg_of X G a_shown) p_shown b_shown
  have c_number_of : Callee l.prog w K mg base 1 "number_of" ["figures"] (sp_number_of K mg) := Callee.mk' (ok_number_of F_number_of B (m_FIGURES := m_FIGURES) (e_NoNote := e_NoNote)) (PySem.W.mg_of X G a_number_of) p_number_of b_number_of
  have c_read : Callee l.prog w K mg base 2 "read" ["ratios", "text"] (sp_read K mg) := Callee.mk' (ok_read F_read B (e_NoNote := e_NoNote) (c_asked_frame := c_asked_frame) (c_number_of := c_number_of)) (PySem.W.mg_of X G a_read) p_read b_read
  have c_added : Callee l.prog w K mg base 4 "added" ["ratios", "one", "other"] (sp_added K mg) := Callee.mk' (ok_added F_added B (c_worth := c_worth) (c_board_of := c_board_of)) (PySem.W.mg_of X G a_added) p_added b_added
  have c_less : Callee l.prog w K mg base 4 "less" ["ratios", "one", "other"] (sp_less K mg) := Callee.mk' (ok_less F_less B (e_NoLess := e_NoLess) (c_board_of := c_board_of) (c_worth := c_worth)) (PySem.W.mg_of X G a_less) p_less b_less
  have c_times : Callee l.prog w K mg base 4 "times" ["ratios", "board", "number"] (sp_times K mg) := Callee.mk' (ok_times F_times B (e_NoNumber := e_NoNumber) (c_asked_board := c_asked_board) (c_board_of := c_board_of) (c_worth := c_worth)) (PySem.W.mg_of X G a_times) p_times b_times
  have c_parted : Callee l.prog w K mg base 4 "parted" ["ratios", "board", "number"] (sp_parted K mg) := Callee.mk' (ok_parted F_parted B (e_NoNumber := e_NoNumber) (c_asked_board := c_asked_board) (c_worth := c_worth) (c_board_of := c_board_of)) (PySem.W.mg_of X G a_parted) p_parted b_parted
  have c_goes : Callee l.prog w K mg base 1 "goes" ["ratios", "board", "line", "up"] (sp_goes K mg) := Callee.mk' (ok_goes F_goes B) (PySem.W.mg_of X G a_goes) p_goes b_goes
  have c_can : Callee l.prog w K mg base 3 "can" ["ratios", "board"] (sp_can K mg) := Callee.mk' (ok_can F_can B (c_asked_board := c_asked_board) (c_goes := c_goes)) (PySem.W.mg_of X G a_can) p_can b_can
  have c_stepped : Callee l.prog w K mg base 3 "stepped" ["ratios", "board", "line", "up"] (sp_stepped K mg) := Callee.mk' (ok_stepped F_stepped B (e_NoStep := e_NoStep) (c_asked_board := c_asked_board) (c_goes := c_goes)) (PySem.W.mg_of X G a_stepped) p_stepped b_stepped
  have c_raisings : Callee l.prog w K mg base 3 "raisings" ["ratios", "board"] (sp_raisings K mg) := Callee.mk' (ok_raisings F_raisings B (c_asked_board := c_asked_board)) (PySem.W.mg_of X G a_raisings) p_raisings b_raisings
  have c_net : Callee l.prog w K mg base 4 "net" ["ratios", "one", "other"] (sp_net K mg) := Callee.mk' (ok_net F_net B (e_NoWay := e_NoWay) (c_worth := c_worth) (c_raisings := c_raisings)) (PySem.W.mg_of X G a_net) p_net b_net
  have c_fewest : Callee l.prog w K mg base 5 "fewest" ["ratios", "one", "other"] (sp_fewest K mg) := Callee.mk' (ok_fewest F_fewest B (c_net := c_net)) (PySem.W.mg_of X G a_fewest) p_fewest b_fewest
  have c_way : Callee l.prog w K mg base 6 "way" ["ratios", "one", "other"] (sp_way K mg) := Callee.mk' (ok_way F_way B (m_MOST_STEPS := m_MOST_STEPS) (e_TooLong := e_TooLong) (c_net := c_net) (c_fewest := c_fewest)) (PySem.W.mg_of X G a_way) p_way b_way
  have c_law_cell_at : Callee l.prog w K mg base 1 "_law_cell_at" ["script", "k"] (sp_law_cell_at K mg) := Callee.mk' (ok_law_cell_at F_law_cell_at B) (PySem.W.mg_of X G a_law_cell_at) p_law_cell_at b_law_cell_at
  have c_law_word_of : CalleeE l.prog w K mg base 1 "_law_word_of" ["e"] (sp_law_word_of K mg) := CalleeE.mk' (ok_law_word_of F_law_word_of B (e_NoFrame := e_NoFrame) (e_NoBoard := e_NoBoard) (e_NoNumber := e_NoNumber) (e_NoStep := e_NoStep) (e_NoWay := e_NoWay) (e_TooLong := e_TooLong) (e_NoLess := e_NoLess) (e_NoNote := e_NoNote)) (PySem.W.mg_of X G a_law_word_of) p_law_word_of b_law_word_of
  have c_law_first : Callee l.prog w K mg base 5 "_law_first" ["which", "ratios", "board"] (sp_law_first K mg) := Callee.mk' (ok_law_first F_law_first B (c_worths := c_worths) (c_board_of := c_board_of) (c_read := c_read) (c_worth := c_worth) (c_is_plain := c_is_plain) (c_plain := c_plain) (c_can := c_can) (c_raisings := c_raisings) (c_shown := c_shown) (c_times := c_times) (c_parted := c_parted) (c_stepped := c_stepped)) (PySem.W.mg_of X G a_law_first) p_law_first b_law_first
  have c_law_second : Callee l.prog w K mg base 7 "_law_second" ["which", "ratios", "one", "other"] (sp_law_second K mg) := Callee.mk' (ok_law_second F_law_second B (c_added := c_added) (c_less := c_less) (c_net := c_net) (c_fewest := c_fewest) (c_way := c_way)) (PySem.W.mg_of X G a_law_second) p_law_second b_law_second
  have c_law_tried : Callee l.prog w K mg base 8 "_law_tried" ["which", "ratios", "one", "other"] (sp_law_tried K mg) := Callee.mk' (ok_law_tried F_law_tried B (e_BoardError := e_BoardError) (w_NoFrame := w_NoFrame) (w_NoBoard := w_NoBoard) (w_NoNumber := w_NoNumber) (w_NoNote := w_NoNote) (c_law_first := c_law_first) (c_law_second := c_law_second) (c_law_word_of := c_law_word_of)) (PySem.W.mg_of X G a_law_tried) p_law_tried b_law_tried
  have c_law_bad_board : Callee l.prog w K mg base 1 "_law_bad_board" ["board", "kind", "at", "far"] (sp_law_bad_board K mg) := Callee.mk' (ok_law_bad_board F_law_bad_board B) (PySem.W.mg_of X G a_law_bad_board) p_law_bad_board b_law_bad_board
  exact ok_law F_law B (c_law_bad_board := c_law_bad_board) (c_law_cell_at := c_law_cell_at) (c_law_tried := c_law_tried)
end CB
open PySem PySem.W PyProof.Rows
set_option maxRecDepth 100000 in
set_option maxHeartbeats 0 in
theorem PySem.Challenge.cw_countboard_k14_refused_frames_holds : PySem.Challenge.rw_countboard_k14_refused_frames.Holds := by
  w_on; o_law; k_head; (case hw => w_witness2)
  k_fill
  refine L2.walk_of (l := PySem.Challenge.rw_countboard_k14_refused_frames) (n := 63) (k := 9) (x := "script") (CX := fun w => L2.CX PySem.Challenge.rw_countboard_k14_refused_frames.prog w) (sp := fun w => CB.sp_law _) rfl (by decide) rfl ⟨rfl, by decide, by decide⟩ (fun w h Y => PySem.W.kIn_of Y) ?F (fun _ _ a ns hl _ hS => ⟨a, ns, rfl, hS, hl, fun _ => rfl⟩) (CB.no_err _)
  case F =>
    intro w mg fa h KX G hmg
    refine' CB.all_mk KX G hmg ?z_len ?z_list ?z_range ?z_isinstance ?z_zip ?z_reversed ?z_sum ?z_all ?z_abs ?z_max ?z_min ?z_str ?z_int ?z_bool ?z_tuple ?z_ValueError ?g_MOST ?g_FIGURES ?g_MOST_STEPS ?g_NoFrame ?x_NoFrame ?k_NoFrame ?b_NoFrame ?t_NoFrame ?g_NoBoard ?x_NoBoard ?k_NoBoard ?b_NoBoard ?t_NoBoard ?g_NoNumber ?x_NoNumber ?k_NoNumber ?b_NoNumber ?t_NoNumber ?g_NoStep ?x_NoStep ?k_NoStep ?b_NoStep ?t_NoStep ?g_NoWay ?x_NoWay ?k_NoWay ?b_NoWay ?t_NoWay ?g_TooLong ?x_TooLong ?k_TooLong ?b_TooLong ?t_TooLong ?g_NoLess ?x_NoLess ?k_NoLess ?b_NoLess ?t_NoLess ?g_NoNote ?x_NoNote ?k_NoNote ?b_NoNote ?t_NoNote ?g_BoardError ?xn_all ?xt_all ?xg_NoFrame ?xk_NoFrame ?xd_NoFrame ?xa_NoFrame ?xm_NoFrame ?q0_NoFrame ?q1_NoFrame ?q2_NoFrame ?q3_NoFrame ?q4_NoFrame ?q5_NoFrame ?q6_NoFrame ?q7_NoFrame ?qv_NoFrame ?qb_NoFrame ?xg_NoBoard ?xk_NoBoard ?xd_NoBoard ?xa_NoBoard ?xm_NoBoard ?q0_NoBoard ?q1_NoBoard ?q2_NoBoard ?q3_NoBoard ?q4_NoBoard ?q5_NoBoard ?q6_NoBoard ?q7_NoBoard ?qv_NoBoard ?qb_NoBoard ?xg_NoNumber ?xk_NoNumber ?xd_NoNumber ?xa_NoNumber ?xm_NoNumber ?q0_NoNumber ?q1_NoNumber ?q2_NoNumber ?q3_NoNumber ?q4_NoNumber ?q5_NoNumber ?q6_NoNumber ?q7_NoNumber ?qv_NoNumber ?qb_NoNumber ?xg_NoNote ?xk_NoNote ?xd_NoNote ?xa_NoNote ?xm_NoNote ?q0_NoNote ?q1_NoNote ?q2_NoNote ?q3_NoNote ?q4_NoNote ?q5_NoNote ?q6_NoNote ?q7_NoNote ?qv_NoNote ?qb_NoNote ?a_asked_frame ?l_asked_frame ?c_asked_frame ?p_asked_frame ?a_asked_board ?l_asked_board ?c_asked_board ?p_asked_board ?a_worths ?l_worths ?c_worths ?p_worths ?a_worth ?l_worth ?c_worth ?p_worth ?a_is_plain ?l_is_plain ?c_is_plain ?p_is_plain ?a_board_of ?l_board_of ?c_board_of ?p_board_of ?a_plain ?l_plain ?c_plain ?p_plain ?a_shown ?l_shown ?c_shown ?p_shown ?a_number_of ?l_number_of ?c_number_of ?p_number_of ?a_read ?l_read ?c_read ?p_read ?a_added ?l_added ?c_added ?p_added ?a_less ?l_less ?c_less ?p_less ?a_times ?l_times ?c_times ?p_times ?a_parted ?l_parted ?c_parted ?p_parted ?a_goes ?l_goes ?c_goes ?p_goes ?a_can ?l_can ?c_can ?p_can ?a_stepped ?l_stepped ?c_stepped ?p_stepped ?a_raisings ?l_raisings ?c_raisings ?p_raisings ?a_net ?l_net ?c_net ?p_net ?a_fewest ?l_fewest ?c_fewest ?p_fewest ?a_way ?l_way ?c_way ?p_way ?a_law_cell_at ?l_law_cell_at ?c_law_cell_at ?p_law_cell_at ?a_law_word_of ?l_law_word_of ?c_law_word_of ?p_law_word_of ?a_law_first ?l_law_first ?c_law_first ?p_law_first ?a_law_second ?l_law_second ?c_law_second ?p_law_second ?a_law_tried ?l_law_tried ?c_law_tried ?p_law_tried ?a_law_bad_board ?l_law_bad_board ?c_law_bad_board ?p_law_bad_board ?a_law ?l_law ?c_law ?p_law
    (case z_len => k_is)
    (case z_list => k_is)
    (case z_range => k_is)
    (case z_isinstance => k_is)
    (case z_zip => k_is)
    (case z_reversed => k_is)
    (case z_sum => k_is)
    (case z_all => k_is)
    (case z_abs => k_is)
    (case z_max => k_is)
    (case z_min => k_is)
    (case z_str => k_is)
    (case z_int => k_is)
    (case z_bool => k_is)
    (case z_tuple => k_is)
    (case z_ValueError => k_is)
    (case g_MOST => k_is)
    (case g_FIGURES => k_is)
    (case g_MOST_STEPS => k_is)
    (case g_NoFrame => k_is)
    (case x_NoFrame => k_exc)
    (case k_NoFrame => k_is)
    (case b_NoFrame => k_is)
    (case t_NoFrame => k_is)
    (case g_NoBoard => k_is)
    (case x_NoBoard => k_exc)
    (case k_NoBoard => k_is)
    (case b_NoBoard => k_is)
    (case t_NoBoard => k_is)
    (case g_NoNumber => k_is)
    (case x_NoNumber => k_exc)
    (case k_NoNumber => k_is)
    (case b_NoNumber => k_is)
    (case t_NoNumber => k_is)
    (case g_NoStep => k_is)
    (case x_NoStep => k_exc)
    (case k_NoStep => k_is)
    (case b_NoStep => k_is)
    (case t_NoStep => k_is)
    (case g_NoWay => k_is)
    (case x_NoWay => k_exc)
    (case k_NoWay => k_is)
    (case b_NoWay => k_is)
    (case t_NoWay => k_is)
    (case g_TooLong => k_is)
    (case x_TooLong => k_exc)
    (case k_TooLong => k_is)
    (case b_TooLong => k_is)
    (case t_TooLong => k_is)
    (case g_NoLess => k_is)
    (case x_NoLess => k_exc)
    (case k_NoLess => k_is)
    (case b_NoLess => k_is)
    (case t_NoLess => k_is)
    (case g_NoNote => k_is)
    (case x_NoNote => k_exc)
    (case k_NoNote => k_is)
    (case b_NoNote => k_is)
    (case t_NoNote => k_is)
    (case g_BoardError => k_is)
    (case xn_all => k_is)
    (case xt_all => k_is)
    (case xg_NoFrame => k_is)
    (case xk_NoFrame => k_is)
    (case xd_NoFrame => k_is)
    (case xa_NoFrame => k_is)
    (case xm_NoFrame => k_is)
    (case q0_NoFrame => kit_is)
    (case q1_NoFrame => kit_is)
    (case q2_NoFrame => kit_is)
    (case q3_NoFrame => kit_is)
    (case q4_NoFrame => kit_is)
    (case q5_NoFrame => kit_is)
    (case q6_NoFrame => kit_is)
    (case q7_NoFrame => kit_is)
    (case qv_NoFrame => kit_is)
    (case qb_NoFrame => kts_exm)
    (case xg_NoBoard => k_is)
    (case xk_NoBoard => k_is)
    (case xd_NoBoard => k_is)
    (case xa_NoBoard => k_is)
    (case xm_NoBoard => k_is)
    (case q0_NoBoard => kit_is)
    (case q1_NoBoard => kit_is)
    (case q2_NoBoard => kit_is)
    (case q3_NoBoard => kit_is)
    (case q4_NoBoard => kit_is)
    (case q5_NoBoard => kit_is)
    (case q6_NoBoard => kit_is)
    (case q7_NoBoard => kit_is)
    (case qv_NoBoard => kit_is)
    (case qb_NoBoard => kts_exm)
    (case xg_NoNumber => k_is)
    (case xk_NoNumber => k_is)
    (case xd_NoNumber => k_is)
    (case xa_NoNumber => k_is)
    (case xm_NoNumber => k_is)
    (case q0_NoNumber => kit_is)
    (case q1_NoNumber => kit_is)
    (case q2_NoNumber => kit_is)
    (case q3_NoNumber => kit_is)
    (case q4_NoNumber => kit_is)
    (case q5_NoNumber => kit_is)
    (case q6_NoNumber => kit_is)
    (case q7_NoNumber => kit_is)
    (case qv_NoNumber => kit_is)
    (case qb_NoNumber => kts_exm)
    (case xg_NoNote => k_is)
    (case xk_NoNote => k_is)
    (case xd_NoNote => k_is)
    (case xa_NoNote => k_is)
    (case xm_NoNote => k_is)
    (case q0_NoNote => kit_is)
    (case q1_NoNote => kit_is)
    (case q2_NoNote => kit_is)
    (case q3_NoNote => kit_is)
    (case q4_NoNote => kit_is)
    (case q5_NoNote => kit_is)
    (case q6_NoNote => kit_is)
    (case q7_NoNote => kit_is)
    (case qv_NoNote => kit_is)
    (case qb_NoNote => kts_exm)
    (case a_asked_frame => k_is)
    (case l_asked_frame => k_is)
    (case c_asked_frame => k_is)
    (case p_asked_frame => k_is)
    (case a_asked_board => k_is)
    (case l_asked_board => k_is)
    (case c_asked_board => k_is)
    (case p_asked_board => k_is)
    (case a_worths => k_is)
    (case l_worths => k_is)
    (case c_worths => k_is)
    (case p_worths => k_is)
    (case a_worth => k_is)
    (case l_worth => k_is)
    (case c_worth => k_is)
    (case p_worth => k_is)
    (case a_is_plain => k_is)
    (case l_is_plain => k_is)
    (case c_is_plain => k_is)
    (case p_is_plain => k_is)
    (case a_board_of => k_is)
    (case l_board_of => k_is)
    (case c_board_of => k_is)
    (case p_board_of => k_is)
    (case a_plain => k_is)
    (case l_plain => k_is)
    (case c_plain => k_is)
    (case p_plain => k_is)
    (case a_shown => k_is)
    (case l_shown => k_is)
    (case c_shown => k_is)
    (case p_shown => k_is)
    (case a_number_of => k_is)
    (case l_number_of => k_is)
    (case c_number_of => k_is)
    (case p_number_of => k_is)
    (case a_read => k_is)
    (case l_read => k_is)
    (case c_read => k_is)
    (case p_read => k_is)
    (case a_added => k_is)
    (case l_added => k_is)
    (case c_added => k_is)
    (case p_added => k_is)
    (case a_less => k_is)
    (case l_less => k_is)
    (case c_less => k_is)
    (case p_less => k_is)
    (case a_times => k_is)
    (case l_times => k_is)
    (case c_times => k_is)
    (case p_times => k_is)
    (case a_parted => k_is)
    (case l_parted => k_is)
    (case c_parted => k_is)
    (case p_parted => k_is)
    (case a_goes => k_is)
    (case l_goes => k_is)
    (case c_goes => k_is)
    (case p_goes => k_is)
    (case a_can => k_is)
    (case l_can => k_is)
    (case c_can => k_is)
    (case p_can => k_is)
    (case a_stepped => k_is)
    (case l_stepped => k_is)
    (case c_stepped => k_is)
    (case p_stepped => k_is)
    (case a_raisings => k_is)
    (case l_raisings => k_is)
    (case c_raisings => k_is)
    (case p_raisings => k_is)
    (case a_net => k_is)
    (case l_net => k_is)
    (case c_net => k_is)
    (case p_net => k_is)
    (case a_fewest => k_is)
    (case l_fewest => k_is)
    (case c_fewest => k_is)
    (case p_fewest => k_is)
    (case a_way => k_is)
    (case l_way => k_is)
    (case c_way => k_is)
    (case p_way => k_is)
    (case a_law_cell_at => k_is)
    (case l_law_cell_at => k_is)
    (case c_law_cell_at => k_is)
    (case p_law_cell_at => k_is)
    (case a_law_word_of => k_is)
    (case l_law_word_of => k_is)
    (case c_law_word_of => k_is)
    (case p_law_word_of => k_is)
    (case a_law_first => k_is)
    (case l_law_first => k_is)
    (case c_law_first => k_is)
    (case p_law_first => k_is)
    (case a_law_second => k_is)
    (case l_law_second => k_is)
    (case c_law_second => k_is)
    (case p_law_second => k_is)
    (case a_law_tried => k_is)
    (case l_law_tried => k_is)
    (case c_law_tried => k_is)
    (case p_law_tried => k_is)
    (case a_law_bad_board => k_is)
    (case l_law_bad_board => k_is)
    (case c_law_bad_board => k_is)
    (case p_law_bad_board => k_is)
    (case a_law => k_is)
    (case l_law => k_is)
    (case c_law => k_is)
    (case p_law => k_is)
