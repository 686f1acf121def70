import PyProof.Rows.All
import Wide.All
import OpenK.AllK
import Wide.FinOn
import HandS.ForMost
import HandS.ForExc
import HandS.Wide
import HandS.IsInst
import HandS.RevRange
import HandS.Zip
import HandS.Deep
import HandS.Conv
import HandS.Rev
import PySem.Challenge.RW_countboard_k11_whole_none_shorter
set_option Elab.async false
set_option linter.all false
set_option maxRecDepth 100000
set_option maxHeartbeats 4000000
namespace CB
open PySem
def top (i : Nat) : Stmt := PySem.Challenge.pw_countboard_k11_whole_none_shorter.main.body.getD i (.Pass ⟨0, 0, 0, 0⟩)
end CB
namespace CB
open PySem PySem.Spec PyProof.Rows L2
/-! ### a def that stands at its name and keeps its promise; the built-in names; the classes of errors -/
structure Callee (P : Program) (w : World) (K : PySem.W.Frag) (mg : Str → Option Value) (base : Heap) (k : Nat) (x : Str) (ps : List Str) (sp : Sp) : Prop where
  ex : ∃ (f : Addr) (fd : FuncData), FnOk P w K mg base (L2.CX P w) k f fd ps sp ∧ mg x = some (.ref f) ∧ PySem.W.keepIn K (.ref f) = true ∧ Binds K fd ps []
def ErA (mg : Str → Option Value) (x : Str) : Addr := match mg x with
  | some (.ref a) => a
  | _ => 0
structure Er (K : PySem.W.Frag) (mg : Str → Option Value) (x : Str) : Prop where
  gC : mg x = some (.ref (ErA mg x))
  xP : PySem.W.excIn K (ErA mg x) [.type "ValueError", .type "Exception", .type "BaseException", .type "object"] "ValueError.__new__" = true
  kP : PySem.W.keepIn K (.ref (ErA mg x)) = true
  bP : PySem.W.subIn K (.ref (ErA mg x)) (.type "BaseException") = some true
  tP : PySem.W.typeIn K (.ref (ErA mg x)) = some (.type "type")
theorem er_mk {K : PySem.W.Frag} {mg : Str → Option Value} {x : Str} {C : Addr} (g : mg x = some (.ref C)) (x1 : PySem.W.excIn K C [.type "ValueError", .type "Exception", .type "BaseException", .type "object"] "ValueError.__new__" = true)
    (k : PySem.W.keepIn K (.ref C) = true) (b : PySem.W.subIn K (.ref C) (.type "BaseException") = some true) (t : PySem.W.typeIn K (.ref C) = some (.type "type")) : Er K mg x := by
  have e : ErA mg x = C := by unfold ErA; rw [g]
  exact ⟨by rw [e]; exact g, by rw [e]; exact x1, by rw [e]; exact k, by rw [e]; exact b, by rw [e]; exact t⟩
structure Bi (mg : Str → Option Value) : Prop where
  len : mg "len" = none
  list : mg "list" = none
  range : mg "range" = none
  isinstance : mg "isinstance" = none
  zip : mg "zip" = none
  reversed : mg "reversed" = none
  sum : mg "sum" = none
  all : mg "all" = none
  abs : mg "abs" = none
  max : mg "max" = none
  min : mg "min" = none
  str : mg "str" = none
  int : mg "int" = none
  bool : mg "bool" = none
  tuple : mg "tuple" = none
  ValueError : mg "ValueError" = none
section
variable {X : Cx}
theorem pe_f {W : WX} {j k : Nat} {x : Str} {ps : List Str} {sp : Sp} {e : Expr} {es : List Expr} {t : TA} {p pos : Pos} (c : Callee X.prog X.w X.K X.mg X.base k x ps sp) (hr : Room j X.A) (hk : k ≤ j) (tk : Takes X W)
    (ha : PA X (e :: es) t) (hg : Gl X x := by rfl) (hdb : (x == ("__debug__" : Str)) = false := by decide) (he : starEach (e :: es) X.env = (false, eval e X.env) :: starEach es X.env := by rfl) (hpl : (backTo pos (starEach es X.env)).any (·.1) = false := by rfl) :
    PE X (.Call (.Name x p) (e :: es) [] pos) (tCallS sp (WE W) t) := by
  obtain ⟨f, fd, F, hm, hkp, hb⟩ := c
  exact pe_callS F (hr.mono hk) hg hm hkp hb (fun σ => passAt tk σ) ha hdb he hpl
end
theorem ix_listK {X : Cx} (K : PySem.W.Frag) (h : X.K = K) : IxR X (rIxL K) := h ▸ ix_list
theorem ix_tupK {X : Cx} (K : PySem.W.Frag) (h : X.K = K) : IxR X (rIxT K) := h ▸ ix_tup
theorem Callee.mk' {P : Program} {w : World} {K : PySem.W.Frag} {mg : Str → Option Value} {base : Heap} {k : Nat} {x : Str} {ps : List Str} {sp : Sp} {f : Addr} {fd : FuncData} (F : FnOk P w K mg base (L2.CX P w) k f fd ps sp) (hm : mg x = some (.ref f)) (hk : PySem.W.keepIn K (.ref f) = true) (hb : Binds K fd ps []) :
    Callee P w K mg base k x ps sp := ⟨f, fd, F, hm, hk, hb⟩
/-! ### what a def tells: a number, a truth, a text, a new list -/
def TellV (H : Hp) (Q : VK) (v : V) : Prop := ∀ H', Same H H' → Q v H'
def TellL (H : Hp) (Q : VK) (xs : List V) : Prop := ∀ (H' : Hp) (p : Addr), Same H H' → H p = none → H' p = some (.lst xs) → Q (.ref p) H'
def Raise (mg : Str → Option Value) (x : Str) (H : Hp) (E : XK) : Prop := ∀ H', Same H H' → E (.ref (ErA mg x)) none H'
theorem same_upd {H : Hp} {p : Addr} {o : HO} (h : H p = none) : Same H (upd H p o) := fun b u e => by
  rw [upd_ne (ne_of_none e h)]
  exact e
theorem get_map {xs : List Int} {i : Nat} {x : V} (h : (xs.map V.int)[i]? = some x) : ∃ z, xs[i]? = some z ∧ x = .int z := by
  rw [List.getElem?_map] at h
  cases e : xs[i]? with
  | none => rw [e] at h; cases h
  | some z => rw [e] at h; exact ⟨z, rfl, (Option.some.inj h).symm⟩
theorem map_get {xs : List Int} {i : Nat} {z : Int} (h : xs[i]? = some z) : (xs.map V.int)[i]? = some (.int z) := by
  rw [List.getElem?_map, h]
  all_goals rfl
theorem ix_of {n : Nat} {z : Int} {j : Nat} (e : z = (j : Int)) (h : j < n) : ixN n z = some j := by
  subst e
  unfold ixN
  rw [if_pos (by omega), if_pos (by omega), Int.toNat_natCast]
theorem take_more {α : Type} {l : List α} {i : Nat} {x : α} (h : l[i]? = some x) : l.take (i + 1) = l.take i ++ [x] := by
  rw [List.take_add_one, h]
  all_goals rfl
theorem small64 {n : Nat} (h : n ≤ 100000) : n < sizeLine := Nat.lt_of_le_of_lt h (by decide)
theorem small64' {n : Nat} (h : n ≤ 100000) : n ≤ sizeLine := Nat.le_of_lt (small64 h)
theorem ite_t {A B : Prop} {c : Bool} (hc : c = true) (h : A) : if c = true then A else B := by
  rw [if_pos hc]
  exact h
theorem ite_f {A B : Prop} {c : Bool} (hc : c = false) (h : B) : if c = true then A else B := by
  rw [hc, if_neg Bool.false_ne_true]
  exact h
end CB
namespace CB
open PySem PySem.Spec PyProof.Rows L2
/-- what a frame is -/
def GF (rs : List Int) : Prop := rs.length ≤ 11 ∧ ∀ r ∈ rs, 2 ≤ r ∧ r ≤ 12
/-! ### the mathematics: worths -/
def prodL (l : List Int) : Int := l.foldl (· * ·) 1
def worthsL (rs : List Int) : List Int := (List.range (rs.length + 1)).map fun k => prodL (rs.take k)
theorem prodL_snoc (l : List Int) (r : Int) : prodL (l ++ [r]) = prodL l * r := by
  unfold prodL
  rw [List.foldl_append]
  rfl
theorem foldl_mul (l : List Int) (x : Int) : l.foldl (· * ·) x = x * l.foldl (· * ·) 1 := by
  induction l generalizing x with
  | nil => simp
  | cons a l ih =>
    rw [List.foldl_cons, List.foldl_cons, ih (x * a), ih (1 * a), Int.one_mul, Int.mul_assoc]
theorem prodL_cons (r : Int) (l : List Int) : prodL (r :: l) = r * prodL l := by
  unfold prodL
  rw [List.foldl_cons, Int.one_mul, foldl_mul]
theorem prodL_bound {l : List Int} (h : ∀ r ∈ l, 2 ≤ r ∧ r ≤ 12) : 1 ≤ prodL l ∧ prodL l ≤ ((12 ^ l.length : Nat) : Int) := by
  induction l with
  | nil => exact ⟨by decide, by decide⟩
  | cons a l ih =>
    obtain ⟨h1, h2⟩ := ih fun r hr => h r (List.mem_cons_of_mem _ hr)
    obtain ⟨h3, h4⟩ := h a List.mem_cons_self
    rw [prodL_cons, List.length_cons, Nat.pow_succ, Nat.mul_comm, Int.natCast_mul]
    refine ⟨?_, ?_⟩
    · have := Int.mul_le_mul (show (1 : Int) ≤ a by omega) h1 (by decide) (by omega)
      omega
    · exact Int.mul_le_mul h4 h2 (by omega) (by decide)
theorem prodL_lt {l : List Int} (h : ∀ r ∈ l, 2 ≤ r ∧ r ≤ 12) (hl : l.length ≤ 11) : 1 ≤ prodL l ∧ prodL l < 2 ^ 40 := by
  obtain ⟨h1, h2⟩ := prodL_bound h
  refine ⟨h1, ?_⟩
  have h3 : 12 ^ l.length ≤ 12 ^ 11 := Nat.pow_le_pow_right (by decide) hl
  have h4 : 12 ^ 11 < 2 ^ 40 := by decide
  omega
theorem abs_lt_pow {z : Int} {n : Nat} (h0 : 0 ≤ z) (h : z < 2 ^ n) : z.natAbs < 2 ^ n := by
  have e : (z.natAbs : Int) = z := Int.natAbs_of_nonneg h0
  have : (z.natAbs : Int) < ((2 ^ n : Nat) : Int) := by
    rw [e]
    simpa using h
  omega
theorem frame_gf (g : Nat → Int) (n : Nat) (hn : n ≤ 11) : GF ((List.range n).map fun i => 2 + g i % 11) := by
  refine ⟨by rw [List.length_map, List.length_range]; exact hn, fun r hr => ?_⟩
  obtain ⟨i, _, rfl⟩ := List.mem_map.mp hr
  omega
end CB
namespace CB
open PySem PySem.Spec PyProof.Rows L2
/-! ### the mathematics: boards -/
def W : List Int → List Int → Int
  | r :: rs, b :: bs => b + r * W rs bs
  | [], b :: _ => b
  | _, [] => 0
/-- a board's lines -/
def GB (rs bs : List Int) : Prop := bs.length = rs.length + 1 ∧ ∀ b ∈ bs, 0 ≤ b
theorem GB.tail {r b : Int} {rs bs : List Int} (h : GB (r :: rs) (b :: bs)) : GB rs bs := ⟨by have := h.1; simpa using this, fun x hx => h.2 x (List.mem_cons_of_mem _ hx)⟩
def BS (bs : List Int) : Prop := ∀ b ∈ bs, b < 2 ^ 200
def Rat (rs : List Int) : Prop := ∀ r ∈ rs, 2 ≤ r ∧ r ≤ 12
theorem Rat.tail {r : Int} {rs : List Int} (h : Rat (r :: rs)) : Rat rs := fun x hx => h x (List.mem_cons_of_mem _ hx)
theorem Rat.head {r : Int} {rs : List Int} (h : Rat (r :: rs)) : 2 ≤ r ∧ r ≤ 12 := h r List.mem_cons_self
/-- the plain board of n -/
def D : List Int → Int → List Int
  | [], n => [n]
  | r :: rs, n => n % r :: D rs (n / r)
theorem D_len (rs : List Int) (n : Int) : (D rs n).length = rs.length + 1 := by
  induction rs generalizing n with
  | nil => rfl
  | cons r rs ih => simp [D, ih]
/-- how often each line is raised -/
def R : List Int → List Int → Int → List Int
  | r :: rs, b :: bs, c => (b + c) / r :: R rs bs ((b + c) / r)
  | _, _, _ => []
theorem worths_cons (r : Int) (rs : List Int) : worthsL (r :: rs) = 1 :: (worthsL rs).map (r * ·) := by
  unfold worthsL
  rw [List.length_cons, List.range_succ_eq_map, List.map_cons, List.map_map, List.map_map]
  refine congr (congrArg _ rfl) (List.map_congr_left fun k _ => ?_)
  show prodL ((r :: rs).take (k + 1)) = r * prodL (rs.take k)
  rw [List.take_succ_cons, prodL_cons]
theorem zipW_map (r : Int) : ∀ bs os : List Int, (List.zipWith (· * ·) bs (os.map (r * ·))).sum = r * (List.zipWith (· * ·) bs os).sum
  | [], _ => by simp
  | _ :: _, [] => by simp
  | b :: bs, o :: os => by
    rw [List.map_cons, List.zipWith_cons_cons, List.zipWith_cons_cons, List.sum_cons, List.sum_cons, zipW_map r bs os, Int.mul_add, Int.mul_left_comm]
theorem W_sum : ∀ rs bs : List Int, bs.length = rs.length + 1 → (List.zipWith (· * ·) bs (worthsL rs)).sum = W rs bs
  | [], [b], _ => by simp [worthsL, prodL, W]
  | [], [], h => by cases h
  | [], _ :: _ :: _, h => by simp at h
  | _ :: _, [], h => by cases h
  | r :: rs, b :: bs, h => by
    rw [worths_cons, List.zipWith_cons_cons, List.sum_cons, zipW_map, W_sum rs bs (by simpa using h), Int.mul_one]
    rfl
theorem W_nonneg : ∀ (rs bs : List Int), Rat rs → (∀ b ∈ bs, 0 ≤ b) → 0 ≤ W rs bs
  | [], [], _, _ => by simp [W]
  | [], b :: _, _, h => h b List.mem_cons_self
  | _ :: _, [], _, _ => by simp [W]
  | r :: rs, b :: bs, hr, h => by
    have h1 := W_nonneg rs bs hr.tail fun x hx => h x (List.mem_cons_of_mem _ hx)
    have h2 := h b List.mem_cons_self
    have h3 := hr.head
    have h4 := Int.mul_nonneg (show (0 : Int) ≤ r by omega) h1
    show 0 ≤ b + r * W rs bs
    omega
theorem W_lt {B : Nat} : ∀ (rs bs : List Int), Rat rs → (∀ b ∈ bs, 0 ≤ b) → (∀ b ∈ bs, b < ((2 ^ B : Nat) : Int)) → W rs bs < ((13 ^ rs.length * 2 ^ B : Nat) : Int)
  | [], [], _, _, _ => by
    have : 0 < 2 ^ B := Nat.pow_pos (by decide)
    simp only [W, List.length_nil, Nat.pow_zero, Nat.one_mul]
    omega
  | [], b :: _, _, _, h => by
    have := h b List.mem_cons_self
    simp only [W, List.length_nil, Nat.pow_zero, Nat.one_mul]
    exact this
  | r :: rs, [], _, _, _ => by
    have : 0 < 13 ^ (r :: rs).length * 2 ^ B := Nat.mul_pos (Nat.pow_pos (by decide)) (Nat.pow_pos (by decide))
    simp only [W]
    omega
  | r :: rs, b :: bs, hr, h0, h => by
    have h1 := W_nonneg rs bs hr.tail fun x hx => h0 x (List.mem_cons_of_mem _ hx)
    have h2 := W_lt rs bs hr.tail (fun x hx => h0 x (List.mem_cons_of_mem _ hx)) fun x hx => h x (List.mem_cons_of_mem _ hx)
    have h3 := h b List.mem_cons_self
    have h4 := hr.head
    have h5 : r * W rs bs ≤ 12 * W rs bs := Int.mul_le_mul_of_nonneg_right h4.2 h1
    have h6 : 2 ^ B ≤ 13 ^ rs.length * 2 ^ B := Nat.le_mul_of_pos_left _ (Nat.pow_pos (by decide))
    have h7 : 13 ^ (r :: rs).length * 2 ^ B = 13 * (13 ^ rs.length * 2 ^ B) := by rw [List.length_cons, Nat.pow_succ, Nat.mul_comm (13 ^ rs.length) 13, Nat.mul_assoc]
    show b + r * W rs bs < _
    rw [h7]
    omega
theorem W_small {rs bs : List Int} (g : GF rs) (h0 : ∀ b ∈ bs, 0 ≤ b) (h : ∀ b ∈ bs, b < 2 ^ 200) : 0 ≤ W rs bs ∧ W rs bs < 2 ^ 250 := by
  refine ⟨W_nonneg rs bs g.2 h0, ?_⟩
  have h1 := W_lt (B := 200) rs bs g.2 h0 fun b hb => by have := h b hb; rw [Int.natCast_pow]; exact this
  have h2 : 13 ^ rs.length ≤ 13 ^ 11 := Nat.pow_le_pow_right (by decide) g.1
  have h3 : 13 ^ rs.length * 2 ^ 200 ≤ 13 ^ 11 * 2 ^ 200 := Nat.mul_le_mul_right _ h2
  have h4 : 13 ^ 11 * 2 ^ 200 < 2 ^ 250 := by decide
  have h5 : ((13 ^ rs.length * 2 ^ 200 : Nat) : Int) < ((2 ^ 250 : Nat) : Int) := by omega
  have h6 : ((2 ^ 250 : Nat) : Int) = 2 ^ 250 := by rw [Int.natCast_pow]; rfl
  rw [h6] at h5
  omega
theorem D_W : ∀ (rs : List Int) (n : Int), Rat rs → W rs (D rs n) = n
  | [], n, _ => rfl
  | r :: rs, n, h => by
    show n % r + r * W rs (D rs (n / r)) = n
    rw [D_W rs (n / r) h.tail]
    exact Int.emod_add_mul_ediv n r
theorem D_nonneg : ∀ (rs : List Int) (n : Int), Rat rs → 0 ≤ n → ∀ b ∈ D rs n, 0 ≤ b
  | [], n, _, h0, b, hb => by
    have : b = n := by simpa [D] using hb
    omega
  | r :: rs, n, h, h0, b, hb => by
    have h3 := h.head
    rcases List.mem_cons.mp hb with e | hb
    · rw [e]
      exact Int.emod_nonneg n (by omega)
    · exact D_nonneg rs (n / r) h.tail (Int.ediv_nonneg h0 (by omega)) b hb
theorem D_GB (rs : List Int) (n : Int) (h : Rat rs) (h0 : 0 ≤ n) : GB rs (D rs n) := ⟨D_len rs n, D_nonneg rs n h h0⟩
theorem D_le : ∀ (rs : List Int) (n : Int), Rat rs → 0 ≤ n → ∀ b ∈ D rs n, b ≤ n
  | [], n, _, h0, b, hb => by
    have : b = n := by simpa [D] using hb
    omega
  | r :: rs, n, h, h0, b, hb => by
    have h3 := h.head
    have h4 : n / r ≤ n := Int.ediv_le_self _ h0
    rcases List.mem_cons.mp hb with e | hb
    · rw [e]
      have := Int.emod_add_mul_ediv n r
      have h5 := Int.mul_nonneg (show (0 : Int) ≤ r by omega) (Int.ediv_nonneg h0 (show (0 : Int) ≤ r by omega))
      omega
    · have := D_le rs (n / r) h.tail (Int.ediv_nonneg h0 (by omega)) b hb
      omega
/-- fewer counters than its ratio on each line but the last -/
def Pl : List Int → List Int → Prop
  | r :: rs, b :: bs => b < r ∧ Pl rs bs
  | _, _ => True
theorem D_Pl : ∀ (rs : List Int) (n : Int), Rat rs → Pl rs (D rs n)
  | [], _, _ => trivial
  | r :: rs, n, h => by
    have h3 := h.head
    exact ⟨Int.emod_lt_of_pos n (by omega), D_Pl rs (n / r) h.tail⟩
/-- there is just one plain board of a worth -/
theorem D_uniq : ∀ (rs bs : List Int), Rat rs → GB rs bs → Pl rs bs → D rs (W rs bs) = bs
  | [], [b], _, _, _ => rfl
  | [], [], _, h, _ => by cases h.1
  | [], _ :: _ :: _, _, h, _ => by have := h.1; simp at this
  | _ :: _, [], _, h, _ => by cases h.1
  | r :: rs, b :: bs, hr, h, p => by
    have h3 := hr.head
    have h0 := h.2 b List.mem_cons_self
    have e1 : (b + r * W rs bs) % r = b := by
      rw [Int.add_mul_emod_self_left]
      exact Int.emod_eq_of_lt h0 p.1
    have e2 : (b + r * W rs bs) / r = W rs bs := by
      rw [Int.add_mul_ediv_left _ _ (by omega), Int.ediv_eq_zero_of_lt h0 p.1, Int.zero_add]
    show (b + r * W rs bs) % r :: D rs ((b + r * W rs bs) / r) = b :: bs
    rw [e1, e2, D_uniq rs bs hr.tail h.tail p.2]
theorem R_len : ∀ (rs bs : List Int) (c : Int), bs.length = rs.length + 1 → (R rs bs c).length = rs.length
  | [], [], _, _ => rfl
  | [], _ :: _, _, _ => rfl
  | _ :: _, [], _, h => by cases h
  | r :: rs, b :: bs, c, h => by
    show (R rs bs ((b + c) / r)).length + 1 = rs.length + 1
    rw [R_len rs bs _ (by simpa using h)]
end CB
namespace CB
open PySem PySem.Spec PyProof.Rows L2
theorem Pl_iff : ∀ rs bs : List Int, Pl rs bs ↔ ∀ (j : Nat) (r b : Int), rs[j]? = some r → bs[j]? = some b → b < r
  | [], bs => by simp [Pl]
  | r :: rs, [] => by simp [Pl]
  | r :: rs, b :: bs => by
    have ih := Pl_iff rs bs
    constructor
    · rintro ⟨h1, h2⟩ j r' b' hr hb
      cases j with
      | zero =>
        cases hr
        cases hb
        exact h1
      | succ j => exact ih.mp h2 j r' b' hr hb
    · intro h
      exact ⟨h 0 r b rfl rfl, ih.mpr fun j r' b' hr hb => h (j + 1) r' b' hr hb⟩
theorem bs_of20 {bs : List Int} (h : ∀ x ∈ bs, x < 10 ^ 20) : BS bs := fun b hb => by
  have h1 := h b hb
  have h2 : (10 : Int) ^ 20 < 2 ^ 200 := by decide
  omega
theorem and_true {a b : Bool} (h1 : a = true) (h2 : b = true) : (a && b) = true := by rw [h1, h2]; rfl
end CB
namespace CB
open PySem PySem.Spec PyProof.Rows L2
theorem W_step : ∀ (rs fs : List Int) (L : Nat) (r x y m : Int), fs.length = rs.length + 1 → rs[L]? = some r → fs[L]? = some x → fs[L + 1]? = some y → W rs ((fs.set (L + 1) (y - m)).set L (x + m * r)) = W rs fs
  | [], _, _, _, _, _, _, _, h, _, _ => by simp at h
  | r0 :: rs, [], _, _, _, _, _, h, _, _, _ => by cases h
  | r0 :: rs, [_], _, _, _, _, _, h, _, _, _ => by simp at h
  | r0 :: rs, f :: f2 :: fs, 0, r, x, y, m, h, hr, hx, hy => by
    cases hr
    cases hx
    cases hy
    show (f + m * r0) + r0 * W rs ((f2 - m) :: fs) = f + r0 * W rs (f2 :: fs)
    have e : W rs ((f2 - m) :: fs) = W rs (f2 :: fs) - m := by
      cases rs with
      | nil => rfl
      | cons s rs => show f2 - m + s * W rs fs = f2 + s * W rs fs - m; omega
    rw [e, Int.mul_sub, Int.mul_comm m r0]
    omega
  | r0 :: rs, f :: f2 :: fs, L + 1, r, x, y, m, h, hr, hx, hy => by
    have ih := W_step rs (f2 :: fs) L r x y m (by simpa using h) hr hx hy
    show f + r0 * W rs (((f2 :: fs).set (L + 1) (y - m)).set L (x + m * r)) = f + r0 * W rs (f2 :: fs)
    rw [ih]
theorem set_comm' {α : Type} {l : List α} {i j : Nat} {x y : α} (h : i ≠ j) : (l.set i x).set j y = (l.set j y).set i x := by
  refine List.ext_getElem? fun k => ?_
  rw [List.getElem?_set, List.getElem?_set, List.getElem?_set, List.getElem?_set]
  simp only [List.length_set]
  by_cases h1 : j = k <;> by_cases h2 : i = k
  · exact absurd (h2.trans h1.symm) h
  · simp [h1, h2]
  · simp [h1, h2]
  · simp [h1, h2]
theorem W_head (rs : List Int) (b c : Int) (bs : List Int) : W rs ((b + c) :: bs) = W rs (b :: bs) + c := by
  cases rs with
  | nil => rfl
  | cons r rs => show b + c + r * W rs bs = b + r * W rs bs + c; omega
/-- raising once for all on the lowest line -/
theorem D_carry (r : Int) (rs : List Int) (b b2 : Int) (bs : List Int) (h : 0 < r) : D (r :: rs) (W (r :: rs) (b :: b2 :: bs)) = b % r :: D rs (W rs ((b2 + b / r) :: bs)) := by
  show (b + r * W rs (b2 :: bs)) % r :: D rs ((b + r * W rs (b2 :: bs)) / r) = _
  rw [Int.add_mul_emod_self_left, Int.add_mul_ediv_left _ _ (by omega), W_head, Int.add_comm (b / r)]
theorem sumD : ∀ rs bs : List Int, Rat rs → GB rs bs → (D rs (W rs bs)).sum ≤ bs.sum ∧ ((D rs (W rs bs)).sum = bs.sum → D rs (W rs bs) = bs)
  | [], [b], _, _ => ⟨Int.le_refl _, fun _ => rfl⟩
  | [], [], _, h => by cases h.1
  | [], _ :: _ :: _, _, h => by have := h.1; simp at this
  | _ :: _, [], _, h => by cases h.1
  | _ :: _, [_], _, h => by have := h.1; simp at this
  | r :: rs, b :: b2 :: bs, hr, h => by
    have h3 := hr.head
    have hb := h.2 b List.mem_cons_self
    have hb2 := h.2 b2 (List.mem_cons_of_mem _ List.mem_cons_self)
    have hq : 0 ≤ b / r := Int.ediv_nonneg hb (by omega)
    have hg : GB rs ((b2 + b / r) :: bs) := ⟨by have := h.1; simpa using this, fun x hx => by
      rcases List.mem_cons.mp hx with e | hx
      · omega
      · exact h.2 x (List.mem_cons_of_mem _ (List.mem_cons_of_mem _ hx))⟩
    obtain ⟨i1, i2⟩ := sumD rs ((b2 + b / r) :: bs) hr.tail hg
    have e := Int.emod_add_mul_ediv b r
    have e2 : 2 * (b / r) ≤ r * (b / r) := Int.mul_le_mul_of_nonneg_right h3.1 hq
    rw [D_carry r rs b b2 bs (by omega)]
    rw [List.sum_cons] at i1 i2
    rw [List.sum_cons, List.sum_cons, List.sum_cons]
    refine ⟨by omega, fun hs => ?_⟩
    have hz : b / r = 0 := by omega
    rw [hz] at i2 hs e ⊢
    rw [Int.mul_zero, Int.add_zero] at e
    rw [Int.add_zero] at i2
    rw [Int.add_zero] at hs ⊢
    rw [i2 (by omega), e]
end CB
namespace CB
open PySem PySem.Spec PyProof.Rows L2
/-- the nets -/
def N (rs bs cs : List Int) : List Int := List.zipWith (· - ·) (R rs bs 0) (R rs cs 0)
def abs' (i : Int) : Int := if i < 0 then -i else i
def Nabs (rs bs cs : List Int) : Int := ((N rs bs cs).map abs').sum
theorem N_len {rs bs cs : List Int} (h1 : bs.length = rs.length + 1) (h2 : cs.length = rs.length + 1) : (N rs bs cs).length = rs.length := by
  unfold N
  rw [List.length_zipWith, R_len rs bs 0 h1, R_len rs cs 0 h2, Nat.min_self]
def Du : List Int → List Int → List Int → Int → List Int
  | r :: rs, b :: bs, b' :: cs, c => (b - b' + c) / r :: Du rs bs cs ((b - b' + c) / r)
  | _, _, _, _ => []
theorem N_due : ∀ (rs bs cs : List Int) (c1 c2 : Int), Rat rs → bs.length = rs.length + 1 → cs.length = rs.length + 1 → W rs bs + c1 = W rs cs + c2 → List.zipWith (· - ·) (R rs bs c1) (R rs cs c2) = Du rs bs cs (c1 - c2)
  | [], bs, cs, c1, c2, _, _, _, _ => by simp [R, Du]
  | r :: rs, [], cs, c1, c2, _, h, _, _ => by cases h
  | r :: rs, b :: bs, [], c1, c2, _, _, h, _ => by cases h
  | r :: rs, b :: bs, b' :: cs, c1, c2, hr, h1, h2, hw => by
    have hw' : b + r * W rs bs + c1 = b' + r * W rs cs + c2 := hw
    have h3 := hr.head
    have e1 : (b + c1) / r = (b' + c2) / r + (W rs cs - W rs bs) := by
      have : b + c1 = b' + c2 + r * (W rs cs - W rs bs) := by rw [Int.mul_sub]; omega
      rw [this, Int.add_mul_ediv_left _ _ (by omega)]
    have e2 : (b - b' + (c1 - c2)) / r = W rs cs - W rs bs := by
      have : b - b' + (c1 - c2) = r * (W rs cs - W rs bs) := by rw [Int.mul_sub]; omega
      rw [this, Int.mul_ediv_cancel_left _ (by omega)]
    have ih := N_due rs bs cs ((b + c1) / r) ((b' + c2) / r) hr.tail (by simpa using h1) (by simpa using h2) (by omega)
    show ((b + c1) / r - (b' + c2) / r) :: List.zipWith (· - ·) (R rs bs ((b + c1) / r)) (R rs cs ((b' + c2) / r)) = (b - b' + (c1 - c2)) / r :: Du rs bs cs ((b - b' + (c1 - c2)) / r)
    rw [ih, e2]
    have e3 : (b + c1) / r - (b' + c2) / r = W rs cs - W rs bs := by omega
    rw [e3]
theorem N_is {rs bs cs : List Int} (hr : Rat rs) (h1 : bs.length = rs.length + 1) (h2 : cs.length = rs.length + 1) (hw : W rs bs = W rs cs) : N rs bs cs = Du rs bs cs 0 := by
  have := N_due rs bs cs 0 0 hr h1 h2 (by omega)
  exact this
theorem N_swap (rs bs cs : List Int) : N rs cs bs = (N rs bs cs).map (0 - ·) := by
  unfold N
  generalize R rs bs 0 = xs
  generalize R rs cs 0 = ys
  induction xs generalizing ys with
  | nil => cases ys <;> rfl
  | cons x xs ih =>
    cases ys with
    | nil => rfl
    | cons y ys =>
      rw [List.zipWith_cons_cons, List.zipWith_cons_cons, List.map_cons, ih ys]
      congr 1
      omega
end CB
namespace CB
open PySem PySem.Spec PyProof.Rows L2
/-! ### equality of lists of numbers, of lists of such, of lists of steps -/
def dL (xs : List Int) : PyData := .list (xs.map .int)
def dStep (p : Int × Bool) : PyData := .tuple [.int p.1, .bool p.2]
theorem layAll {ds : List PyData} {n : Nat} (h : ∀ d ∈ ds, d.canLay0 = true ∧ d.depth ≤ n) : PyData.canLayAll0 ds = true ∧ PyData.depthAll ds ≤ n := by
  induction ds with
  | nil => exact ⟨rfl, by simp [PyData.depthAll]⟩
  | cons d ds ih =>
    obtain ⟨h1, h2⟩ := ih fun x hx => h x (List.mem_cons_of_mem _ hx)
    obtain ⟨h3, h4⟩ := h d List.mem_cons_self
    refine ⟨by simp [PyData.canLayAll0, h1, h3], ?_⟩
    simp only [PyData.depthAll]
    omega
theorem lay_int (i : Int) : (PyData.int i).canLay0 = true ∧ (PyData.int i).depth ≤ 0 := ⟨by simp [PyData.canLay0], by simp [PyData.depth]⟩
theorem lay_list {ds : List PyData} {n : Nat} (h : ∀ d ∈ ds, d.canLay0 = true ∧ d.depth ≤ n) : (PyData.list ds).canLay0 = true ∧ (PyData.list ds).depth ≤ n + 1 := by
  obtain ⟨h1, h2⟩ := layAll h
  refine ⟨by simpa [PyData.canLay0] using h1, ?_⟩
  simp only [PyData.depth]
  omega
theorem lay_dL (xs : List Int) : (dL xs).canLay0 = true ∧ (dL xs).depth ≤ 1 := lay_list (n := 0) fun d hd => by
  obtain ⟨i, _, rfl⟩ := List.mem_map.mp hd
  exact lay_int i
theorem lay_dStep (p : Int × Bool) : (dStep p).canLay0 = true ∧ (dStep p).depth ≤ 1 := ⟨by simp [dStep, PyData.canLay0, PyData.canLayAll0], by simp [dStep, PyData.depth, PyData.depthAll]⟩
theorem shaped_of {d : PyData} {n : Nat} (h : d.canLay0 = true ∧ d.depth ≤ n) (hn : n ≤ 64) : SeqAt.shaped d = true := by
  unfold SeqAt.shaped
  rw [h.1, Bool.true_and]
  exact decide_eq_true (Nat.le_trans h.2 hn)
theorem shaped_dL (xs : List Int) : SeqAt.shaped (dL xs) = true := shaped_of (lay_dL xs) (by decide)
theorem shaped_dLL (xss : List (List Int)) : SeqAt.shaped (.list (xss.map dL)) = true := shaped_of (lay_list (n := 1) fun d hd => by
  obtain ⟨xs, _, rfl⟩ := List.mem_map.mp hd
  exact lay_dL xs) (by decide)
theorem shaped_dStep (p : Int × Bool) : SeqAt.shaped (dStep p) = true := shaped_of (lay_dStep p) (by decide)
theorem shaped_dLT (ps : List (Int × Bool)) : SeqAt.shaped (.list (ps.map dStep)) = true := shaped_of (lay_list (n := 1) fun d hd => by
  obtain ⟨p, _, rfl⟩ := List.mem_map.mp hd
  exact lay_dStep p) (by decide)
theorem eqvAll_map {α : Type} [DecidableEq α] {f : α → PyData} (h : ∀ a b, PyData.eqv (f a) (f b) = decide (a = b)) : ∀ xs ys : List α, PyData.eqvAll (xs.map f) (ys.map f) = decide (xs = ys)
  | [], [] => by simp [PyData.eqvAll]
  | [], _ :: _ => by simp [PyData.eqvAll]
  | _ :: _, [] => by simp [PyData.eqvAll]
  | x :: xs, y :: ys => by
    simp only [List.map_cons, PyData.eqvAll, h, eqvAll_map h xs ys]
    by_cases e1 : x = y <;> by_cases e2 : xs = ys <;> simp [e1, e2]
theorem eqv_int (a b : Int) : PyData.eqv (.int a) (.int b) = decide (a = b) := by simp only [PyData.eqv]; exact Bool.beq_eq_decide_eq _ _
theorem eqv_dL (xs ys : List Int) : PyData.eqv (dL xs) (dL ys) = decide (xs = ys) := by
  unfold dL
  simp only [PyData.eqv]
  exact eqvAll_map eqv_int xs ys
theorem eqv_dLL (xs ys : List (List Int)) : PyData.eqv (.list (xs.map dL)) (.list (ys.map dL)) = decide (xs = ys) := by
  simp only [PyData.eqv]
  exact eqvAll_map eqv_dL xs ys
theorem eqv_dStep (p q : Int × Bool) : PyData.eqv (dStep p) (dStep q) = decide (p = q) := by
  obtain ⟨a, b⟩ := p
  obtain ⟨c, d⟩ := q
  unfold dStep
  simp only [PyData.eqv, PyData.eqvAll, Bool.and_true]
  by_cases e1 : a = c <;> by_cases e2 : b = d <;> simp [e1, e2]
theorem eqv_dLT (xs ys : List (Int × Bool)) : PyData.eqv (.list (xs.map dStep)) (.list (ys.map dStep)) = decide (xs = ys) := by
  simp only [PyData.eqv]
  exact eqvAll_map eqv_dStep xs ys
section
variable {K : PySem.W.Frag} {H : Hp}
theorem dpAll_int : ∀ xs : List Int, DpAll K H (xs.map V.int) (xs.map PyData.int)
  | [] => .nil
  | x :: xs => .cons (.int x) (dpAll_int xs)
theorem dp_L {a : Addr} {xs : List Int} (h : SqL K H a (xs.map V.int)) : Dp K H (.ref a) (dL xs) := .lst h (dpAll_int xs)
theorem dp_L2 {a p q : Addr} {xs ys : List Int} (h : SqL K H a [.ref p, .ref q]) (hp : SqL K H p (xs.map V.int)) (hq : SqL K H q (ys.map V.int)) : Dp K H (.ref a) (.list ([xs, ys].map dL)) :=
  .lst h (.cons (dp_L hp) (.cons (dp_L hq) .nil))
theorem dp_L3 {a p q r : Addr} {xs ys zs : List Int} (h : SqL K H a [.ref p, .ref q, .ref r]) (hp : SqL K H p (xs.map V.int)) (hq : SqL K H q (ys.map V.int)) (hr : SqL K H r (zs.map V.int)) : Dp K H (.ref a) (.list ([xs, ys, zs].map dL)) :=
  .lst h (.cons (dp_L hp) (.cons (dp_L hq) (.cons (dp_L hr) .nil)))
end
end CB
namespace CB
open PySem PySem.Spec PyProof.Rows L2
/-! ### a list that grows; walks over zip of any two lists -/
def Gr (H : Hp) (D : Addr) (out : List V) (i : Nat) (H' : Hp) : Prop := Same H H' ∧ H' D = some (.lst (out.take i))
theorem Gr.zero {H : Hp} {D : Addr} (out : List V) (h : H D = none) : Gr H D out 0 (upd H D (.lst [])) := ⟨same_upd h, upd_same⟩
theorem Gr.step {H H' H'' : Hp} {D : Addr} {out : List V} {i : Nat} {y : V} (g : Gr H D out i H') (h : H D = none) (hl : out.length ≤ 100000) (hy : out[i]? = some y) (s : Same H' H'') :
    H'' D = some (.lst (out.take i)) ∧ (out.take i).length < sizeLine ∧ Gr H D out (i + 1) (upd H'' D (.lst (out.take i ++ [y]))) := by
  refine ⟨s _ _ g.2, small64 (by rw [List.length_take]; omega), fun b o e => ?_, ?_⟩
  · rw [upd_ne (ne_of_none e h)]
    exact s _ _ (g.1 _ _ e)
  · rw [upd_same, take_more hy]
theorem Gr.done {H H' : Hp} {D : Addr} {out : List V} {i : Nat} (g : Gr H D out i H') (h : out.length ≤ i) : H' D = some (.lst out) := by
  have := g.2
  rw [List.take_of_length_le h] at this
  exact this
theorem lc_zip {K : PySem.W.Frag} {a b : Addr} {xs ys : List V} {g : TG} {tt : TT} {te : TE} {vs : List Nat} {σ : L2.St} {H1 : Hp} {D : Addr} {Qd : Hp → Prop} (n : Nat) (hn : n = min xs.length ys.length) (Pv : Nat → Hp → Prop) (h0 : Pv 0 (upd H1 D (.lst [])))
    (hq : ∀ i H, Pv i H → SqL K H a xs ∧ SqL K H b ys)
    (hs : ∀ (i : Nat) (x y : V) (T : Addr) (H : Hp), xs[i]? = some x → ys[i]? = some y → Pv i H → H T = none → g (.ref T) (wipe σ vs) (upd H T (.tup [x, y])) fun σ2 H2 => wipe σ2 vs = wipe σ vs ∧ tt σ2 H2 fun b H3 =>
      if b = true then te σ2 H3 fun y H4 => ∃ acc, H4 D = some (.lst acc) ∧ acc.length < sizeLine ∧ Pv (i + 1) (upd H4 D (.lst (acc ++ [y]))) else Pv (i + 1) H3) (hd : ∀ H, Pv n H → Qd H) :
    ∃ W : Nat → Nat → Hp → Prop, (∃ m, W 0 m (upd H1 D (.lst []))) ∧ ∀ i m H, W i m H →
      ((Itz K a b).stop i H ∧ Qd H) ∨ ((Itz K a b).go i H ∧ ∃ Nx : Hp → Prop, (∀ H', Nx H' → ∃ m', m' < m ∧ W (i + 1) m' H') ∧ ∀ x H', (Itz K a b).yld i H x H' → g x (wipe σ vs) H' fun σ2 H2 => wipe σ2 vs = wipe σ vs ∧ tt σ2 H2 fun b H3 =>
        if b = true then te σ2 H3 fun y H4 => ∃ acc, H4 D = some (.lst acc) ∧ acc.length < sizeLine ∧ Nx (upd H4 D (.lst (acc ++ [y]))) else Nx H3) := by
  refine ⟨fun i m H => m = n - i ∧ i ≤ n ∧ Pv i H, ⟨n, by simp, Nat.zero_le _, h0⟩, ?_⟩
  rintro i m H ⟨rfl, hi, p⟩
  obtain ⟨qx, qy⟩ := hq i H p
  by_cases hlt : i < n
  · have hl1 : i < xs.length := by omega
    have hl2 : i < ys.length := by omega
    refine .inr ⟨⟨xs, ys, _, _, qx, qy, List.getElem?_eq_getElem hl1, List.getElem?_eq_getElem hl2⟩, Pv (i + 1), fun H' p' => ⟨n - (i + 1), by omega, rfl, hlt, p'⟩, fun v H' y => ?_⟩
    obtain ⟨T, x', y', rfl, hT, rfl, f1, f2⟩ := y
    exact hs i x' y' T H (f1 xs qx) (f2 ys qy) p hT
  · have e : i = n := by omega
    subst e
    exact .inl ⟨⟨xs, ys, qx, qy, by omega⟩, hd H p⟩
theorem for_zip {K : PySem.W.Frag} {a b : Addr} {xs ys : List V} {g : TG} {tb : TS} {D : Ends} {σ : L2.St} {H : Hp} (n : Nat) (hn : n = min xs.length ys.length) (Pv : Nat → L2.St → Hp → Prop) (h0 : Pv 0 σ H) (hq : ∀ i σ H, Pv i σ H → SqL K H a xs ∧ SqL K H b ys)
    (hs : ∀ (i : Nat) (x y : V) (T : Addr) (σ : L2.St) (H : Hp), xs[i]? = some x → ys[i]? = some y → Pv i σ H → H T = none → g (.ref T) σ (upd H T (.tup [x, y])) fun σ2 H2 => tb { D with nx := Pv (i + 1), ct := Pv (i + 1), bk := D.nx } σ2 H2) (hd : ∀ σ H, Pv n σ H → D.nx σ H) :
    ∃ W : Nat → Nat → L2.St → Hp → Prop, (∃ m, W 0 m σ H) ∧ ∀ i m σ H, W i m σ H →
      ((Itz K a b).stop i H ∧ D.nx σ H) ∨ ((Itz K a b).go i H ∧ ∃ N : L2.St → Hp → Prop, (∀ σ' H', N σ' H' → ∃ m', m' < m ∧ W (i + 1) m' σ' H') ∧ ∀ v H', (Itz K a b).yld i H v H' → g v σ H' fun σ2 H2 => tb { D with nx := N, ct := N, bk := D.nx } σ2 H2) := by
  refine ⟨fun i m σ H => m = n - i ∧ i ≤ n ∧ Pv i σ H, ⟨n, rfl, Nat.zero_le _, h0⟩, ?_⟩
  rintro i m σ H ⟨rfl, hi, p⟩
  obtain ⟨qx, qy⟩ := hq i σ H p
  by_cases hlt : i < n
  · have hl1 : i < xs.length := by omega
    have hl2 : i < ys.length := by omega
    refine .inr ⟨⟨xs, ys, _, _, qx, qy, List.getElem?_eq_getElem hl1, List.getElem?_eq_getElem hl2⟩, Pv (i + 1), fun σ' H' p' => ⟨n - (i + 1), by omega, rfl, hlt, p'⟩, fun v H' y => ?_⟩
    obtain ⟨T, x', y', rfl, hT, rfl, f1, f2⟩ := y
    exact hs i x' y' T σ H (f1 xs qx) (f2 ys qy) p hT
  · have e : i = n := by omega
    subst e
    exact .inl ⟨⟨xs, ys, qx, qy, by omega⟩, hd σ H p⟩
end CB
namespace CB
open PySem PySem.Spec PyProof.Rows L2
/-! ### steps -/
def sg (up : Bool) : Int := if up then 1 else -1
def goesB (rs bs : List Int) (L : Nat) (up : Bool) : Bool := if up then decide (rs.getD L 0 ≤ bs.getD L 0) else decide (1 ≤ bs.getD (L + 1) 0)
def stepL (rs bs : List Int) (L : Nat) (up : Bool) : List Int := (bs.set L (bs.getD L 0 - sg up * rs.getD L 0)).set (L + 1) (bs.getD (L + 1) 0 + sg up)
def optP (rs bs : List Int) (L : Nat) (up : Bool) : List (Int × Bool) := if goesB rs bs L up = true then [((L : Int), up)] else []
def canP (rs bs : List Int) (i : Nat) : List (Int × Bool) := (List.range i).flatMap fun L => optP rs bs L true ++ optP rs bs L false
def canL (rs bs : List Int) : List (Int × Bool) := canP rs bs rs.length
theorem canP_succ (rs bs : List Int) (i : Nat) : canP rs bs (i + 1) = (canP rs bs i ++ optP rs bs i true) ++ optP rs bs i false := by
  unfold canP
  rw [List.range_succ, List.flatMap_append, List.flatMap_cons, List.flatMap_nil, List.append_nil, List.append_assoc]
theorem optP_len (rs bs : List Int) (L : Nat) (up : Bool) : (optP rs bs L up).length ≤ 1 := by
  unfold optP
  split <;> simp
theorem canP_len (rs bs : List Int) (i : Nat) : (canP rs bs i).length ≤ 2 * i := by
  induction i with
  | zero => exact Nat.le_refl _
  | succ i ih =>
    rw [canP_succ, List.length_append, List.length_append]
    have := optP_len rs bs i true
    have := optP_len rs bs i false
    omega
theorem mem_opt {rs bs : List Int} {L : Nat} {up : Bool} {p : Int × Bool} : p ∈ optP rs bs L up ↔ p = ((L : Int), up) ∧ goesB rs bs L up = true := by
  unfold optP
  split
  · rename_i h
    simp [h]
  · rename_i h
    simp [h]
theorem mem_can {rs bs : List Int} {p : Int × Bool} : p ∈ canL rs bs ↔ ∃ L : Nat, L < rs.length ∧ p.1 = (L : Int) ∧ goesB rs bs L p.2 = true := by
  unfold canL canP
  rw [List.mem_flatMap]
  constructor
  · rintro ⟨L, hL, hp⟩
    rcases List.mem_append.mp hp with h | h
    · obtain ⟨e, g⟩ := mem_opt.mp h
      subst e
      exact ⟨L, List.mem_range.mp hL, rfl, g⟩
    · obtain ⟨e, g⟩ := mem_opt.mp h
      subst e
      exact ⟨L, List.mem_range.mp hL, rfl, g⟩
  · rintro ⟨L, hL, e, g⟩
    obtain ⟨l, up⟩ := p
    simp only at e g
    subst e
    refine ⟨L, List.mem_range.mpr hL, List.mem_append.mpr ?_⟩
    cases up with
    | true => exact .inl (mem_opt.mpr ⟨rfl, g⟩)
    | false => exact .inr (mem_opt.mpr ⟨rfl, g⟩)
theorem stepL_len (rs bs : List Int) (L : Nat) (up : Bool) : (stepL rs bs L up).length = bs.length := by
  unfold stepL
  rw [List.length_set, List.length_set]
theorem stepL_get {rs bs : List Int} {L j : Nat} {up : Bool} (h : L + 1 < bs.length) : (stepL rs bs L up)[j]? = if j = L then some (bs.getD L 0 - sg up * rs.getD L 0) else if j = L + 1 then some (bs.getD (L + 1) 0 + sg up) else bs[j]? := by
  unfold stepL
  rw [List.getElem?_set, List.getElem?_set, List.length_set]
  by_cases h1 : j = L
  · subst h1
    rw [if_pos rfl, if_neg (by omega), if_pos rfl, if_pos (by omega)]
  · rw [if_neg h1]
    by_cases h2 : j = L + 1
    · subst h2
      rw [if_pos rfl, if_pos rfl, if_pos h]
    · rw [if_neg h2, if_neg (by omega), if_neg (by omega)]
theorem getD_of {l : List Int} {i : Nat} (h : i < l.length) : l[i]? = some (l.getD i 0) := by
  rw [List.getD_eq_getElem?_getD, List.getElem?_eq_getElem h]
  rfl
theorem W_stepL {rs bs : List Int} {L : Nat} (up : Bool) (hb : bs.length = rs.length + 1) (h : L < rs.length) : W rs (stepL rs bs L up) = W rs bs := by
  have := W_step rs bs L (rs.getD L 0) (bs.getD L 0) (bs.getD (L + 1) 0) (-(sg up)) hb (getD_of h) (getD_of (by omega)) (getD_of (by omega))
  unfold stepL
  rw [set_comm' (by omega)]
  rw [← this]
  congr 2
  · congr 1
    omega
  · rw [Int.neg_mul]
    omega
theorem GB_stepL {rs bs : List Int} {L : Nat} {up : Bool} (hr : Rat rs) (gb : GB rs bs) (h : L < rs.length) (hg : goesB rs bs L up = true) : GB rs (stepL rs bs L up) := by
  have hb := gb.1
  refine ⟨by rw [stepL_len]; exact hb, fun x hx => ?_⟩
  obtain ⟨j, hj⟩ := List.getElem?_of_mem hx
  rw [stepL_get (by omega)] at hj
  have hr0 := hr (rs.getD L 0) (List.mem_of_getElem? (getD_of h))
  have hb0 := gb.2 (bs.getD L 0) (List.mem_of_getElem? (getD_of (by omega)))
  have hb1 := gb.2 (bs.getD (L + 1) 0) (List.mem_of_getElem? (getD_of (by omega)))
  by_cases h1 : j = L
  · rw [if_pos h1] at hj
    have e := Option.some.inj hj
    cases up with
    | true =>
      have := of_decide_eq_true (show decide (rs.getD L 0 ≤ bs.getD L 0) = true from hg)
      simp only [sg, if_true, Int.one_mul] at e
      omega
    | false =>
      have e' : bs.getD L 0 - -1 * rs.getD L 0 = x := e
      omega
  · rw [if_neg h1] at hj
    by_cases h2 : j = L + 1
    · rw [if_pos h2] at hj
      have e := Option.some.inj hj
      cases up with
      | true =>
        have e' : bs.getD (L + 1) 0 + 1 = x := e
        omega
      | false =>
        have := of_decide_eq_true (show decide (1 ≤ bs.getD (L + 1) 0) = true from hg)
        have e' : bs.getD (L + 1) 0 + -1 = x := e
        omega
    · rw [if_neg h2] at hj
      exact gb.2 x (List.mem_of_getElem? hj)
theorem sg_not (up : Bool) : sg (!up) = - sg up := by cases up <;> rfl
theorem stepL_getD {rs bs : List Int} {L : Nat} {up : Bool} (h : L + 1 < bs.length) : (stepL rs bs L up).getD L 0 = bs.getD L 0 - sg up * rs.getD L 0 ∧ (stepL rs bs L up).getD (L + 1) 0 = bs.getD (L + 1) 0 + sg up := by
  constructor
  · rw [List.getD_eq_getElem?_getD, stepL_get h, if_pos rfl]
    rfl
  · rw [List.getD_eq_getElem?_getD, stepL_get h, if_neg (by omega), if_pos rfl]
    rfl
/-- the contrary step can be done and leads back -/
theorem step_back {rs bs : List Int} {L : Nat} {up : Bool} (hr : Rat rs) (gb : GB rs bs) (h : L < rs.length) : goesB rs (stepL rs bs L up) L (!up) = true ∧ stepL rs (stepL rs bs L up) L (!up) = bs := by
  have hb := gb.1
  have hl : L + 1 < bs.length := by omega
  have hb0 := gb.2 (bs.getD L 0) (List.mem_of_getElem? (getD_of (by omega)))
  have hb1 := gb.2 (bs.getD (L + 1) 0) (List.mem_of_getElem? (getD_of (by omega)))
  obtain ⟨e1, e2⟩ := stepL_getD (rs := rs) (bs := bs) (L := L) (up := up) hl
  constructor
  · cases up with
    | true =>
      show decide (1 ≤ (stepL rs bs L true).getD (L + 1) 0) = true
      rw [e2]
      exact decide_eq_true (show 1 ≤ bs.getD (L + 1) 0 + 1 by omega)
    | false =>
      show decide (rs.getD L 0 ≤ (stepL rs bs L false).getD L 0) = true
      rw [e1]
      exact decide_eq_true (show rs.getD L 0 ≤ bs.getD L 0 - -1 * rs.getD L 0 by omega)
  · refine List.ext_getElem? fun j => ?_
    rw [stepL_get (by rw [stepL_len]; exact hl), e1, e2, sg_not]
    by_cases h1 : j = L
    · rw [if_pos h1, h1, getD_of (show L < bs.length by omega)]
      congr 1
      rw [Int.neg_mul]
      omega
    · rw [if_neg h1]
      by_cases h2 : j = L + 1
      · rw [if_pos h2, h2, getD_of hl]
        congr 1
        omega
      · rw [if_neg h2, stepL_get hl, if_neg h1, if_neg h2]
/-! ### steps in the heap -/
def Tups (H : Hp) : List Addr → List (Int × Bool) → Prop
  | [], [] => True
  | t :: ts, s :: ss => H t = some (.tup [.int s.1, .bl s.2]) ∧ Tups H ts ss
  | _, _ => False
theorem Tups.imp {H H' : Hp} (k : ∀ t xs, H t = some (.tup xs) → H' t = some (.tup xs)) : ∀ {ts : List Addr} {ss : List (Int × Bool)}, Tups H ts ss → Tups H' ts ss
  | [], [], _ => trivial
  | [], _ :: _, h => h.elim
  | _ :: _, [], h => h.elim
  | t :: ts, s :: ss, h => ⟨k _ _ h.1, Tups.imp k h.2⟩
theorem Tups.same {H H' : Hp} {ts : List Addr} {ss : List (Int × Bool)} (h : Tups H ts ss) (s : Same H H') : Tups H' ts ss := h.imp fun t xs e => s _ _ e
theorem Tups.upd {H : Hp} {p : Addr} {xs : List V} {o : HO} {ts : List Addr} {ss : List (Int × Bool)} (h : Tups H ts ss) (e : H p = some (.lst xs)) : Tups (L2.upd H p o) ts ss := h.imp fun t ys e' => by
  rw [upd_ne (ne_of e' e (fun z => by cases z))]
  exact e'
theorem Tups.len {H : Hp} : ∀ {ts : List Addr} {ss : List (Int × Bool)}, Tups H ts ss → ts.length = ss.length
  | [], [], _ => rfl
  | [], _ :: _, h => h.elim
  | _ :: _, [], h => h.elim
  | t :: ts, s :: ss, h => by rw [List.length_cons, List.length_cons, Tups.len h.2]
theorem Tups.append {H : Hp} : ∀ {ts us : List Addr} {ss rr : List (Int × Bool)}, Tups H ts ss → Tups H us rr → Tups H (ts ++ us) (ss ++ rr)
  | [], _, [], _, _, h => h
  | [], _, _ :: _, _, h, _ => h.elim
  | _ :: _, _, [], _, h, _ => h.elim
  | t :: ts, us, s :: ss, rr, h, h2 => ⟨h.1, Tups.append h.2 h2⟩
theorem Tups.get {H : Hp} : ∀ {ts : List Addr} {ss : List (Int × Bool)} {i : Nat} {s : Int × Bool}, Tups H ts ss → ss[i]? = some s → ∃ t, ts[i]? = some t ∧ H t = some (.tup [.int s.1, .bl s.2])
  | [], [], i, s, _, e => by simp at e
  | [], _ :: _, _, _, h, _ => h.elim
  | _ :: _, [], _, _, h, _ => h.elim
  | t :: ts, s :: ss, 0, s', h, e => by
    cases e
    exact ⟨t, rfl, h.1⟩
  | t :: ts, s :: ss, i + 1, s', h, e => Tups.get (i := i) h.2 e
def TellT (H : Hp) (Q : VK) (ss : List (Int × Bool)) : Prop := ∀ (H' : Hp) (p : Addr) (ts : List Addr), Same H H' → H p = none → H' p = some (.lst (ts.map V.ref)) → Tups H' ts ss → Q (.ref p) H'
theorem dpAll_T {K : PySem.W.Frag} {H : Hp} : ∀ {ts : List Addr} {ss : List (Int × Bool)}, Tups H ts ss → DpAll K H (ts.map V.ref) (ss.map dStep)
  | [], [], _ => .nil
  | [], _ :: _, h => h.elim
  | _ :: _, [], h => h.elim
  | t :: ts, s :: ss, h => .cons (.tup (SqT.of h.1) (.cons (.int _) (.cons (.bl _) .nil))) (dpAll_T h.2)
theorem dp_LT {K : PySem.W.Frag} {H : Hp} {a : Addr} {ts : List Addr} {ss : List (Int × Bool)} (h : SqL K H a (ts.map V.ref)) (t : Tups H ts ss) : Dp K H (.ref a) (.list (ss.map dStep)) := .lst h (dpAll_T t)
theorem dp_T {K : PySem.W.Frag} {H : Hp} {a : Addr} {s : Int × Bool} (h : H a = some (.tup [.int s.1, .bl s.2])) : Dp K H (.ref a) (dStep s) := .tup (SqT.of h) (.cons (.int _) (.cons (.bl _) .nil))
theorem units65 {A : Around} {k : Nat} (hr : Room k A) : A.units + 65 < cLine := by
  have := hr.un
  omega
theorem any_step (ss : List (Int × Bool)) (s : Int × Bool) : ((ss.map dStep).any fun z => PyData.eqv z (dStep s)) = decide (s ∈ ss) := by
  induction ss with
  | nil => simp
  | cons x xs ih =>
    rw [List.map_cons, List.any_cons, ih, eqv_dStep]
    by_cases h : x = s
    · simp [h]
    · have h' : ¬ s = x := fun z => h z.symm
      simp [h, h']
end CB
namespace CB
open PySem PySem.Spec PyProof.Rows L2
theorem stepL_le {rs bs : List Int} {L : Nat} {up : Bool} {M : Int} (g : GF rs) (hb : bs.length = rs.length + 1) (h : L < rs.length) (hM : ∀ x ∈ bs, x < M) : ∀ x ∈ stepL rs bs L up, x < M + 13 := fun x hx => by
  obtain ⟨j, hj⟩ := List.getElem?_of_mem hx
  rw [stepL_get (by omega)] at hj
  have hr0 := g.2 (rs.getD L 0) (List.mem_of_getElem? (getD_of h))
  have hb0 := hM (bs.getD L 0) (List.mem_of_getElem? (getD_of (by omega)))
  have hb1 := hM (bs.getD (L + 1) 0) (List.mem_of_getElem? (getD_of (by omega)))
  by_cases h1 : j = L
  · rw [if_pos h1] at hj
    have e := Option.some.inj hj
    cases up with
    | true => have e' : bs.getD L 0 - 1 * rs.getD L 0 = x := e; omega
    | false => have e' : bs.getD L 0 - -1 * rs.getD L 0 = x := e; omega
  · rw [if_neg h1] at hj
    by_cases h2 : j = L + 1
    · rw [if_pos h2] at hj
      have e := Option.some.inj hj
      cases up with
      | true => have e' : bs.getD (L + 1) 0 + 1 = x := e; omega
      | false => have e' : bs.getD (L + 1) 0 + -1 = x := e; omega
    · rw [if_neg h2] at hj
      have := hM x (List.mem_of_getElem? hj)
      omega
end CB
namespace CB
open PySem PySem.Spec PyProof.Rows L2
theorem opt_t {rs bs : List Int} {i : Nat} {up : Bool} (h : goesB rs bs i up = true) : optP rs bs i up = [((i : Int), up)] := by unfold optP; rw [if_pos h]
theorem opt_f {rs bs : List Int} {i : Nat} {up : Bool} (h : goesB rs bs i up = false) : optP rs bs i up = [] := by unfold optP; rw [h, if_neg Bool.false_ne_true]
/-- one more step at the end of a list of steps -/
theorem tup_app {H : Hp} {p t : Addr} {ts : List Addr} {ss : List (Int × Bool)} (s : Int × Bool) (hP : H p = some (.lst (ts.map V.ref))) (ht : Tups H ts ss) (nt : H t = none) :
    Tups (upd (upd H t (.tup [.int s.1, .bl s.2])) p (.lst (ts.map V.ref ++ [.ref t]))) (ts ++ [t]) (ss ++ [s]) ∧ (upd (upd H t (.tup [.int s.1, .bl s.2])) p (.lst (ts.map V.ref ++ [.ref t]))) p = some (.lst ((ts ++ [t]).map V.ref)) ∧
      ∀ H0, Same H0 H → H0 p = none → Same H0 (upd (upd H t (.tup [.int s.1, .bl s.2])) p (.lst (ts.map V.ref ++ [.ref t]))) := by
  have s1 := same_upd (o := .tup [.int s.1, .bl s.2]) nt
  have hp1 := s1 _ _ hP
  have dtp : p ≠ t := ne_of_none hP nt
  refine ⟨?_, by rw [upd_same, List.map_append]; rfl, fun H0 s0 n0 c o z => ?_⟩
  · refine Tups.append ((ht.same s1).upd hp1) ⟨?_, trivial⟩
    rw [upd_ne dtp.symm, upd_same]
  · rw [upd_ne (ne_of_none z n0)]
    exact s1 _ _ (s0 _ _ z)
end CB
namespace CB
open PySem PySem.Spec PyProof.Rows L2
/-! ### the way: lowering from the last lines down, then raising from the lowest up -/
def downP (ns : List Int) : Nat → List (Int × Bool)
  | 0 => []
  | i + 1 => downP ns i ++ List.replicate (0 - ns.getD (ns.length - 1 - i) 0).toNat (((ns.length - 1 - i : Nat) : Int), false)
def upP (ns : List Int) : Nat → List (Int × Bool)
  | 0 => []
  | i + 1 => upP ns i ++ List.replicate (ns.getD i 0).toNat ((i : Int), true)
def wayL (ns : List Int) : List (Int × Bool) := downP ns ns.length ++ upP ns ns.length
theorem abs'_split (x : Int) : abs' x = ((0 - x).toNat : Int) + (x.toNat : Int) := by
  unfold abs'
  split <;> omega
def posS (ns : List Int) (i : Nat) : Int := ((ns.take i).map fun x => (x.toNat : Int)).sum
theorem sum_append' (xs ys : List Int) : (xs ++ ys).sum = xs.sum + ys.sum := by
  induction xs with
  | nil => rw [List.nil_append, List.sum_nil]; omega
  | cons x xs ih => rw [List.cons_append, List.sum_cons, List.sum_cons, ih]; omega
theorem upP_len (ns : List Int) : ∀ i, i ≤ ns.length → ((upP ns i).length : Int) = ((ns.take i).map fun x => (x.toNat : Int)).sum
  | 0, _ => by simp [upP]
  | i + 1, h => by
    show ((upP ns i ++ _).length : Int) = _
    rw [List.length_append, List.length_replicate, take_more (getD_of (show i < ns.length by omega)), List.map_append, sum_append', ← upP_len ns i (by omega)]
    simp
theorem drop_more {α : Type} {l : List α} {i : Nat} {x : α} (h : l[i]? = some x) : l.drop i = x :: l.drop (i + 1) := by
  obtain ⟨hi, e⟩ := List.getElem?_eq_some_iff.mp h
  rw [List.drop_eq_getElem_cons hi, e]
theorem downP_len (ns : List Int) : ∀ i, i ≤ ns.length → ((downP ns i).length : Int) = ((ns.drop (ns.length - i)).map fun x => ((0 - x).toNat : Int)).sum
  | 0, _ => by simp [downP]
  | i + 1, h => by
    show ((downP ns i ++ _).length : Int) = _
    have e : ns.length - (i + 1) = ns.length - 1 - i := by omega
    rw [List.length_append, List.length_replicate, e, drop_more (getD_of (show ns.length - 1 - i < ns.length by omega)), List.map_cons, List.sum_cons, show ns.length - 1 - i + 1 = ns.length - i by omega, ← downP_len ns i (by omega)]
    omega
theorem wayL_len (ns : List Int) : ((wayL ns).length : Int) = (ns.map abs').sum := by
  have h1 := upP_len ns ns.length (Nat.le_refl _)
  have h2 := downP_len ns ns.length (Nat.le_refl _)
  rw [List.take_length] at h1
  rw [Nat.sub_self, List.drop_zero] at h2
  unfold wayL
  rw [List.length_append, Int.natCast_add, h1, h2]
  clear h1 h2
  induction ns with
  | nil => rfl
  | cons x xs ih =>
    rw [List.map_cons, List.map_cons, List.map_cons, List.sum_cons, List.sum_cons, List.sum_cons, ← ih, abs'_split]
    omega
theorem abs_le_sum {ns : List Int} {x : Int} (h : x ∈ ns) : abs' x ≤ (ns.map abs').sum := by
  induction ns with
  | nil => cases h
  | cons y ys ih =>
    rw [List.map_cons, List.sum_cons]
    have nn : ∀ zs : List Int, 0 ≤ (zs.map abs').sum := fun zs => by
      induction zs with
      | nil => exact Int.le_refl _
      | cons z zs ih => rw [List.map_cons, List.sum_cons]; have : 0 ≤ abs' z := by unfold abs'; split <;> omega
                        omega
    have h0 : 0 ≤ abs' y := by unfold abs'; split <;> omega
    rcases List.mem_cons.mp h with rfl | h
    · have := nn ys; omega
    · have := ih h; omega
theorem downP_le (ns : List Int) (i : Nat) : (downP ns i).length ≤ (downP ns (i + 1)).length := by
  show _ ≤ (downP ns i ++ _).length
  rw [List.length_append]
  omega
theorem downP_mono (ns : List Int) {i j : Nat} (h : i ≤ j) : (downP ns i).length ≤ (downP ns j).length := by
  induction j with
  | zero => rw [show i = 0 by omega]; exact Nat.le_refl _
  | succ j ih =>
    rcases Nat.lt_or_ge i (j + 1) with h1 | h1
    · exact Nat.le_trans (ih (by omega)) (downP_le ns j)
    · rw [show i = j + 1 by omega]; exact Nat.le_refl _
theorem upP_mono (ns : List Int) {i j : Nat} (h : i ≤ j) : (upP ns i).length ≤ (upP ns j).length := by
  induction j with
  | zero => rw [show i = 0 by omega]; exact Nat.le_refl _
  | succ j ih =>
    rcases Nat.lt_or_ge i (j + 1) with h1 | h1
    · refine Nat.le_trans (ih (by omega)) ?_
      show _ ≤ (upP ns j ++ _).length
      rw [List.length_append]
      omega
    · rw [show i = j + 1 by omega]; exact Nat.le_refl _
end CB
namespace CB
open PySem PySem.Spec PyProof.Rows L2
/-- what a def of two boards asks of them; P: what it tells of good ones -/
def Two (mg : Str → Option Value) (H : Hp) (E : XK) (rs bs cs : List Int) (P : Prop) : Prop :=
  (GF rs → GB rs bs → BS bs ∧ (GB rs cs → BS cs ∧ P) ∧ (¬ GB rs cs → Raise mg "NoBoard" H E)) ∧ (¬ GF rs → E (.ref (ErA mg "NoFrame")) none H) ∧ (GF rs → ¬ GB rs bs → E (.ref (ErA mg "NoBoard")) none H)
theorem Two.good {mg : Str → Option Value} {H : Hp} {E : XK} {rs bs cs : List Int} {P : Prop} (g : GF rs) (gb : GB rs bs) (gc : GB rs cs) (sb : BS bs) (sc : BS cs) (p : P) : Two mg H E rs bs cs P :=
  ⟨fun _ _ => ⟨sb, fun _ => ⟨sc, p⟩, fun z => absurd gc z⟩, fun z => absurd g z, fun _ z => absurd gb z⟩
end CB
namespace CB
open PySem PySem.Spec PyProof.Rows L2
/-! ### how often each line was raised, and what is left -/
def Rel : List Int → List Int → List Int → List Int → Int → Prop
  | r :: rs, b :: bs, l :: ls, q :: qs, c => l = b + c - r * q ∧ Rel rs bs ls qs q
  | [], [b], [l], [], c => l = b + c
  | _, _, _, _, _ => False
theorem Rel.start : ∀ (rs bs : List Int), bs.length = rs.length + 1 → Rel rs bs bs (rs.map fun _ => 0) 0
  | [], [b], _ => by show b = b + 0; omega
  | [], [], h => by cases h
  | [], _ :: _ :: _, h => by simp at h
  | _ :: _, [], h => by cases h
  | r :: rs, b :: bs, h => ⟨by show b = b + 0 - r * 0; rw [Int.mul_zero]; omega, Rel.start rs bs (by simpa using h)⟩
/-- the first line's carry may be shifted -/
theorem Rel.shift : ∀ {rs bs ls qs : List Int} {l c d : Int}, Rel rs bs (l :: ls) qs c → Rel rs bs ((l + d) :: ls) qs (c + d)
  | [], [b], ls, [], l, c, d, h => by
    cases ls with
    | nil =>
      have h' : l = b + c := h
      show l + d = b + (c + d)
      omega
    | cons x xs => exact (show False from h).elim
  | r :: rs, b :: bs, ls, q :: qs, l, c, d, h => by
    obtain ⟨h1, h2⟩ := h
    exact ⟨by omega, h2⟩
  | [], [], _, _, _, _, _, h => h.elim
  | [], _ :: _ :: _, _, _, _, _, _, h => h.elim
  | [], [_], ls, _ :: _, _, _, _, h => by cases ls <;> exact (show False from h).elim
  | _ :: _, [], _, _, _, _, _, h => h.elim
  | _ :: _, _ :: _, _, [], _, _, _, h => h.elim
theorem Rel.step : ∀ {rs bs ls qs : List Int} {c : Int} {L : Nat} (up : Bool), Rel rs bs ls qs c → L < rs.length → Rel rs bs (stepL rs ls L up) (qs.set L (qs.getD L 0 + sg up)) c
  | [], _, _, _, _, _, _, _, h => by cases h
  | _ :: _, [], _, _, _, _, _, h, _ => h.elim
  | _ :: _, _ :: _, [], _, _, _, _, h, _ => h.elim
  | _ :: _, _ :: _, _ :: _, [], _, _, _, h, _ => h.elim
  | r :: rs, b :: bs, l :: ls, q :: qs, c, 0, up, h, _ => by
    obtain ⟨h1, h2⟩ := h
    cases ls with
    | nil => cases rs with
      | nil => cases bs with
        | nil => exact h2.elim
        | cons x xs => cases xs <;> exact h2.elim
      | cons x xs => cases bs <;> exact h2.elim
    | cons l2 ls =>
      refine ⟨?_, Rel.shift h2⟩
      show l - sg up * r = b + c - r * (q + sg up)
      rw [h1, Int.mul_add, Int.mul_comm (sg up) r]
      omega
  | r :: rs, b :: bs, l :: ls, q :: qs, c, L + 1, up, h, hL => ⟨h.1, Rel.step (L := L) up h.2 (by simpa using hL)⟩
theorem Rel.is_R : ∀ {rs bs ls qs : List Int} {c : Int}, Rat rs → Rel rs bs ls qs c → (∀ x ∈ ls, 0 ≤ x) → Pl rs ls → R rs bs c = qs
  | [], [], _, _, _, _, h, _, _ => h.elim
  | [], [b], [l], [], _, _, _, _, _ => rfl
  | [], [_], [], _, _, _, h, _, _ => h.elim
  | [], [_], [_], _ :: _, _, _, h, _, _ => h.elim
  | [], [_], _ :: _ :: _, _, _, _, h, _, _ => h.elim
  | [], _ :: _ :: _, _, _, _, _, h, _, _ => h.elim
  | _ :: _, [], _, _, _, _, h, _, _ => h.elim
  | _ :: _, _ :: _, [], _, _, _, h, _, _ => h.elim
  | _ :: _, _ :: _, _ :: _, [], _, _, h, _, _ => h.elim
  | r :: rs, b :: bs, l :: ls, q :: qs, c, hr, h, h0, hp => by
    obtain ⟨h1, h2⟩ := h
    have h3 := hr.head
    have hl := h0 l List.mem_cons_self
    have e : (b + c) / r = q := by
      have : b + c = l + r * q := by omega
      rw [this, Int.add_mul_ediv_left _ _ (by omega), Int.ediv_eq_zero_of_lt hl hp.1, Int.zero_add]
    show (b + c) / r :: R rs bs ((b + c) / r) = q :: qs
    rw [e, Rel.is_R hr.tail h2 (fun x hx => h0 x (List.mem_cons_of_mem _ hx)) hp.2]
theorem Rel.net : ∀ {rs bs ls qs : List Int} {c1 c2 : Int}, Rat rs → Rel rs bs ls qs (c1 - c2) → List.zipWith (· - ·) (R rs bs c1) (R rs ls c2) = qs
  | [], [], _, _, _, _, _, h => h.elim
  | [], [b], [l], [], _, _, _, _ => rfl
  | [], [_], [], _, _, _, _, h => h.elim
  | [], [_], [_], _ :: _, _, _, _, h => h.elim
  | [], [_], _ :: _ :: _, _, _, _, _, h => h.elim
  | [], _ :: _ :: _, _, _, _, _, _, h => h.elim
  | _ :: _, [], _, _, _, _, _, h => h.elim
  | _ :: _, _ :: _, [], _, _, _, _, h => h.elim
  | _ :: _, _ :: _, _ :: _, [], _, _, _, h => h.elim
  | r :: rs, b :: bs, l :: ls, q :: qs, c1, c2, hr, h => by
    obtain ⟨h1, h2⟩ := h
    have h3 := hr.head
    have e : (l + c2) / r = (b + c1) / r - q := by
      have : l + c2 = b + c1 + r * (-q) := by rw [Int.mul_neg]; omega
      rw [this, Int.add_mul_ediv_left _ _ (by omega)]
      omega
    show ((b + c1) / r - (l + c2) / r) :: List.zipWith (· - ·) (R rs bs ((b + c1) / r)) (R rs ls ((l + c2) / r)) = q :: qs
    have e2 : (b + c1) / r - (l + c2) / r = q := by omega
    rw [e2, Rel.net hr.tail (by rw [e2]; exact h2)]
theorem Rel.qlen : ∀ {rs bs ls qs : List Int} {c : Int}, Rel rs bs ls qs c → qs.length = rs.length
  | [], [], _, _, _, h => h.elim
  | [], [b], [l], [], _, _ => rfl
  | [], [_], [], _, _, h => h.elim
  | [], [_], [_], _ :: _, _, h => h.elim
  | [], [_], _ :: _ :: _, _, _, h => h.elim
  | [], _ :: _ :: _, _, _, _, h => h.elim
  | _ :: _, [], _, _, _, h => h.elim
  | _ :: _, _ :: _, [], _, _, h => h.elim
  | _ :: _, _ :: _, _ :: _, [], _, h => h.elim
  | r :: rs, b :: bs, l :: ls, q :: qs, c, h => by
    show qs.length + 1 = rs.length + 1
    rw [Rel.qlen h.2]
theorem sum_set' : ∀ {l : List Int} {j : Nat} {y : Int}, j < l.length → (l.set j y).sum = l.sum - l.getD j 0 + y
  | [], j, y, h => by cases h
  | a :: r, 0, y, _ => by
    show (y :: r).sum = (a :: r).sum - a + y
    rw [List.sum_cons, List.sum_cons]
    omega
  | a :: r, j + 1, y, h => by
    have ih := sum_set' (l := r) (j := j) (y := y) (by simpa using h)
    show (a :: r.set j y).sum = (a :: r).sum - r.getD j 0 + y
    rw [List.sum_cons, List.sum_cons, ih]
    omega
theorem stepL_sum {rs bs : List Int} {L : Nat} {up : Bool} (h : L + 1 < bs.length) : (stepL rs bs L up).sum = bs.sum - sg up * rs.getD L 0 + sg up := by
  unfold stepL
  rw [sum_set' (by rw [List.length_set]; exact h), sum_set' (by omega)]
  have e : (bs.set L (bs.getD L 0 - sg up * rs.getD L 0)).getD (L + 1) 0 = bs.getD (L + 1) 0 := by
    rw [List.getD_eq_getElem?_getD, List.getElem?_set_ne (by omega), ← List.getD_eq_getElem?_getD]
  rw [e]
  omega
theorem sum_le {M : Int} : ∀ (bs : List Int), (∀ b ∈ bs, b ≤ M) → bs.sum ≤ M * bs.length
  | [], _ => by simp
  | b :: bs, h => by
    have h1 := h b List.mem_cons_self
    have h2 := sum_le bs fun x hx => h x (List.mem_cons_of_mem _ hx)
    rw [List.sum_cons, List.length_cons, Int.natCast_add, Int.mul_add]
    omega
theorem sum_nonneg' : ∀ (bs : List Int), (∀ b ∈ bs, 0 ≤ b) → 0 ≤ bs.sum
  | [], _ => by simp
  | b :: bs, h => by
    have h1 := h b List.mem_cons_self
    have h2 := sum_nonneg' bs fun x hx => h x (List.mem_cons_of_mem _ hx)
    rw [List.sum_cons]
    omega
end CB
namespace CB
open PySem PySem.Spec PyProof.Rows L2
/-! ### lists of pairs of a line and a sign -/
def dI (p : Int × Int) : PyData := .tuple [.int p.1, .int p.2]
theorem lay_dI (p : Int × Int) : (dI p).canLay0 = true ∧ (dI p).depth ≤ 1 := ⟨by simp [dI, PyData.canLay0, PyData.canLayAll0], by simp [dI, PyData.depth, PyData.depthAll]⟩
theorem shaped_dLI (ps : List (Int × Int)) : SeqAt.shaped (.list (ps.map dI)) = true := shaped_of (lay_list (n := 1) fun d hd => by
  obtain ⟨p, _, rfl⟩ := List.mem_map.mp hd
  exact lay_dI p) (by decide)
theorem eqv_dI (p q : Int × Int) : PyData.eqv (dI p) (dI q) = decide (p = q) := by
  obtain ⟨a, b⟩ := p
  obtain ⟨c, d⟩ := q
  unfold dI
  simp only [PyData.eqv, PyData.eqvAll, Bool.and_true]
  by_cases e1 : a = c <;> by_cases e2 : b = d <;> simp [e1, e2]
theorem eqv_dLI (xs ys : List (Int × Int)) : PyData.eqv (.list (xs.map dI)) (.list (ys.map dI)) = decide (xs = ys) := by
  simp only [PyData.eqv]
  exact eqvAll_map eqv_dI xs ys
def TI (H : Hp) (ts : List Addr) (rs ls : List Int) : Prop := ∀ t ∈ ts, ∃ (L : Nat) (up : Bool), H t = some (.tup [.int (L : Int), .int (sg up)]) ∧ L < rs.length ∧ goesB rs ls L up = true
theorem TI.same {H H' : Hp} {ts : List Addr} {rs ls : List Int} (h : TI H ts rs ls) (s : Same H H') : TI H' ts rs ls := fun t ht => by
  obtain ⟨L, up, e, r⟩ := h t ht
  exact ⟨L, up, s _ _ e, r⟩
theorem TI.data {K : PySem.W.Frag} {H : Hp} {rs ls : List Int} : ∀ {ts : List Addr}, TI H ts rs ls → ∃ ps : List (Int × Int), DpAll K H (ts.map V.ref) (ps.map dI) ∧ ps.length = ts.length
  | [], _ => ⟨[], .nil, rfl⟩
  | t :: ts, h => by
    obtain ⟨L, up, e, _⟩ := h t List.mem_cons_self
    obtain ⟨ps, h1, h2⟩ := TI.data (K := K) (ts := ts) fun x hx => h x (List.mem_cons_of_mem _ hx)
    exact ⟨((L : Int), sg up) :: ps, .cons (.tup (SqT.of e) (.cons (.int _) (.cons (.int _) .nil))) h1, by rw [List.length_cons, List.length_cons, h2]⟩
/-- one more pair at the end -/
theorem TI.more {H : Hp} {p t : Addr} {ts : List Addr} {rs ls : List Int} (L : Nat) (up : Bool) (hP : H p = some (.lst (ts.map V.ref))) (ht : TI H ts rs ls) (nt : H t = none) (hL : L < rs.length) (hg : goesB rs ls L up = true) :
    TI (upd (upd H t (.tup [.int (L : Int), .int (sg up)])) p (.lst (ts.map V.ref ++ [.ref t]))) (ts ++ [t]) rs ls := fun x hx => by
  have s1 := same_upd (o := .tup [.int (L : Int), .int (sg up)]) nt
  have dtp : p ≠ t := ne_of_none hP nt
  rcases List.mem_append.mp hx with hx | hx
  · obtain ⟨L', up', e, r⟩ := ht x hx
    refine ⟨L', up', ?_, r⟩
    rw [upd_ne (ne_of e hP (fun z => by cases z))]
    exact s1 _ _ e
  · rw [List.mem_singleton.mp hx]
    refine ⟨L, up, ?_, hL, hg⟩
    rw [upd_ne dtp.symm, upd_same]
theorem same_upd2 {H0 H : Hp} {p t : Addr} {o o' : HO} (s : Same H0 H) (n0 : H0 p = none) (nt : H t = none) : Same H0 (upd (upd H t o) p o') := fun c u z => by
  rw [upd_ne (ne_of_none z n0), upd_ne (ne_of_none (s _ _ z) nt)]
  exact s _ _ z
/-- the sum of the nets without signs moves by one -/
theorem abs_step {qs : List Int} {L : Nat} (up : Bool) (h : L < qs.length) : ∃ e : Int, (e = 1 ∨ e = -1) ∧ ((qs.set L (qs.getD L 0 + sg up)).map abs').sum = (qs.map abs').sum + e := by
  have e1 : (qs.map abs').getD L 0 = abs' (qs.getD L 0) := by
    rw [List.getD_eq_getElem?_getD, List.getElem?_map, getD_of h]
    rfl
  have e2 : ((qs.set L (qs.getD L 0 + sg up)).map abs').sum = (qs.map abs').sum - abs' (qs.getD L 0) + abs' (qs.getD L 0 + sg up) := by
    rw [List.map_set, sum_set' (by rw [List.length_map]; exact h), e1]
  refine ⟨abs' (qs.getD L 0 + sg up) - abs' (qs.getD L 0), ?_, by rw [e2]; omega⟩
  unfold abs' sg
  cases up <;> simp only [if_true, Bool.false_eq_true, if_false] <;> split <;> split <;> omega
end CB
namespace CB
open PySem PySem.Spec PyProof.Rows L2
abbrev s_asked_frame : Stmt := top 8
abbrev N_asked_frame : List Str := ["ratios", "ratio"]
theorem sc_asked_frame : FnScope N_asked_frame ["ratios"] (defScope s_asked_frame) := ⟨rfl, rfl, rfl, by decide +kernel, rfl, by decide +kernel, by decide +kernel⟩
end CB

namespace CB
open PySem PySem.Spec PyProof.Rows L2
def sp_asked_frame (K : PySem.W.Frag) (mg : Str → Option Value) : Sp := fun vs H Q E => ∃ (a : Addr) (rs : List Int), vs = [.ref a] ∧ SqL K H a (rs.map V.int) ∧
  (GF rs → Q .non H) ∧ (¬ GF rs → E (.ref (ErA mg "NoFrame")) none H)
section
variable {P : Program} {w : World} {K : PySem.W.Frag} {mg : Str → Option Value} {base : Heap}
theorem ok_asked_frame {f : Addr} {fd : FuncData} (F : Fun K "asked_frame" "asked_frame" s_asked_frame f fd) (B : Bi mg) (m_MOST : ∃ t, mg "MOST" = some (.int 11 t)) (e_NoFrame : Er K mg "NoFrame") :
    FnOk P w K mg base (L2.CX P w) 1 f fd ["ratios"] (sp_asked_frame K mg) := by
  obtain ⟨tM, m_MOST⟩ := m_MOST
  refine F.okX sc_asked_frame (fun vs H Q E h => ?_) (fun cdv A outer s H vs Q E hr h => ?_)
  · obtain ⟨a, rs, rfl, _⟩ := h
    rfl
  · obtain ⟨a, rs, rfl, hS, kG, kB⟩ := h
    have tk : Takes (cxOf (L2.CX P w) P w K mg base N_asked_frame "asked_frame" (defScope s_asked_frame) f cdv A outer s H E) (fun cls d _ H => E cls d H) := takes_of rfl rfl rfl rfl
    refine ⟨_, (pss_cons (ps_if (pt_cmpR op_gt (pe_callB call_len_seq (by rfl) B.len PySem.boot_len (pa_cons (pv 0) pa_nil)) (pe_glob (v := .int 11) (by rfl) m_MOST ⟨_, rfl⟩) (nomark _)) (pss_one (ps_raise rfl tk (pmk_own PySem.F.excBase_ValueError e_NoFrame.xP e_NoFrame.gC e_NoFrame.kP (raises_own e_NoFrame.bP e_NoFrame.tP) (by rfl)))) pss_nil)
  (pss_one (ps_for (passes_of rfl) rfl (pi_list (pv 0)) (pg_name (i := 1) sc_asked_frame.nd rfl (Or.inl rfl)) (pss_one (ps_if (pw_or (pt_cmpR op_lt (pv 1) pe_int (nomark _)) (pw_or1 (pt_cmpR op_gt (pv 1) pe_int (nomark _)))).pt (pss_one (ps_raise rfl tk (pmk_own PySem.F.excBase_ValueError e_NoFrame.xP e_NoFrame.gC e_NoFrame.kP (raises_own e_NoFrame.bP e_NoFrame.tP) (by rfl)))) pss_nil))))), ?_⟩
    refine ⟨_, rfl, a, _, rfl, .inl hS, _, _, rfl, rfl, _, rfl, ite2 (fun e => ?_) (fun e => ?_)⟩
    · refine kB fun g => ?_
      have e1 := of_decide_eq_true e
      rw [List.length_map] at e1
      have := g.1
      omega
    · have hl : rs.length ≤ 11 := by
        have e1 : ¬ (11 < ((rs.map V.int).length : Int)) := fun z => e (decide_eq_true z)
        rw [List.length_map] at e1
        omega
      refine ⟨_, rfl, a, rfl, ⟨_, hS⟩, for_list (K := K) (a := a) (xs := rs.map V.int) (fun i σ H' => ∃ v, σ = [some (.ref a), v] ∧ H' = H ∧ ∀ (j : Nat) (r : Int), j < i → rs[j]? = some r → 2 ≤ r ∧ r ≤ 12)
        ⟨none, rfl, rfl, fun j r hj => absurd hj (Nat.not_lt_zero _)⟩ (fun i σ H' _ ⟨_, _, e, _⟩ => by rw [e]; exact hS) ?_ ?_⟩
      · rintro i y σ H' hi ⟨v, rfl, rfl, hg⟩
        obtain ⟨z, hz, rfl⟩ := get_map hi
        have bad : ¬ (2 ≤ z ∧ z ≤ 12) → ¬ GF rs := fun h g => h (g.2 z (List.mem_of_getElem? hz))
        refine ⟨_, rfl, _, _, rfl, rfl, _, rfl, ite2 (fun e => ?_) (fun e => ?_)⟩
        · refine ite_t rfl (kB (bad ?_))
          have := of_decide_eq_true e
          omega
        · have h1 : ¬ z < 2 := fun q => e (decide_eq_true q)
          refine ⟨_, rfl, _, _, rfl, rfl, _, rfl, ite2 (fun e2 => ?_) (fun e2 => ?_)⟩
          · refine kB (bad ?_)
            have := of_decide_eq_true e2
            omega
          · have h2 : ¬ 12 < z := fun q => e2 (decide_eq_true q)
            refine ⟨_, rfl, rfl, fun j r hj hr => ?_⟩
            rcases Nat.lt_succ_iff_lt_or_eq.mp hj with q | q
            · exact hg j r q hr
            · subst q
              rw [hz] at hr
              cases hr
              omega
      · rintro σ H' ⟨v, rfl, rfl, hg⟩
        rw [List.length_map] at hg
        refine kG ⟨hl, fun r hr => ?_⟩
        obtain ⟨j, hj, e⟩ := List.getElem_of_mem hr
        exact hg j r hj (by rw [List.getElem?_eq_getElem hj, e])
end
end CB
namespace CB
open PySem PySem.Spec PyProof.Rows L2
abbrev s_asked_board : Stmt := top 9
abbrev N_asked_board : List Str := ["ratios", "board", "counters"]
theorem sc_asked_board : FnScope N_asked_board ["ratios", "board"] (defScope s_asked_board) := ⟨rfl, rfl, rfl, by decide +kernel, rfl, by decide +kernel, by decide +kernel⟩
end CB

namespace CB
open PySem PySem.Spec PyProof.Rows L2
def sp_asked_board (K : PySem.W.Frag) (mg : Str → Option Value) : Sp := fun vs H Q E => ∃ (a b : Addr) (rs bs : List Int), vs = [.ref a, .ref b] ∧ SqL K H a (rs.map V.int) ∧ SqL K H b (bs.map V.int) ∧
  (GF rs → GB rs bs → Q .non H) ∧ (¬ GF rs → E (.ref (ErA mg "NoFrame")) none H) ∧ (GF rs → ¬ GB rs bs → E (.ref (ErA mg "NoBoard")) none H)
section
variable {P : Program} {w : World} {K : PySem.W.Frag} {mg : Str → Option Value} {base : Heap}
theorem ok_asked_board {f : Addr} {fd : FuncData} (F : Fun K "asked_board" "asked_board" s_asked_board f fd) (B : Bi mg) (e_NoBoard : Er K mg "NoBoard") (c_asked_frame : Callee P w K mg base 1 "asked_frame" ["ratios"] (sp_asked_frame K mg)) :
    FnOk P w K mg base (L2.CX P w) 2 f fd ["ratios", "board"] (sp_asked_board K mg) := by
  refine F.okX sc_asked_board (fun vs H Q E h => ?_) (fun cdv A outer s H vs Q E hr h => ?_)
  · obtain ⟨a, b, rs, bs, rfl, _⟩ := h
    rfl
  · obtain ⟨a, b, rs, bs, rfl, hA, hB, kG, kF, kB⟩ := h
    have tk : Takes (cxOf (L2.CX P w) P w K mg base N_asked_board "asked_board" (defScope s_asked_board) f cdv A outer s H E) (fun cls d _ H => E cls d H) := takes_of rfl rfl rfl rfl
    refine ⟨_, (pss_cons (ps_expr (pe_f c_asked_frame hr (by decide) tk (pa_cons (pv 0) pa_nil)))
  (pss_cons (ps_if (pt_cmpR op_ne (pe_callB call_len_seq (by rfl) B.len PySem.boot_len (pa_cons (pv 1) pa_nil)) (pe_op op_add (pe_callB call_len_seq (by rfl) B.len PySem.boot_len (pa_cons (pv 0) pa_nil)) pe_int) (nomark _)) (pss_one (ps_raise rfl tk (pmk_own PySem.F.excBase_ValueError e_NoBoard.xP e_NoBoard.gC e_NoBoard.kP (raises_own e_NoBoard.bP e_NoBoard.tP) (by rfl)))) pss_nil)
  (pss_one (ps_for (passes_of rfl) rfl (pi_list (pv 1)) (pg_name (i := 2) sc_asked_board.nd rfl (Or.inl rfl)) (pss_one (ps_if (pt_cmpR op_lt (pv 2) pe_int (nomark _)) (pss_one (ps_raise rfl tk (pmk_own PySem.F.excBase_ValueError e_NoBoard.xP e_NoBoard.gC e_NoBoard.kP (raises_own e_NoBoard.bP e_NoBoard.tP) (by rfl)))) pss_nil)))))), ?_⟩
    refine ⟨_, rfl, a, rs, rfl, hA, fun g => ?_, kF⟩
    refine ⟨_, rfl, b, _, rfl, .inl hB, _, rfl, a, _, rfl, .inl hA, _, _, rfl, rfl, rfl, _, rfl, ?_⟩
    rw [List.length_map, List.length_map]
    by_cases hl : bs.length = rs.length + 1
    · refine ite_f (by simp [hl]) ?_
      refine ⟨_, rfl, b, rfl, ⟨_, hB⟩, for_list (K := K) (a := b) (xs := bs.map V.int) (fun i σ H' => ∃ v, σ = [some (.ref a), some (.ref b), v] ∧ H' = H ∧ ∀ (j : Nat) (r : Int), j < i → bs[j]? = some r → 0 ≤ r)
        ⟨none, rfl, rfl, fun j r hj => absurd hj (Nat.not_lt_zero _)⟩ (fun i σ H' _ ⟨_, _, e, _⟩ => by rw [e]; exact hB) ?_ ?_⟩
      · rintro i y σ H' hi ⟨v, rfl, rfl, hg⟩
        obtain ⟨z, hz, rfl⟩ := get_map hi
        refine ⟨_, rfl, _, _, rfl, rfl, _, rfl, ite2 (fun e => ?_) (fun e => ?_)⟩
        · refine kB g fun q => ?_
          have h1 := q.2 z (List.mem_of_getElem? hz)
          have := of_decide_eq_true e
          omega
        · have h1 : ¬ z < 0 := fun q => e (decide_eq_true q)
          refine ⟨_, rfl, rfl, fun j r hj hr => ?_⟩
          rcases Nat.lt_succ_iff_lt_or_eq.mp hj with q | q
          · exact hg j r q hr
          · subst q
            rw [hz] at hr
            cases hr
            omega
      · rintro σ H' ⟨v, rfl, rfl, hg⟩
        rw [List.length_map] at hg
        refine kG g ⟨hl, fun r hr => ?_⟩
        obtain ⟨j, hj, e⟩ := List.getElem_of_mem hr
        exact hg j r hj (by rw [List.getElem?_eq_getElem hj, e])
    · refine ite_t ?_ (kB g fun q => hl q.1)
      have : ¬ ((bs.length : Int) = (rs.length : Int) + 1) := by omega
      simp [this]
end
end CB
namespace CB
open PySem PySem.Spec PyProof.Rows L2
abbrev s_worths : Stmt := top 10
abbrev N_worths : List Str := ["ratios", "found", "ratio"]
theorem sc_worths : FnScope N_worths ["ratios"] (defScope s_worths) := ⟨rfl, rfl, rfl, by decide +kernel, rfl, by decide +kernel, by decide +kernel⟩
end CB

namespace CB
open PySem PySem.Spec PyProof.Rows L2
def sp_worths (K : PySem.W.Frag) (mg : Str → Option Value) : Sp := fun vs H Q E => ∃ (a : Addr) (rs : List Int), vs = [.ref a] ∧ SqL K H a (rs.map V.int) ∧
  (GF rs → TellL H Q ((worthsL rs).map V.int)) ∧ (¬ GF rs → E (.ref (ErA mg "NoFrame")) none H)
theorem worths_take (rs : List Int) (i : Nat) (h : i ≤ rs.length) : worthsL (rs.take i) = (List.range i).map (fun k => prodL (rs.take k)) ++ [prodL (rs.take i)] := by
  unfold worthsL
  rw [List.length_take, Nat.min_eq_left h, List.range_succ, List.map_append]
  congr 1
  · refine List.map_congr_left fun k hk => ?_
    rw [List.take_take, Nat.min_eq_left (Nat.le_of_lt (List.mem_range.mp hk))]
  · rw [List.map_singleton, List.take_take, Nat.min_self]
theorem worths_more (rs : List Int) (i : Nat) (r : Int) (h : rs[i]? = some r) : worthsL (rs.take (i + 1)) = worthsL (rs.take i) ++ [prodL (rs.take i) * r] := by
  obtain ⟨hi, _⟩ := List.getElem?_eq_some_iff.mp h
  rw [worths_take rs (i + 1) hi, worths_take rs i (Nat.le_of_lt hi), List.range_succ, List.map_append, List.map_singleton, take_more h, prodL_snoc]
theorem worths_len (rs : List Int) : (worthsL rs).length = rs.length + 1 := by
  unfold worthsL
  rw [List.length_map, List.length_range]
section
variable {P : Program} {w : World} {K : PySem.W.Frag} {mg : Str → Option Value} {base : Heap}
theorem ok_worths {f : Addr} {fd : FuncData} (F : Fun K "worths" "worths" s_worths f fd) (B : Bi mg) (c_asked_frame : Callee P w K mg base 1 "asked_frame" ["ratios"] (sp_asked_frame K mg)) :
    FnOk P w K mg base (L2.CX P w) 2 f fd ["ratios"] (sp_worths K mg) := by
  refine F.okX sc_worths (fun vs H Q E h => ?_) (fun cdv A outer s H vs Q E hr h => ?_)
  · obtain ⟨a, rs, rfl, _⟩ := h
    rfl
  · obtain ⟨a, rs, rfl, hS, kG, kB⟩ := h
    have tk : Takes (cxOf (L2.CX P w) P w K mg base N_worths "worths" (defScope s_worths) f cdv A outer s H E) (fun cls d _ H => E cls d H) := takes_of rfl rfl rfl rfl
    refine ⟨_, (pss_cons (ps_expr (pe_f c_asked_frame hr (by decide) tk (pa_cons (pv 0) pa_nil)))
  (pss_cons (ps_set (i := 1) sc_worths.nd rfl (Or.inl rfl) (pe_lst (pa_cons pe_int pa_nil)))
  (pss_cons (ps_for (passes_of rfl) rfl (pi_list (pv 0)) (pg_name (i := 2) sc_worths.nd rfl (Or.inl rfl)) (pss_one (ps_expr (pe_bm PySem.F.plainAttrs_list PySem.F.slot_list_append PySem.F.type_list_append mt_append (pv 1) (pa_cons (pe_op op_mulW (pe_ix ix_list (pv 1) (pe_un un_neg pe_int) (fun _ _ => rfl)) (pv 2)) pa_nil)))))
  (pss_one (ps_ret (pv 1)))))), ?_⟩
    refine ⟨.ref a, rfl, a, rs, rfl, hS, fun g => ?_, kB⟩
    refine ⟨by show 1 ≤ sizeLine; decide, fun p hp => ?_⟩
    have hpa : SqL K (upd H p (.lst [.int 1])) a (rs.map V.int) := (same_upd hp).seq hS
    refine ⟨_, rfl, a, rfl, ⟨_, hpa⟩, for_list (K := K) (a := a) (xs := rs.map V.int) (fun i σ H' => ∃ v, σ = [some (.ref a), some (.ref p), v] ∧ Same H H' ∧ H' p = some (.lst ((worthsL (rs.take i)).map V.int)))
        ⟨none, rfl, same_upd hp, upd_same⟩ (fun i σ H' _ ⟨_, _, e, _⟩ => e.seq hS) ?_ ?_⟩
    · rintro i y σ H' hi ⟨v, rfl, sm, hp'⟩
      obtain ⟨z, hz, rfl⟩ := get_map hi
      obtain ⟨hil, _⟩ := List.getElem?_eq_some_iff.mp hz
      have hil' : i ≤ 11 := by have := g.1; omega
      have e1 : (worthsL (rs.take i)).map V.int = ((List.range i).map (fun k => prodL (rs.take k))).map V.int ++ [.int (prodL (rs.take i))] := by
        rw [worths_take rs i (Nat.le_of_lt hil), List.map_append]
        all_goals rfl
      have gz := g.2 z (List.mem_of_getElem? hz)
      have gp := prodL_lt (l := rs.take i) (fun r hr => g.2 r (List.mem_of_mem_take hr)) (by rw [List.length_take]; omega)
      refine ⟨_, rfl, .inl ⟨rfl, _, SqL.of hp'⟩, _, rfl, _, rfl, p, _, -1, .int (prodL (rs.take i)), rfl, rfl, SqL.of hp', by rw [e1]; exact atI_last _ _, .int z, rfl, _, _, rfl, rfl, ?_, p, _, _, rfl, rfl, hp', ?_, ?_⟩
      · exact wide_mul (a := 40) (b := 40) (abs_lt_pow (by omega) gp.2) (abs_lt_pow (by omega) (by omega)) (by decide) (by decide) (by decide)
      · rw [List.length_map, worths_len, List.length_take]
        exact small64 (by omega)
      · refine ⟨some (.int z), rfl, fun b o e => ?_, ?_⟩
        · rw [upd_ne (ne_of_none e hp)]
          exact sm b o e
        · rw [upd_same, worths_more rs i z hz, List.map_append]
          all_goals rfl
    · rintro σ H' ⟨v, rfl, sm, hp'⟩
      rw [List.length_map, List.take_length] at hp'
      exact ⟨_, rfl, kG g H' p sm hp hp'⟩
end
end CB
namespace CB
open PySem PySem.Spec PyProof.Rows L2
abbrev s_worth : Stmt := top 11
abbrev N_worth : List Str := ["ratios", "board", "counters", "one"]
theorem sc_worth : FnScope N_worth ["ratios", "board"] (defScope s_worth) := ⟨rfl, rfl, rfl, by decide +kernel, rfl, by decide +kernel, by decide +kernel⟩
end CB

namespace CB
open PySem PySem.Spec PyProof.Rows L2
def sp_worth (K : PySem.W.Frag) (mg : Str → Option Value) : Sp := fun vs H Q E => ∃ (a b : Addr) (rs bs : List Int), vs = [.ref a, .ref b] ∧ SqL K H a (rs.map V.int) ∧ SqL K H b (bs.map V.int) ∧
  (GF rs → GB rs bs → BS bs ∧ TellV H Q (.int (W rs bs))) ∧ (¬ GF rs → E (.ref (ErA mg "NoFrame")) none H) ∧ (GF rs → ¬ GB rs bs → E (.ref (ErA mg "NoBoard")) none H)
section
variable {P : Program} {w : World} {K : PySem.W.Frag} {mg : Str → Option Value} {base : Heap}
theorem ok_worth {f : Addr} {fd : FuncData} (F : Fun K "worth" "worth" s_worth f fd) (B : Bi mg) (c_asked_board : Callee P w K mg base 2 "asked_board" ["ratios", "board"] (sp_asked_board K mg))
    (c_worths : Callee P w K mg base 2 "worths" ["ratios"] (sp_worths K mg)) :
    FnOk P w K mg base (L2.CX P w) 3 f fd ["ratios", "board"] (sp_worth K mg) := by
  refine F.okX sc_worth (fun vs H Q E h => ?_) (fun cdv A outer s H vs Q E hr h => ?_)
  · obtain ⟨a, b, rs, bs, rfl, _⟩ := h
    rfl
  · obtain ⟨a, b, rs, bs, rfl, hA, hB, kG, kF, kB⟩ := h
    have tk : Takes (cxOf (L2.CX P w) P w K mg base N_worth "worth" (defScope s_worth) f cdv A outer s H E) (fun cls d _ H => E cls d H) := takes_of rfl rfl rfl rfl
    refine ⟨_, (pss_cons (ps_expr (pe_f c_asked_board hr (by decide) tk (pa_cons (pv 0) (pa_cons (pv 1) pa_nil))))
  (pss_one (ps_ret (pe_callB (cr_sum rfl) (by rfl) B.sum (by decide +kernel) (pa_cons (pe_lc (own := [("counters", 2), ("one", 3)]) (g := gTup K 2 (gCons (gName 2) (gCons (gName 3) gNil))) (tt := tYes) rfl sc_worth.nd (pi_zip (by rfl) B.zip (pa_cons (pv 1) (pa_cons (pe_f c_worths hr (by decide) tk (pa_cons (pv 0) pa_nil)) pa_nil))) (blkOk_by (own := [("counters", 2), ("one", 3)]) (N := N_worth) (sc := defScope s_worth) (by decide +kernel)) (fun _ _ _ _ _ => pg_tup rfl (pgs_cons (pg_name (i := 2) sc_worth.nd rfl (Or.inl rfl)) (pgs_cons (pg_name (i := 3) sc_worth.nd rfl (Or.inl rfl)) pgs_nil))) (fun _ _ _ _ _ => pts_nil) (fun _ _ _ _ _ => (pe_op op_mulW (pv 2) (pv 3)))) pa_nil))))), ?_⟩
    refine ⟨_, rfl, _, rfl, a, b, rs, bs, rfl, hA, hB, fun g gb => ?_, kF, kB⟩
    obtain ⟨hs, k⟩ := kG g gb
    refine ⟨_, rfl, _, rfl, a, rs, rfl, hA, fun _ H1 p s1 n1 e1 => ?_, fun z => absurd g z⟩
    refine ⟨b, p, _, _, rfl, s1.seq hB, SqL.of e1, fun T hT => ?_⟩
    have hlen : bs.length = rs.length + 1 := gb.1
    have hl : (List.zipWith (· * ·) bs (worthsL rs)).length = rs.length + 1 := by rw [List.length_zipWith, worths_len]; omega
    refine lc_zip (K := K) (rs.length + 1) (by rw [List.length_map, List.length_map, worths_len]; omega) (Gr H1 T ((List.zipWith (· * ·) bs (worthsL rs)).map V.int)) (Gr.zero _ hT) (fun i H' gr => ⟨gr.1.seq (s1.seq hB), gr.1.seq (SqL.of e1)⟩) ?_ ?_
    · rintro i x y T' H' hx hy gr nT
      obtain ⟨z, hz, rfl⟩ := get_map hx
      obtain ⟨o, ho, rfl⟩ := get_map hy
      refine ⟨T', _, rfl, SqT.of upd_same, rfl, _, _, rfl, _, _, rfl, rfl, rfl, ?_⟩
      have ho' : ∃ k, k < rs.length + 1 ∧ o = prodL (rs.take k) := by
        have hm := List.mem_of_getElem? ho
        unfold worthsL at hm
        obtain ⟨k, hk, e⟩ := List.mem_map.mp hm
        exact ⟨k, List.mem_range.mp hk, e.symm⟩
      obtain ⟨k', hk', rfl⟩ := ho'
      have gp := prodL_lt (l := rs.take k') (fun r hr => g.2 r (List.mem_of_mem_take hr)) (by rw [List.length_take]; have := g.1; omega)
      have hz0 := gb.2 z (List.mem_of_getElem? hz)
      have hz1 := hs z (List.mem_of_getElem? hz)
      refine ⟨_, rfl, _, rfl, _, _, rfl, rfl, wide_mul (a := 200) (b := 40) (abs_lt_pow hz0 hz1) (abs_lt_pow (by omega) gp.2) (by decide) (by decide) (by decide), ?_⟩
      refine ⟨_, gr.step hT (by rw [List.length_map, hl]; have := g.1; omega) (map_get (z := z * prodL (rs.take k')) ?_) (same_upd nT)⟩
      rw [List.getElem?_zipWith, hz, ho]
    · intro H' gr
      refine ⟨T, _, rfl, SqL.of (gr.done (by rw [List.length_map, hl]; exact Nat.le_refl _)), ?_⟩
      rw [W_sum rs bs hlen]
      refine k H' fun b' o' e' => gr.1 _ _ (s1 _ _ e')
end
end CB
namespace CB
open PySem PySem.Spec PyProof.Rows L2
abbrev s_raisings : Stmt := top 13
abbrev N_raisings : List Str := ["ratios", "board", "found", "come", "counters", "ratio"]
theorem sc_raisings : FnScope N_raisings ["ratios", "board"] (defScope s_raisings) := ⟨rfl, rfl, rfl, by decide +kernel, rfl, by decide +kernel, by decide +kernel⟩
end CB

namespace CB
open PySem PySem.Spec PyProof.Rows L2
def sp_raisings (K : PySem.W.Frag) (mg : Str → Option Value) : Sp := fun vs H Q E => ∃ (a b : Addr) (rs bs : List Int), vs = [.ref a, .ref b] ∧ SqL K H a (rs.map V.int) ∧ SqL K H b (bs.map V.int) ∧
  (GF rs → GB rs bs → TellL H Q ((R rs bs 0).map V.int)) ∧ (¬ GF rs → E (.ref (ErA mg "NoFrame")) none H) ∧ (GF rs → ¬ GB rs bs → E (.ref (ErA mg "NoBoard")) none H)
section
variable {P : Program} {w : World} {K : PySem.W.Frag} {mg : Str → Option Value} {base : Heap}
theorem ok_raisings {f : Addr} {fd : FuncData} (F : Fun K "raisings" "raisings" s_raisings f fd) (B : Bi mg) (c_asked_board : Callee P w K mg base 2 "asked_board" ["ratios", "board"] (sp_asked_board K mg)) :
    FnOk P w K mg base (L2.CX P w) 3 f fd ["ratios", "board"] (sp_raisings K mg) := by
  refine F.okX sc_raisings (fun vs H Q E h => ?_) (fun cdv A outer s H vs Q E hr h => ?_)
  · obtain ⟨a, b, rs, bs, rfl, _⟩ := h
    rfl
  · obtain ⟨a, b, rs, bs, rfl, hA, hB, kG, kF, kB⟩ := h
    have tk : Takes (cxOf (L2.CX P w) P w K mg base N_raisings "raisings" (defScope s_raisings) f cdv A outer s H E) (fun cls d _ H => E cls d H) := takes_of rfl rfl rfl rfl
    refine ⟨_, (pss_cons (ps_expr (pe_f c_asked_board hr (by decide) tk (pa_cons (pv 0) (pa_cons (pv 1) pa_nil))))
  (pss_cons (ps_set (i := 2) sc_raisings.nd rfl (Or.inl rfl) (pe_lst pa_nil))
  (pss_cons (ps_set (i := 3) sc_raisings.nd rfl (Or.inl rfl) pe_int)
  (pss_cons (ps_for (passes_of rfl) rfl (pi_zip (by rfl) B.zip (pa_cons (pv 1) (pa_cons (pv 0) pa_nil))) (pg_tup rfl (pgs_cons (pg_name (i := 4) sc_raisings.nd rfl (Or.inl rfl)) (pgs_cons (pg_name (i := 5) sc_raisings.nd rfl (Or.inl rfl)) pgs_nil))) (pss_cons (ps_set (i := 3) sc_raisings.nd rfl (Or.inl rfl) (pe_op op_fdiv (pe_op op_add (pv 4) (pv 3)) (pv 5)))
  (pss_one (ps_expr (pe_bm PySem.F.plainAttrs_list PySem.F.slot_list_append PySem.F.type_list_append mt_append (pv 2) (pa_cons (pv 3) pa_nil))))))
  (pss_one (ps_ret (pv 2))))))), ?_⟩
    refine ⟨_, rfl, _, rfl, a, b, rs, bs, rfl, hA, hB, fun g gb => ?_, kF, kB⟩
    have k := kG g gb
    have hn := gb.1
    refine ⟨by show 0 ≤ sizeLine; decide, fun p hp => ?_⟩
    have hlen : ((R rs bs 0).map V.int).length ≤ 100000 := by rw [List.length_map, R_len rs bs 0 hn]; have := g.1; omega
    refine ⟨_, rfl, _, rfl, b, a, _, _, rfl, (same_upd hp).seq hB, (same_upd hp).seq hA, for_zip (K := K) (a := b) (b := a) rs.length (by rw [List.length_map, List.length_map]; omega)
      (fun i σ H' => ∃ v u c, σ = [some (.ref a), some (.ref b), some (.ref p), some (.int c), v, u] ∧ Gr H p ((R rs bs 0).map V.int) i H' ∧ ∃ l, R rs bs 0 = l ++ R (rs.drop i) (bs.drop i) c ∧ l.length = i)
        ⟨none, none, 0, rfl, Gr.zero _ hp, [], rfl, rfl⟩ (fun i σ H' ⟨_, _, _, _, gr, _⟩ => ⟨gr.1.seq hB, gr.1.seq hA⟩) ?_ ?_⟩
    · rintro i x y T σ H' hx hy ⟨v, u, c, rfl, gr, l, e1, e2⟩ nT
      obtain ⟨x, hxx, rfl⟩ := get_map hx
      obtain ⟨z, hz, rfl⟩ := get_map hy
      have gz := g.2 z (List.mem_of_getElem? hz)
      have e3 : rs.drop i = z :: rs.drop (i + 1) := by
        obtain ⟨hl, e⟩ := List.getElem?_eq_some_iff.mp hz
        rw [List.drop_eq_getElem_cons hl, e]
      have e3' : bs.drop i = x :: bs.drop (i + 1) := by
        obtain ⟨hl, e⟩ := List.getElem?_eq_some_iff.mp hxx
        rw [List.drop_eq_getElem_cons hl, e]
      rw [e3, e3'] at e1
      have e4 : ((R rs bs 0).map V.int)[i]? = some (.int ((x + c) / z)) := by
        refine map_get ?_
        rw [e1, List.getElem?_append_right (by omega), e2, Nat.sub_self]
        rfl
      have st := gr.step hp hlen e4 (same_upd (o := .tup [V.int x, V.int z]) nT)
      refine ⟨T, _, rfl, SqT.of upd_same, rfl, _, _, rfl, _, _, rfl, rfl, ?_⟩
      refine ⟨_, rfl, _, rfl, _, _, rfl, rfl, _, rfl, _, _, rfl, rfl, ⟨by omega, by omega⟩, ?_⟩
      refine ⟨_, rfl, .inl ⟨rfl, _, SqL.of st.1⟩, _, rfl, p, _, _, rfl, rfl, st.1, st.2.1, ?_⟩
      refine ⟨_, _, _, rfl, st.2.2, l ++ [(x + c) / z], ?_, by rw [List.length_append, e2]; rfl⟩
      rw [e1, List.append_assoc]
      rfl
    · rintro σ H' ⟨v, u, c, rfl, gr, l, e1, e2⟩
      exact ⟨_, rfl, k _ p gr.1 hp (gr.done (by rw [List.length_map, R_len rs bs 0 hn]; exact Nat.le_refl _))⟩
end
end CB
namespace CB
open PySem PySem.Spec PyProof.Rows L2
abbrev s_net : Stmt := top 16
abbrev N_net : List Str := ["ratios", "one", "other", "mine", "theirs"]
theorem sc_net : FnScope N_net ["ratios", "one", "other"] (defScope s_net) := ⟨rfl, rfl, rfl, by decide +kernel, rfl, by decide +kernel, by decide +kernel⟩
end CB

namespace CB
open PySem PySem.Spec PyProof.Rows L2
def sp_net (K : PySem.W.Frag) (mg : Str → Option Value) : Sp := fun vs H Q E => ∃ (a b c : Addr) (rs bs cs : List Int), vs = [.ref a, .ref b, .ref c] ∧ SqL K H a (rs.map V.int) ∧ SqL K H b (bs.map V.int) ∧ SqL K H c (cs.map V.int) ∧
  Two mg H E rs bs cs ((W rs bs = W rs cs → TellL H Q ((N rs bs cs).map V.int)) ∧ (W rs bs ≠ W rs cs → Raise mg "NoWay" H E))
section
variable {P : Program} {w : World} {K : PySem.W.Frag} {mg : Str → Option Value} {base : Heap}
theorem ok_net {f : Addr} {fd : FuncData} (F : Fun K "net" "net" s_net f fd) (B : Bi mg) (e_NoWay : Er K mg "NoWay") (c_worth : Callee P w K mg base 3 "worth" ["ratios", "board"] (sp_worth K mg))
    (c_raisings : Callee P w K mg base 3 "raisings" ["ratios", "board"] (sp_raisings K mg)) :
    FnOk P w K mg base (L2.CX P w) 4 f fd ["ratios", "one", "other"] (sp_net K mg) := by
  refine F.okX sc_net (fun vs H Q E h => ?_) (fun cdv A outer s H vs Q E hr h => ?_)
  · obtain ⟨a, b, c, rs, bs, cs, rfl, _⟩ := h
    rfl
  · obtain ⟨a, b, c, rs, bs, cs, rfl, hA, hB, hC, k, kF, kB⟩ := h
    have tk : Takes (cxOf (L2.CX P w) P w K mg base N_net "net" (defScope s_net) f cdv A outer s H E) (fun cls d _ H => E cls d H) := takes_of rfl rfl rfl rfl
    refine ⟨_, (pss_cons (ps_if (pt_cmpR op_ne (pe_f c_worth hr (by decide) tk (pa_cons (pv 0) (pa_cons (pv 1) pa_nil))) (pe_f c_worth hr (by decide) tk (pa_cons (pv 0) (pa_cons (pv 2) pa_nil))) (nomark _)) (pss_one (ps_raise rfl tk (pmk_own PySem.F.excBase_ValueError e_NoWay.xP e_NoWay.gC e_NoWay.kP (raises_own e_NoWay.bP e_NoWay.tP) (by rfl)))) pss_nil)
  (pss_one (ps_ret (pe_lc (own := [("mine", 3), ("theirs", 4)]) (g := gTup K 2 (gCons (gName 3) (gCons (gName 4) gNil))) (tt := tYes) rfl sc_net.nd (pi_zip (by rfl) B.zip (pa_cons (pe_f c_raisings hr (by decide) tk (pa_cons (pv 0) (pa_cons (pv 1) pa_nil))) (pa_cons (pe_f c_raisings hr (by decide) tk (pa_cons (pv 0) (pa_cons (pv 2) pa_nil))) pa_nil))) (blkOk_by (own := [("mine", 3), ("theirs", 4)]) (N := N_net) (sc := defScope s_net) (by decide +kernel)) (fun _ _ _ _ _ => pg_tup rfl (pgs_cons (pg_name (i := 3) sc_net.nd rfl (Or.inl rfl)) (pgs_cons (pg_name (i := 4) sc_net.nd rfl (Or.inl rfl)) pgs_nil))) (fun _ _ _ _ _ => pts_nil) (fun _ _ _ _ _ => (pe_op op_sub (pv 3) (pv 4))))))), ?_⟩
    refine ⟨_, rfl, _, rfl, a, b, rs, bs, rfl, hA, hB, fun g gb => ?_, kF, kB⟩
    obtain ⟨sb, k1, k2⟩ := k g gb
    refine ⟨sb, fun H1 s1 => ?_⟩
    refine ⟨_, rfl, _, rfl, a, c, rs, cs, rfl, s1.seq hA, s1.seq hC, fun _ gc => ?_, fun z => absurd g z, fun _ z => k2 z H1 s1⟩
    obtain ⟨sc, k3, k4⟩ := k1 gc
    refine ⟨sc, fun H2 s2 => ?_⟩
    have s02 := s1.trans s2
    refine ⟨rfl, _, rfl, ?_⟩
    by_cases hw : W rs bs = W rs cs
    · refine ite_f (by simp [hw]) ?_
      have kk := k3 hw
      refine ⟨_, rfl, _, rfl, a, b, rs, bs, rfl, s02.seq hA, s02.seq hB, fun _ _ H3 p3 s3 n3 e3 => ?_, fun z => absurd g z, fun _ z => absurd gb z⟩
      have s03 := s02.trans s3
      refine ⟨_, rfl, _, rfl, a, c, rs, cs, rfl, s03.seq hA, s03.seq hC, fun _ _ H4 p4 s4 n4 e4 => ?_, fun z => absurd g z, fun _ z => absurd gc z⟩
      have s04 := s03.trans s4
      have f3 := s4 _ _ e3
      refine ⟨p3, p4, _, _, rfl, SqL.of f3, SqL.of e4, fun T hT => ?_⟩
      have l1 := R_len rs bs 0 gb.1
      have l2 := R_len rs cs 0 gc.1
      have hl := N_len gb.1 gc.1
      refine lc_zip (K := K) rs.length (by rw [List.length_map, List.length_map]; omega) (Gr H4 T ((N rs bs cs).map V.int)) (Gr.zero _ hT) (fun i H' gr => ⟨gr.1.seq (SqL.of f3), gr.1.seq (SqL.of e4)⟩) ?_ ?_
      · rintro i x y T' H' hx hy gr nT
        obtain ⟨z, hz, rfl⟩ := get_map hx
        obtain ⟨o, ho, rfl⟩ := get_map hy
        refine ⟨T', _, rfl, SqT.of upd_same, rfl, _, _, rfl, _, _, rfl, rfl, rfl, ?_⟩
        refine ⟨_, rfl, _, rfl, _, _, rfl, rfl, ?_⟩
        refine ⟨_, gr.step hT (by rw [List.length_map, hl]; have := g.1; omega) (map_get (z := z - o) ?_) (same_upd nT)⟩
        unfold N
        rw [List.getElem?_zipWith, hz, ho]
      · intro H' gr
        exact kk H' T (s04.trans gr.1) (s04.free hT) (gr.done (by rw [List.length_map, hl]; exact Nat.le_refl _))
    · exact ite_t (by simp [hw]) (k4 hw H2 s02)
end
end CB
namespace CB
open PySem PySem.Spec PyProof.Rows L2
abbrev s_fewest : Stmt := top 17
abbrev N_fewest : List Str := ["ratios", "one", "other", "number"]
theorem sc_fewest : FnScope N_fewest ["ratios", "one", "other"] (defScope s_fewest) := ⟨rfl, rfl, rfl, by decide +kernel, rfl, by decide +kernel, by decide +kernel⟩
end CB

namespace CB
open PySem PySem.Spec PyProof.Rows L2
def sp_fewest (K : PySem.W.Frag) (mg : Str → Option Value) : Sp := fun vs H Q E => ∃ (a b c : Addr) (rs bs cs : List Int), vs = [.ref a, .ref b, .ref c] ∧ SqL K H a (rs.map V.int) ∧ SqL K H b (bs.map V.int) ∧ SqL K H c (cs.map V.int) ∧
  Two mg H E rs bs cs ((W rs bs = W rs cs → TellV H Q (.int (Nabs rs bs cs))) ∧ (W rs bs ≠ W rs cs → Raise mg "NoWay" H E))
section
variable {P : Program} {w : World} {K : PySem.W.Frag} {mg : Str → Option Value} {base : Heap}
theorem ok_fewest {f : Addr} {fd : FuncData} (F : Fun K "fewest" "fewest" s_fewest f fd) (B : Bi mg) (c_net : Callee P w K mg base 4 "net" ["ratios", "one", "other"] (sp_net K mg)) :
    FnOk P w K mg base (L2.CX P w) 5 f fd ["ratios", "one", "other"] (sp_fewest K mg) := by
  refine F.okX sc_fewest (fun vs H Q E h => ?_) (fun cdv A outer s H vs Q E hr h => ?_)
  · obtain ⟨a, b, c, rs, bs, cs, rfl, _⟩ := h
    rfl
  · obtain ⟨a, b, c, rs, bs, cs, rfl, hA, hB, hC, k, kF, kB⟩ := h
    have tk : Takes (cxOf (L2.CX P w) P w K mg base N_fewest "fewest" (defScope s_fewest) f cdv A outer s H E) (fun cls d _ H => E cls d H) := takes_of rfl rfl rfl rfl
    refine ⟨_, (pss_one (ps_ret (pe_callB (cr_sum rfl) (by rfl) B.sum (by decide +kernel) (pa_cons (pe_lc (own := [("number", 3)]) (g := gName 3) (tt := tYes) rfl sc_fewest.nd (pi_list (pe_f c_net hr (by decide) tk (pa_cons (pv 0) (pa_cons (pv 1) (pa_cons (pv 2) pa_nil))))) (blkOk_by (own := [("number", 3)]) (N := N_fewest) (sc := defScope s_fewest) (by decide +kernel)) (fun _ _ _ _ _ => pg_name (i := 3) sc_fewest.nd rfl (Or.inl rfl)) (fun _ _ _ _ _ => pts_nil) (fun _ _ _ _ _ => (pe_callB call_abs (by rfl) B.abs (by decide +kernel) (pa_cons (pv 3) pa_nil)))) pa_nil)))), ?_⟩
    refine ⟨_, rfl, _, rfl, _, rfl, a, b, c, rs, bs, cs, rfl, hA, hB, hC, fun g gb => ⟨(k g gb).1, fun gc => ⟨((k g gb).2.1 gc).1, fun hw H1 p1 s1 n1 e1 => ?_, ((k g gb).2.1 gc).2.2⟩, (k g gb).2.2⟩, kF, kB⟩
    have kk := ((k g gb).2.1 gc).2.1 hw
    have hl := N_len gb.1 gc.1
    have g11 := g.1
    refine ⟨p1, rfl, ⟨_, SqL.of e1⟩, fun T hT => ?_⟩
    refine lc_list (K := K) (a := p1) (xs := (N rs bs cs).map V.int) (Gr H1 T (((N rs bs cs).map abs').map V.int)) (Gr.zero _ hT) (fun i H' _ gr => gr.1.seq (SqL.of e1)) ?_ ?_
    · rintro i x H' hx gr
      obtain ⟨z, hz, rfl⟩ := get_map hx
      refine ⟨rfl, _, rfl, z, rfl, _, gr.step hT (by rw [List.length_map, List.length_map]; omega) (map_get (z := abs' z) ?_) (Same.refl _)⟩
      rw [List.getElem?_map, hz]
      rfl
    · intro H' gr
      refine ⟨T, _, rfl, SqL.of (gr.done (by rw [List.length_map, List.length_map, List.length_map]; exact Nat.le_refl _)), ?_⟩
      exact kk H' (s1.trans gr.1)
end
end CB
namespace CB
open PySem PySem.Spec PyProof.Rows L2
abbrev s_way : Stmt := top 18
abbrev N_way : List Str := ["ratios", "one", "other", "nets", "found", "line", "k"]
theorem sc_way : FnScope N_way ["ratios", "one", "other"] (defScope s_way) := ⟨rfl, rfl, rfl, by decide +kernel, rfl, by decide +kernel, by decide +kernel⟩
end CB

namespace CB
open PySem PySem.Spec PyProof.Rows L2
def sp_way (K : PySem.W.Frag) (mg : Str → Option Value) : Sp := fun vs H Q E => ∃ (a b c : Addr) (rs bs cs : List Int), vs = [.ref a, .ref b, .ref c] ∧ SqL K H a (rs.map V.int) ∧ SqL K H b (bs.map V.int) ∧ SqL K H c (cs.map V.int) ∧
  Two mg H E rs bs cs ((W rs bs = W rs cs → (Nabs rs bs cs ≤ 2000 → TellT H Q (wayL (N rs bs cs))) ∧ (2000 < Nabs rs bs cs → Raise mg "TooLong" H E)) ∧ (W rs bs ≠ W rs cs → Raise mg "NoWay" H E))
theorem max0 (x : Int) : (if x > 0 then x else 0).toNat = x.toNat := by split <;> omega
section
variable {P : Program} {w : World} {K : PySem.W.Frag} {mg : Str → Option Value} {base : Heap}
theorem ok_way {f : Addr} {fd : FuncData} (F : Fun K "way" "way" s_way f fd) (B : Bi mg) (m_MOST_STEPS : ∃ t, mg "MOST_STEPS" = some (.int 2000 t)) (e_TooLong : Er K mg "TooLong") (c_net : Callee P w K mg base 4 "net" ["ratios", "one", "other"] (sp_net K mg))
    (c_fewest : Callee P w K mg base 5 "fewest" ["ratios", "one", "other"] (sp_fewest K mg)) :
    FnOk P w K mg base (L2.CX P w) 6 f fd ["ratios", "one", "other"] (sp_way K mg) := by
  obtain ⟨tm, m_MOST_STEPS⟩ := m_MOST_STEPS
  refine F.okX sc_way (fun vs H Q E h => ?_) (fun cdv A outer s H vs Q E hr h => ?_)
  · obtain ⟨a, b, c, rs, bs, cs, rfl, _⟩ := h
    rfl
  · obtain ⟨a, b, c, rs, bs, cs, rfl, hA, hB, hC, k, kF, kB⟩ := h
    have tk : Takes (cxOf (L2.CX P w) P w K mg base N_way "way" (defScope s_way) f cdv A outer s H E) (fun cls d _ H => E cls d H) := takes_of rfl rfl rfl rfl
    refine ⟨_, (pss_cons (ps_set (i := 3) sc_way.nd rfl (Or.inl rfl) (pe_f c_net hr (by decide) tk (pa_cons (pv 0) (pa_cons (pv 1) (pa_cons (pv 2) pa_nil)))))
  (pss_cons (ps_if (pt_cmpR op_gt (pe_f c_fewest hr (by decide) tk (pa_cons (pv 0) (pa_cons (pv 1) (pa_cons (pv 2) pa_nil)))) (pe_glob (v := .int 2000) (by rfl) m_MOST_STEPS ⟨_, rfl⟩) (nomark _)) (pss_one (ps_raise rfl tk (pmk_own PySem.F.excBase_ValueError e_TooLong.xP e_TooLong.gC e_TooLong.kP (raises_own e_TooLong.bP e_TooLong.tP) (by rfl)))) pss_nil)
  (pss_cons (ps_set (i := 4) sc_way.nd rfl (Or.inl rfl) (pe_lst pa_nil))
  (pss_cons (ps_for (passes_of rfl) rfl (pi_revR (by rfl) B.reversed (prg_1 (by rfl) B.range (pe_callB call_len_seq (by rfl) B.len PySem.boot_len (pa_cons (pv 3) pa_nil)))) (pg_name (i := 5) sc_way.nd rfl (Or.inl rfl)) (pss_one (ps_for (passes_of rfl) rfl (pi_range1 (by rfl) B.range (pa_cons (pe_callB (call_max2 rfl) (by rfl) B.max (by decide +kernel) (pa_cons pe_int (pa_cons (pe_op op_sub pe_int (pe_ix ix_list (pv 3) (pv 5) (fun _ _ => rfl))) pa_nil))) pa_nil)) (pg_name (i := 6) sc_way.nd rfl (Or.inl rfl)) (pss_one (ps_expr (pe_bm PySem.F.plainAttrs_list PySem.F.slot_list_append PySem.F.type_list_append mt_append (pv 4) (pa_cons (pe_tup (pa_cons (pv 5) (pa_cons pe_bl pa_nil))) pa_nil)))))))
  (pss_cons (ps_for (passes_of rfl) rfl (pi_range1 (by rfl) B.range (pa_cons (pe_callB call_len_seq (by rfl) B.len PySem.boot_len (pa_cons (pv 3) pa_nil)) pa_nil)) (pg_name (i := 5) sc_way.nd rfl (Or.inl rfl)) (pss_one (ps_for (passes_of rfl) rfl (pi_range1 (by rfl) B.range (pa_cons (pe_callB (call_max2 rfl) (by rfl) B.max (by decide +kernel) (pa_cons pe_int (pa_cons (pe_ix ix_list (pv 3) (pv 5) (fun _ _ => rfl)) pa_nil))) pa_nil)) (pg_name (i := 6) sc_way.nd rfl (Or.inl rfl)) (pss_one (ps_expr (pe_bm PySem.F.plainAttrs_list PySem.F.slot_list_append PySem.F.type_list_append mt_append (pv 4) (pa_cons (pe_tup (pa_cons (pv 5) (pa_cons pe_bl pa_nil))) pa_nil)))))))
  (pss_one (ps_ret (pv 4)))))))), ?_⟩
    refine ⟨_, rfl, _, rfl, _, rfl, a, b, c, rs, bs, cs, rfl, hA, hB, hC, fun g gb => ⟨(k g gb).1, fun gc => ⟨((k g gb).2.1 gc).1, fun hw H1 p1 s1 n1 e1 => ?_, ((k g gb).2.1 gc).2.2⟩, (k g gb).2.2⟩, kF, kB⟩
    obtain ⟨kS, kL⟩ := ((k g gb).2.1 gc).2.1 hw
    have sb := (k g gb).1
    have sc := ((k g gb).2.1 gc).1
    have hl := N_len gb.1 gc.1
    have g11 := g.1
    refine ⟨_, rfl, _, rfl, _, rfl, a, b, c, rs, bs, cs, rfl, s1.seq hA, s1.seq hB, s1.seq hC, Two.good g gb gc sb sc ⟨fun _ H2 s2 => ?_, fun z => absurd hw z⟩⟩
    have s02 := s1.trans s2
    have f1 := s2 _ _ e1
    refine ⟨_, _, rfl, rfl, _, rfl, ite2 (fun e => ?_) (fun e => ?_)⟩
    · exact kL (of_decide_eq_true e) H2 s02
    · have hN : Nabs rs bs cs ≤ 2000 := by
        have : ¬ 2000 < Nabs rs bs cs := fun z => e (decide_eq_true z)
        omega
      have kk := kS hN
      clear kS kL
      have hwl : ((wayL (N rs bs cs)).length : Int) = Nabs rs bs cs := wayL_len _
      have hab : ∀ x ∈ N rs bs cs, abs' x ≤ Nabs rs bs cs := fun x hx => abs_le_sum hx
      generalize Nabs rs bs cs = M at hN hwl hab
      generalize N rs bs cs = ns at *
      have hwd : (downP ns ns.length).length + (upP ns ns.length).length = (wayL ns).length := by unfold wayL; rw [List.length_append]
      refine ⟨by show 0 ≤ sizeLine; decide, fun p hp => ?_⟩
      have sp0 := same_upd (o := .lst []) hp
      refine ⟨_, rfl, p1, _, rfl, .inl (SqL.of (sp0 _ _ f1)), _, rfl, by decide, by decide, by rw [List.length_map]; omega, by rw [List.length_map]; omega, ?_⟩
      rw [List.length_map]
      rw [show ((ns.length : Int) - 0).toNat = ns.length by omega]
      refine for_rangeC (fun i σ H' => ∃ (v u : Option V) (ts : List Addr), σ = [some (.ref a), some (.ref b), some (.ref c), some (.ref p1), some (.ref p), v, u] ∧ Same H2 H' ∧ H' p = some (.lst (ts.map V.ref)) ∧ Tups H' ts (downP ns i))
        ⟨none, none, [], rfl, sp0, upd_same, trivial⟩ ?_ ?_
      · rintro i σ H' hi ⟨v, u, ts, rfl, sm, hP, ht⟩
        obtain ⟨L, hL⟩ : ∃ L, L = ns.length - 1 - i := ⟨_, rfl⟩
        have ex : (0 : Int) + (ns.length : Int) - 1 + ((i : Nat) : Int) * -1 = (L : Int) := by omega
        rw [ex]
        have hLl : L < ns.length := by omega
        have ax : atI (ns.map V.int) (L : Int) = some (.int (ns.getD L 0)) := atI_nat (map_get (getD_of hLl))
        have hx := hab _ (List.mem_of_getElem? (getD_of hLl))
        have hx2 : -2000 ≤ ns.getD L 0 ∧ ns.getD L 0 ≤ 2000 := by
          unfold abs' at hx
          split at hx <;> omega
        have hdm := downP_mono ns (i := i + 1) (j := ns.length) (by omega)
        have hde : downP ns (i + 1) = downP ns i ++ List.replicate (0 - ns.getD L 0).toNat ((L : Int), false) := by rw [hL]; rfl
        have hdl : (downP ns (i + 1)).length = (downP ns i).length + (0 - ns.getD L 0).toNat := by rw [hde, List.length_append, List.length_replicate]
        rw [hde]
        refine ⟨_, rfl, _, rfl, p1, _, _, _, rfl, rfl, SqL.of (sm _ _ f1), ax, _, _, rfl, rfl, _, _, rfl, _, rfl, by split <;> omega, by split <;> omega, ?_⟩
        rw [max0]
        refine for_range (fun j σ H' => ∃ (u : Option V) (ts : List Addr), σ = [some (.ref a), some (.ref b), some (.ref c), some (.ref p1), some (.ref p), some (.int (L : Int)), u] ∧ Same H2 H' ∧ H' p = some (.lst (ts.map V.ref)) ∧ Tups H' ts (downP ns i ++ List.replicate j ((L : Int), false)))
          ⟨_, ts, rfl, sm, hP, by rw [List.replicate_zero, List.append_nil]; exact ht⟩ ?_ ?_
        · rintro j σ H' hj ⟨u, ts, rfl, sm, hP, ht⟩
          have htl := ht.len
          rw [List.length_append, List.length_replicate] at htl
          refine ⟨_, rfl, .inl ⟨rfl, _, SqL.of hP⟩, _, rfl, by show 2 ≤ sizeLine; decide, fun t nt => ?_⟩
          obtain ⟨x1, x2, x3⟩ := tup_app ((L : Int), false) hP ht nt
          refine ⟨p, _, _, rfl, rfl, same_upd nt _ _ hP, by rw [List.length_map]; exact small64 (by omega), ?_⟩
          refine ⟨_, _, rfl, x3 _ sm hp, x2, ?_⟩
          rw [List.replicate_succ', ← List.append_assoc]
          exact x1
        · rintro σ H' ⟨u, ts, rfl, sm, hP, ht⟩
          exact ⟨_, _, _, rfl, sm, hP, ht⟩
      · rintro σ H' ⟨v, u, ts, rfl, sm, hP, ht⟩
        refine ⟨_, rfl, p1, _, rfl, .inl (SqL.of (sm _ _ f1)), _, rfl, by rw [List.length_map]; omega, by rw [List.length_map]; omega, ?_⟩
        rw [List.length_map, Int.toNat_natCast]
        refine for_range (fun i σ H' => ∃ (v u : Option V) (ts : List Addr), σ = [some (.ref a), some (.ref b), some (.ref c), some (.ref p1), some (.ref p), v, u] ∧ Same H2 H' ∧ H' p = some (.lst (ts.map V.ref)) ∧ Tups H' ts (downP ns ns.length ++ upP ns i))
          ⟨_, _, ts, rfl, sm, hP, by show Tups _ _ (_ ++ []); rw [List.append_nil]; exact ht⟩ ?_ ?_
        · rintro L σ H' hLl ⟨v, u, ts, rfl, sm, hP, ht⟩
          have ax : atI (ns.map V.int) (0 + (L : Int)) = some (.int (ns.getD L 0)) := at_of (j := L) (by omega) (map_get (getD_of hLl))
          have hx := hab _ (List.mem_of_getElem? (getD_of hLl))
          have hx2 : -2000 ≤ ns.getD L 0 ∧ ns.getD L 0 ≤ 2000 := by
            unfold abs' at hx
            split at hx <;> omega
          have hdm := upP_mono ns (i := L + 1) (j := ns.length) (by omega)
          have hde : upP ns (L + 1) = upP ns L ++ List.replicate (ns.getD L 0).toNat ((L : Int), true) := rfl
          have hdl : (upP ns (L + 1)).length = (upP ns L).length + (ns.getD L 0).toNat := by rw [hde, List.length_append, List.length_replicate]
          rw [hde, ← List.append_assoc]
          refine ⟨_, rfl, _, rfl, p1, _, _, _, rfl, rfl, SqL.of (sm _ _ f1), ax, _, _, rfl, _, rfl, by split <;> omega, by split <;> omega, ?_⟩
          rw [max0]
          refine for_range (fun j σ H' => ∃ (u : Option V) (ts : List Addr), σ = [some (.ref a), some (.ref b), some (.ref c), some (.ref p1), some (.ref p), some (.int (0 + (L : Int))), u] ∧ Same H2 H' ∧ H' p = some (.lst (ts.map V.ref)) ∧ Tups H' ts ((downP ns ns.length ++ upP ns L) ++ List.replicate j ((L : Int), true)))
            ⟨_, ts, rfl, sm, hP, by rw [List.replicate_zero, List.append_nil]; exact ht⟩ ?_ ?_
          · rintro j σ H' hj ⟨u, ts, rfl, sm, hP, ht⟩
            have htl := ht.len
            rw [List.length_append, List.length_append, List.length_replicate] at htl
            refine ⟨_, rfl, .inl ⟨rfl, _, SqL.of hP⟩, _, rfl, by show 2 ≤ sizeLine; decide, fun t nt => ?_⟩
            obtain ⟨x1, x2, x3⟩ := tup_app ((0 : Int) + (L : Int), true) hP ht nt
            refine ⟨p, _, _, rfl, rfl, same_upd nt _ _ hP, by rw [List.length_map]; exact small64 (by omega), ?_⟩
            refine ⟨_, _, rfl, x3 _ sm hp, x2, ?_⟩
            rw [List.replicate_succ', ← List.append_assoc]
            have e0 : [((0 : Int) + (L : Int), true)] = [((L : Int), true)] := by rw [Int.zero_add]
            rw [e0] at x1
            exact x1
          · rintro σ H' ⟨u, ts, rfl, sm, hP, ht⟩
            exact ⟨_, _, _, rfl, sm, hP, ht⟩
        · rintro σ H' ⟨v, u, ts, rfl, sm, hP, ht⟩
          exact ⟨_, rfl, kk H' p ts (s02.trans sm) (s02.free hp) hP ht⟩
end
end CB
namespace CB
open PySem PySem.Spec PyProof.Rows L2
abbrev s_law_cell_at : Stmt := top 20
abbrev N_law_cell_at : List Str := ["script", "k"]
theorem sc_law_cell_at : FnScope N_law_cell_at ["script", "k"] (defScope s_law_cell_at) := ⟨rfl, rfl, rfl, by decide +kernel, rfl, by decide +kernel, by decide +kernel⟩
end CB

namespace CB
open PySem PySem.Spec PyProof.Rows L2
def cell (ns : List Int) (k : Int) : Int := ns.getD k.toNat 0
def sp_law_cell_at (K : PySem.W.Frag) (_ : Str → Option Value) : Sp := fun vs H Q _ => ∃ (a : Addr) (ns : List Int) (k : Int), vs = [.ref a, .int k] ∧ SqL K H a (ns.map V.int) ∧ 0 ≤ k ∧ Q (.int (cell ns k)) H
section
variable {P : Program} {w : World} {K : PySem.W.Frag} {mg : Str → Option Value} {base : Heap}
theorem ok_law_cell_at {f : Addr} {fd : FuncData} (F : Fun K "_law_cell_at" "_law_cell_at" s_law_cell_at f fd) (B : Bi mg) : FnOk P w K mg base (L2.CX P w) 1 f fd ["script", "k"] (sp_law_cell_at K mg) := by
  refine F.okX sc_law_cell_at (fun vs H Q E h => ?_) (fun cdv A outer s H vs Q E hr h => ?_)
  · obtain ⟨a, ns, k, rfl, _⟩ := h
    rfl
  · obtain ⟨a, ns, k, rfl, hS, h0, q⟩ := h
    refine ⟨_, (pss_cons (ps_if (pt_cmpR op_lt (pv 1) (pe_callB call_len_seq (by rfl) B.len PySem.boot_len (pa_cons (pv 0) pa_nil)) (nomark _)) (pss_one (ps_ret (pe_ix ix_list (pv 0) (pv 1) (fun _ _ => rfl)))) pss_nil)
  (pss_one (ps_ret pe_int))), ?_⟩
    refine ⟨_, rfl, _, rfl, a, _, rfl, .inl hS, _, _, rfl, rfl, _, rfl, ite2 (fun e => ?_) (fun e => ?_)⟩
    · have e1 := of_decide_eq_true e
      rw [List.length_map] at e1
      have hk : k.toNat < ns.length := by omega
      refine ⟨_, rfl, _, rfl, a, _, _, .int (cell ns k), rfl, rfl, hS, ?_, q⟩
      refine at_of (j := k.toNat) (by omega) (map_get ?_)
      unfold cell
      rw [List.getElem?_eq_getElem hk, List.getD_eq_getElem?_getD, List.getElem?_eq_getElem hk]
      all_goals rfl
    · have hk : ¬ k.toNat < ns.length := fun z => e (decide_eq_true (by rw [List.length_map]; omega))
      have e0 : cell ns k = 0 := by
        unfold cell
        rw [List.getD_eq_getElem?_getD, List.getElem?_eq_none (by omega)]
        all_goals rfl
      rw [e0] at q
      exact q
end
end CB
namespace CB
open PySem PySem.Spec PyProof.Rows L2
abbrev s_law_whole : Stmt := top 21
abbrev N_law_whole : List Str := ["found"]
theorem sc_law_whole : FnScope N_law_whole ["found"] (defScope s_law_whole) := ⟨rfl, rfl, rfl, by decide +kernel, rfl, by decide +kernel, by decide +kernel⟩
end CB

namespace CB
open PySem PySem.Spec PyProof.Rows L2
def sp_law_whole (_ : PySem.W.Frag) (_ : Str → Option Value) : Sp := fun vs H Q _ => ∃ (k : Int), vs = [.int k] ∧ Q (.bl true) H
section
variable {P : Program} {w : World} {K : PySem.W.Frag} {mg : Str → Option Value} {base : Heap}
theorem ok_law_whole {f : Addr} {fd : FuncData} (F : Fun K "_law_whole" "_law_whole" s_law_whole f fd) (B : Bi mg) : FnOk P w K mg base (L2.CX P w) 1 f fd ["found"] (sp_law_whole K mg) := by
  refine F.okX sc_law_whole (fun vs H Q E h => ?_) (fun cdv A outer s H vs Q E hr h => ?_)
  · obtain ⟨k, rfl, _⟩ := h
    rfl
  · obtain ⟨k, rfl, q⟩ := h
    refine ⟨_, (pss_one (ps_ret (pe_and (pe_callB call_isi (by rfl) B.isinstance (by decide +kernel) (pa_cons (pv 0) (pa_cons (pe_bltn (v := .ty "int") (by rfl) B.int (by decide +kernel) rfl) pa_nil))) (pe_one (pe_not (pe_callB call_isi (by rfl) B.isinstance (by decide +kernel) (pa_cons (pv 0) (pa_cons (pe_bltn (v := .ty "bool") (by rfl) B.bool (by decide +kernel) rfl) pa_nil)))))))), ?_⟩
    refine ⟨_, rfl, _, _, .type "int", _, true, rfl, .ty _, .base (.int _), kit_ty (by decide +kernel), _, rfl, ite_t rfl ?_⟩
    exact ⟨_, rfl, _, _, .type "int", _, false, rfl, .ty _, .base (.int _), kit_ty (by decide +kernel), _, rfl, q⟩
end
end CB
namespace CB
open PySem PySem.Spec PyProof.Rows L2
abbrev s_law_is_list : Stmt := top 22
abbrev N_law_is_list : List Str := ["found", "due", "k"]
theorem sc_law_is_list : FnScope N_law_is_list ["found", "due"] (defScope s_law_is_list) := ⟨rfl, rfl, rfl, by decide +kernel, rfl, by decide +kernel, by decide +kernel⟩
end CB

namespace CB
open PySem PySem.Spec PyProof.Rows L2
def sp_law_is_list (K : PySem.W.Frag) (_ : Str → Option Value) : Sp := fun vs H Q _ => ∃ (a b : Addr) (xs : List Int), vs = [.ref a, .ref b] ∧ H a = some (.lst (xs.map V.int)) ∧ SqL K H b (xs.map V.int) ∧ xs.length ≤ 100000 ∧ Q (.bl true) H
section
variable {P : Program} {w : World} {K : PySem.W.Frag} {mg : Str → Option Value} {base : Heap}
theorem ok_law_is_list {f : Addr} {fd : FuncData} (F : Fun K "_law_is_list" "_law_is_list" s_law_is_list f fd) (B : Bi mg) (c_law_whole : Callee P w K mg base 1 "_law_whole" ["found"] (sp_law_whole K mg)) :
    FnOk P w K mg base (L2.CX P w) 2 f fd ["found", "due"] (sp_law_is_list K mg) := by
  refine F.okX sc_law_is_list (fun vs H Q E h => ?_) (fun cdv A outer s H vs Q E hr h => ?_)
  · obtain ⟨a, b, xs, rfl, _⟩ := h
    rfl
  · obtain ⟨a, b, xs, rfl, hA, hB, hl, q⟩ := h
    refine ⟨_, (pss_cons (ps_if (pw_or (pt_not (pt_val (pe_callB call_isi (by rfl) B.isinstance (by decide +kernel) (pa_cons (pv 0) (pa_cons (pe_bltn (v := .ty "list") (by rfl) B.list (by decide +kernel) rfl) pa_nil))))) (pw_or1 (pt_cmpR op_ne (pe_callB call_len_seq (by rfl) B.len PySem.boot_len (pa_cons (pv 0) pa_nil)) (pe_callB call_len_seq (by rfl) B.len PySem.boot_len (pa_cons (pv 1) pa_nil)) (nomark _)))).pt (pss_one (ps_ret pe_bl)) pss_nil)
  (pss_cons (ps_for (passes_of rfl) rfl (pi_range1 (by rfl) B.range (pa_cons (pe_callB call_len_seq (by rfl) B.len PySem.boot_len (pa_cons (pv 1) pa_nil)) pa_nil)) (pg_name (i := 2) sc_law_is_list.nd rfl (Or.inl rfl)) (pss_one (ps_if (pw_or (pt_not (pt_val (pe_f c_law_whole hr (by decide) takes0 (pa_cons (pe_ix ix_list (pv 0) (pv 2) (fun _ _ => rfl)) pa_nil)))) (pw_or1 (pt_cmpR op_ne (pe_ix ix_list (pv 0) (pv 2) (fun _ _ => rfl)) (pe_ix ix_list (pv 1) (pv 2) (fun _ _ => rfl)) (nomark _)))).pt (pss_one (ps_ret pe_bl)) pss_nil)))
  (pss_one (ps_ret pe_bl)))), ?_⟩
    refine ⟨_, rfl, _, _, .type "list", _, true, rfl, .ty _, .base (.lst hA), kit_ty (by decide +kernel), _, rfl, ite_f rfl ?_⟩
    refine ⟨_, rfl, a, _, rfl, .inl (SqL.of hA), _, rfl, b, _, rfl, .inl hB, rfl, _, rfl, ite_f (by simp) ?_⟩
    refine ⟨_, rfl, b, _, rfl, .inl hB, _, rfl, by rw [List.length_map]; omega, by rw [List.length_map]; omega, ?_⟩
    rw [List.length_map, Int.toNat_natCast]
    refine for_range (fun i σ H' => H' = H ∧ ∃ v, σ = [some (.ref a), some (.ref b), v]) ⟨rfl, none, rfl⟩ ?_ ?_
    · rintro i σ H' hi ⟨rfl, v, rfl⟩
      have h0 : xs[i]? = some xs[i] := List.getElem?_eq_getElem hi
      have h1 : atI (xs.map V.int) (0 + (i : Int)) = some (.int xs[i]) := at_of (j := i) (by omega) (map_get h0)
      refine ⟨_, rfl, _, rfl, a, _, _, _, rfl, rfl, SqL.of hA, h1, _, rfl, _, rfl, ite_f rfl ?_⟩
      refine ⟨_, rfl, _, rfl, a, _, _, _, rfl, rfl, SqL.of hA, h1, _, rfl, _, rfl, b, _, _, _, rfl, rfl, hB, h1, rfl, _, rfl, ite_f (by simp) ?_⟩
      exact ⟨rfl, _, rfl⟩
    · rintro σ H' ⟨rfl, v, rfl⟩
      exact q
end
end CB
namespace CB
open PySem PySem.Spec PyProof.Rows L2
theorem no_err (P : Program) (w : World) (H : Hp) (s : Shared) (e : Value) (s' : Shared) : L2.CX P w [] H s (fun _ _ _ => False) e s' → False := fun h => by
  obtain ⟨_, _, _, _, _, _, _, _, _, _, _, _, z⟩ := h
  exact z
end CB
namespace CB
open PySem PySem.Spec PyProof.Rows L2
abbrev s_law : Stmt := top 23
abbrev N_law : List Str := ["script", "lines", "ratios", "one", "other", "due", "done", "k", "ups", "downs", "line", "sign", "total", "x"]
theorem sc_law : FnScope N_law ["script"] (defScope s_law) := ⟨rfl, rfl, rfl, by decide +kernel, rfl, by decide +kernel, by decide +kernel⟩
end CB

namespace CB
open PySem PySem.Spec PyProof.Rows L2
def sp_law (K : PySem.W.Frag) : Sp := fun vs H Q _ => ∃ (a : Addr) (ns : List Int), vs = [.ref a] ∧ SqL K H a (ns.map V.int) ∧ ns.length ≤ 63 ∧ ∀ H', Q (.bl true) H'
section
variable {P : Program} {w : World} {K : PySem.W.Frag} {mg : Str → Option Value} {base : Heap}
theorem ok_law {f : Addr} {fd : FuncData} (F : Fun K "law" "law" s_law f fd) (B : Bi mg) (c_law_cell_at : Callee P w K mg base 1 "_law_cell_at" ["script", "k"] (sp_law_cell_at K mg))
    (c_fewest : Callee P w K mg base 5 "fewest" ["ratios", "one", "other"] (sp_fewest K mg)) (c_law_whole : Callee P w K mg base 1 "_law_whole" ["found"] (sp_law_whole K mg))
    (c_law_is_list : Callee P w K mg base 2 "_law_is_list" ["found", "due"] (sp_law_is_list K mg)) (c_net : Callee P w K mg base 4 "net" ["ratios", "one", "other"] (sp_net K mg))
    (c_way : Callee P w K mg base 6 "way" ["ratios", "one", "other"] (sp_way K mg)) :
    FnOk P w K mg base (L2.CX P w) 7 f fd ["script"] (sp_law K) := by
  refine F.okX sc_law (fun vs H Q E h => ?_) (fun cdv A outer s H vs Q E hr h => ?_)
  · obtain ⟨a, ns, rfl, _⟩ := h
    rfl
  · obtain ⟨a, ns, rfl, hS, _, q⟩ := h
    refine ⟨_, (pss_cons (ps_set (i := 1) sc_law.nd rfl (Or.inl rfl) (pe_op op_add pe_int (pe_op op_mod (pe_f c_law_cell_at hr (by decide) takes0 (pa_cons (pv 0) (pa_cons pe_int pa_nil))) pe_int)))
  (pss_cons (ps_set (i := 2) sc_law.nd rfl (Or.inr rfl) (pe_lc (own := [("k", 7)]) (g := gName 7) (tt := tYes) rfl sc_law.nd (pi_range1 (by rfl) B.range (pa_cons (pv 1) pa_nil)) (blkOk_by (own := [("k", 7)]) (N := N_law) (sc := defScope s_law) (by decide +kernel)) (fun _ _ _ _ _ => pg_name (i := 7) sc_law.nd rfl (Or.inl rfl)) (fun _ _ _ _ _ => pts_nil) (fun _ _ _ _ _ => (pe_op op_add pe_int (pe_op op_mod (pe_f c_law_cell_at hr (by decide) takes0 (pa_cons (pv 0) (pa_cons (pe_op op_add pe_int (pv 7)) pa_nil))) pe_int)))))
  (pss_cons (ps_setLc (i := 3) (own := [("k", 7)]) (g := gName 7) (tt := tYes) rfl sc_law.nd rfl rfl (sw_true rfl rfl rfl (by decide +kernel)) (pi_range1 (by rfl) B.range (pa_cons (pe_op op_add (pv 1) pe_int) pa_nil)) (blkOk_by (own := [("k", 7)]) (N := N_law) (sc := defScope s_law) (by decide +kernel)) (fun _ _ _ _ _ => pg_name (i := 7) sc_law.nd rfl (Or.inl rfl)) (fun _ _ _ _ _ => pts_nil) (fun _ _ _ _ _ => (pe_op op_mod (pe_f c_law_cell_at hr (by decide) takes0 (pa_cons (pv 0) (pa_cons (pe_op op_add pe_int (pv 7)) pa_nil))) pe_int)))
  (pss_cons (ps_set (i := 4) sc_law.nd rfl (Or.inr rfl) (pe_callTy call_list_of (by rfl) B.list (by decide +kernel) (pa_cons (pv 3) pa_nil)))
  (pss_cons (ps_setLc (i := 5) (own := [("k", 7)]) (g := gName 7) (tt := tYes) rfl sc_law.nd rfl rfl (sw_true rfl rfl rfl (by decide +kernel)) (pi_range1 (by rfl) B.range (pa_cons (pv 1) pa_nil)) (blkOk_by (own := [("k", 7)]) (N := N_law) (sc := defScope s_law) (by decide +kernel)) (fun _ _ _ _ _ => pg_name (i := 7) sc_law.nd rfl (Or.inl rfl)) (fun _ _ _ _ _ => pts_nil) (fun _ _ _ _ _ => pe_int))
  (pss_cons (ps_set (i := 6) sc_law.nd rfl (Or.inl rfl) pe_int)
  (pss_cons (ps_for (passes_of rfl) rfl (pi_range1 (by rfl) B.range (pa_cons (pe_op op_mod (pe_f c_law_cell_at hr (by decide) takes0 (pa_cons (pv 0) (pa_cons pe_int pa_nil))) pe_int) pa_nil)) (pg_name (i := 7) sc_law.nd rfl (Or.inl rfl)) (pss_cons (ps_setLc (i := 8) (own := [("line", 10)]) (g := gName 10) rfl sc_law.nd rfl rfl (sw_true rfl rfl rfl (by decide +kernel)) (pi_range1 (by rfl) B.range (pa_cons (pv 1) pa_nil)) (blkOk_by (own := [("line", 10)]) (N := N_law) (sc := defScope s_law) (by decide +kernel)) (fun _ _ _ _ _ => pg_name (i := 10) sc_law.nd rfl (Or.inl rfl)) (fun _ _ _ _ _ => (pts_one (pt_cmpR op_ge (pe_ix (ix_listK K rfl) (pv 4) (pv 10) (fun _ _ => rfl)) (pe_ix (ix_listK K rfl) (pv 2) (pv 10) (fun _ _ => rfl)) (nomark _)))) (fun _ _ _ _ _ => (pe_tup (pa_cons (pv 10) (pa_cons pe_int pa_nil)))))
  (pss_cons (ps_setLc (i := 9) (own := [("line", 10)]) (g := gName 10) rfl sc_law.nd rfl rfl (sw_true rfl rfl rfl (by decide +kernel)) (pi_range1 (by rfl) B.range (pa_cons (pv 1) pa_nil)) (blkOk_by (own := [("line", 10)]) (N := N_law) (sc := defScope s_law) (by decide +kernel)) (fun _ _ _ _ _ => pg_name (i := 10) sc_law.nd rfl (Or.inl rfl)) (fun _ _ _ _ _ => (pts_one (pt_cmpR op_gt (pe_ix (ix_listK K rfl) (pv 4) (pe_op op_add (pv 10) pe_int) (fun _ _ => rfl)) pe_int (nomark _)))) (fun _ _ _ _ _ => (pe_tup (pa_cons (pv 10) (pa_cons (pe_un un_neg pe_int) pa_nil)))))
  (pss_one (ps_if (pt_cmpR (op_neD hr.units) (pe_op op_cat (pv 8) (pv 9)) (pe_lst pa_nil) (nomark _)) (pss_cons (ps_asg (pe_ix ix_list (pe_op op_cat (pv 8) (pv 9)) (pe_op op_mod (pe_f c_law_cell_at hr (by decide) takes0 (pa_cons (pv 0) (pa_cons (pe_op op_add pe_int (pv 7)) pa_nil))) (pe_callB call_len_seq (by rfl) B.len PySem.boot_len (pa_cons (pe_op op_cat (pv 8) (pv 9)) pa_nil))) (fun _ _ => rfl)) (pg_tup rfl (pgs_cons (pg_name (i := 10) sc_law.nd rfl (Or.inl rfl)) (pgs_cons (pg_name (i := 11) sc_law.nd rfl (Or.inl rfl)) pgs_nil))))
  (pss_cons (ps_asg (pe_op op_sub (pe_ix ix_list (pv 4) (pv 10) (fun _ _ => rfl)) (pe_op op_mulW (pv 11) (pe_ix ix_list (pv 2) (pv 10) (fun _ _ => rfl)))) (pg_sub (pv 4) (pv 10) set_list))
  (pss_cons (ps_asg (pe_op op_add (pe_ix ix_list (pv 4) (pe_op op_add (pv 10) pe_int) (fun _ _ => rfl)) (pv 11)) (pg_sub (pv 4) (pe_op op_add (pv 10) pe_int) set_list))
  (pss_cons (ps_asg (pe_op op_add (pe_ix ix_list (pv 5) (pv 10) (fun _ _ => rfl)) (pv 11)) (pg_sub (pv 5) (pv 10) set_list))
  (pss_one (ps_set (i := 6) sc_law.nd rfl (Or.inl rfl) (pe_op op_add (pv 6) pe_int))))))) pss_nil)))))
  (pss_cons (ps_set (i := 12) sc_law.nd rfl (Or.inl rfl) (pe_f c_fewest hr (by decide) takes0 (pa_cons (pe_callTy call_list_of (by rfl) B.list (by decide +kernel) (pa_cons (pv 2) pa_nil)) (pa_cons (pe_callTy call_list_of (by rfl) B.list (by decide +kernel) (pa_cons (pv 3) pa_nil)) (pa_cons (pe_callTy call_list_of (by rfl) B.list (by decide +kernel) (pa_cons (pv 4) pa_nil)) pa_nil)))))
  (pss_cons (ps_if (pw_or (pt_not (pt_val (pe_f c_law_whole hr (by decide) takes0 (pa_cons (pv 12) pa_nil)))) (pw_or (pt_cmpR op_gt (pv 12) (pv 6) (nomark _)) (pw_or1 (pt_cmpR op_eq (pe_op op_mod (pe_op op_sub (pv 6) (pv 12)) pe_int) pe_int (nomark _))))).pt (pss_one (ps_ret pe_bl)) pss_nil)
  (pss_cons (ps_if (pw_or (pt_not (pt_val (pe_f c_law_is_list hr (by decide) takes0 (pa_cons (pe_f c_net hr (by decide) takes0 (pa_cons (pe_callTy call_list_of (by rfl) B.list (by decide +kernel) (pa_cons (pv 2) pa_nil)) (pa_cons (pe_callTy call_list_of (by rfl) B.list (by decide +kernel) (pa_cons (pv 3) pa_nil)) (pa_cons (pe_callTy call_list_of (by rfl) B.list (by decide +kernel) (pa_cons (pv 4) pa_nil)) pa_nil)))) (pa_cons (pv 5) pa_nil))))) (pw_or1 (pt_cmpR op_ne (pv 12) (pe_callB (cr_sum rfl) (by rfl) B.sum (by decide +kernel) (pa_cons (pe_lc (own := [("x", 13)]) (g := gName 13) (tt := tYes) rfl sc_law.nd (pi_list (pv 5)) (blkOk_by (own := [("x", 13)]) (N := N_law) (sc := defScope s_law) (by decide +kernel)) (fun _ _ _ _ _ => pg_name (i := 13) sc_law.nd rfl (Or.inl rfl)) (fun _ _ _ _ _ => pts_nil) (fun _ _ _ _ _ => (pe_callB call_abs (by rfl) B.abs (by decide +kernel) (pa_cons (pv 13) pa_nil)))) pa_nil)) (nomark _)))).pt (pss_one (ps_ret pe_bl)) pss_nil)
  (pss_cons (ps_if (pt_cmpR op_ne (pe_callB call_len_seq (by rfl) B.len PySem.boot_len (pa_cons (pe_f c_way hr (by decide) takes0 (pa_cons (pe_callTy call_list_of (by rfl) B.list (by decide +kernel) (pa_cons (pv 2) pa_nil)) (pa_cons (pe_callTy call_list_of (by rfl) B.list (by decide +kernel) (pa_cons (pv 3) pa_nil)) (pa_cons (pe_callTy call_list_of (by rfl) B.list (by decide +kernel) (pa_cons (pv 4) pa_nil)) pa_nil)))) pa_nil)) (pv 12) (nomark _)) (pss_one (ps_ret pe_bl)) pss_nil)
  (pss_one (ps_ret (pe_and (pe_cmpR op_eq (pe_f c_fewest hr (by decide) takes0 (pa_cons (pv 2) (pa_cons (pv 4) (pa_cons (pe_callTy call_list_of (by rfl) B.list (by decide +kernel) (pa_cons (pv 4) pa_nil)) pa_nil)))) pe_int (nomark _)) (pe_one (pe_cmpR (op_eqD hr.units) (pe_f c_way hr (by decide) takes0 (pa_cons (pv 2) (pa_cons (pv 4) (pa_cons (pe_callTy call_list_of (by rfl) B.list (by decide +kernel) (pa_cons (pv 4) pa_nil)) pa_nil)))) (pe_lst pa_nil) (nomark _))))))))))))))))), ?_⟩
    obtain ⟨n, hn⟩ : ∃ n : Nat, (n : Int) = 1 + cell ns 0 % 5 := ⟨(1 + cell ns 0 % 5).toNat, by omega⟩
    have hn5 : n ≤ 5 := by omega
    refine ⟨.ref a, rfl, a, ns, 0, rfl, hS, by decide, _, _, rfl, rfl, (show (0 : Int) < 5 by decide), _, _, rfl, rfl, ?_⟩
    show tSeq _ _ _ [some (V.ref a), some (V.int (1 + cell ns 0 % 5)), none, none, none, none, none, none, none, none, none, none, none, none] H
    rw [← hn]
    -- ratios
    refine ⟨_, rfl, _, rfl, by omega, by omega, fun p1 n1 => ?_⟩
    rw [Int.toNat_natCast]
    refine lc_range (lo := 0) (n := n) (Gr H p1 (((List.range n).map fun j : Nat => 2 + cell ns (2 + (0 + (j : Int))) % 11).map V.int)) (Gr.zero _ n1) ?_ ?_
    · rintro i H' hi gr
      refine ⟨rfl, .ref a, rfl, _, rfl, _, _, rfl, rfl, a, ns, _, rfl, gr.1.seq hS, by omega, _, _, rfl, rfl, (show (0 : Int) < 11 by decide), _, _, rfl, rfl, _, gr.step n1 (by simp; omega) (map_get ?_) (Same.refl _)⟩
      rw [List.getElem?_map, List.getElem?_range hi]
      rfl
    intro H1 gr1
    have e1 := gr1.done (by simp)
    have g := frame_gf (fun j => cell ns (2 + (0 + (j : Int)))) n (by omega)
    have hrl : ((List.range n).map fun j : Nat => 2 + cell ns (2 + (0 + (j : Int))) % 11).length = n := by simp
    generalize (List.range n).map (fun j : Nat => 2 + cell ns (2 + (0 + (j : Int))) % 11) = rs at e1 g hrl
    have s1 := gr1.1
    subst hrl
    -- one
    refine ⟨_, rfl, _, _, rfl, rfl, _, rfl, by omega, by omega, fun p2 n2 => ?_⟩
    rw [show ((rs.length : Int) + 1).toNat = rs.length + 1 by omega]
    refine lc_range (lo := 0) (n := rs.length + 1) (Gr H1 p2 (((List.range (rs.length + 1)).map fun j : Nat => cell ns (13 + (0 + (j : Int))) % 25).map V.int)) (Gr.zero _ n2) ?_ ?_
    · rintro i H' hi gr
      refine ⟨rfl, .ref a, rfl, _, rfl, _, _, rfl, rfl, a, ns, _, rfl, gr.1.seq (s1.seq hS), by omega, _, _, rfl, rfl, (show (0 : Int) < 25 by decide), _, gr.step n2 (by simp; omega) (map_get ?_) (Same.refl _)⟩
      rw [List.getElem?_map, List.getElem?_range hi]
      rfl
    intro H2 gr2
    have e2 := gr2.done (by simp)
    have gb : GB rs ((List.range (rs.length + 1)).map fun j : Nat => cell ns (13 + (0 + (j : Int))) % 25) := ⟨by simp, fun x hx => by
      obtain ⟨j, _, rfl⟩ := List.mem_map.mp hx
      omega⟩
    have hb30 : ∀ x ∈ ((List.range (rs.length + 1)).map fun j : Nat => cell ns (13 + (0 + (j : Int))) % 25), x < 25 := fun x hx => by
      obtain ⟨j, _, rfl⟩ := List.mem_map.mp hx
      omega
    generalize (List.range (rs.length + 1)).map (fun j : Nat => cell ns (13 + (0 + (j : Int))) % 25) = bs at e2 gb hb30
    have s2 := s1.trans gr2.1
    have f1 := gr2.1 _ _ e1
    have hbn := gb.1
    have hS2 := s2.seq hS
    -- other
    refine ⟨_, rfl, p2, _, rfl, .inl (SqL.of e2), fun p3 n3 => ?_⟩
    have t3 := same_upd (o := .lst (bs.map V.int)) n3
    have g3 := upd_same (H := H2) (a := p3) (o := .lst (bs.map V.int))
    generalize upd H2 p3 (.lst (bs.map V.int)) = H3 at g3 t3
    -- due
    refine ⟨_, rfl, _, rfl, by omega, by omega, fun p4 n4 => ?_⟩
    rw [Int.toNat_natCast]
    refine lc_range (lo := 0) (n := rs.length) (Gr H3 p4 ((rs.map fun _ => (0 : Int)).map V.int)) (Gr.zero _ n4) ?_ ?_
    · rintro i H' hi gr
      refine ⟨rfl, _, gr.step n4 (by simp; omega) (map_get (z := 0) ?_) (Same.refl _)⟩
      rw [List.getElem?_map, List.getElem?_eq_getElem hi]
      rfl
    intro H4 gr4
    have h4 := gr4.done (by simp)
    have h3 := gr4.1 _ _ g3
    have s4 := t3.trans gr4.1
    have n4' : H2 p4 = none := t3.free n4
    have d34 : p3 ≠ p4 := ne_of_none g3 n4
    clear gr4 gr1 gr2
    -- done, the loop
    refine ⟨_, rfl, a, ns, 1, rfl, s4.seq hS2, by decide, _, _, rfl, rfl, (show (0 : Int) < 41 by decide), _, rfl, by omega, by omega, ?_⟩
    obtain ⟨m, hm⟩ : ∃ m, m = (cell ns 1 % 41).toNat := ⟨_, rfl⟩
    have hm40 : m ≤ 40 := by omega
    rw [← hm]
    refine for_range (fun i σ H' => ∃ (ls qs : List Int) (d : Nat) (v7 v8 v9 v10 v11 : Option V), σ = [some (.ref a), some (.int (rs.length : Int)), some (.ref p1), some (.ref p2), some (.ref p3), some (.ref p4), some (.int (d : Int)), v7, v8, v9, v10, v11, none, none] ∧ Same H2 H' ∧
        H' p3 = some (.lst (ls.map V.int)) ∧ H' p4 = some (.lst (qs.map V.int)) ∧ GB rs ls ∧ W rs ls = W rs bs ∧ Rel rs bs ls qs 0 ∧ (∀ x ∈ ls, x < 25 + 13 * (i : Int)) ∧ d ≤ i ∧ (qs.map abs').sum ≤ (d : Int) ∧ ((d : Int) - (qs.map abs').sum) % 2 = 0)
      ⟨bs, rs.map fun _ => 0, 0, none, none, none, none, none, rfl, s4, h3, h4, gb, rfl, Rel.start rs bs hbn, (fun x hx => by have := hb30 x hx; omega), Nat.le_refl _, ?_, ?_⟩ ?_ ?_
    · have : ∀ xs : List Int, ((xs.map fun _ => (0 : Int)).map abs').sum = 0 := fun xs => by
        induction xs with
        | nil => rfl
        | cons x xs ih => rw [List.map_cons, List.map_cons, List.sum_cons, ih]; rfl
      rw [this]
      exact Int.le_refl _
    · have : ∀ xs : List Int, ((xs.map fun _ => (0 : Int)).map abs').sum = 0 := fun xs => by
        induction xs with
        | nil => rfl
        | cons x xs ih => rw [List.map_cons, List.map_cons, List.sum_cons, ih]; rfl
      rw [this]
      rfl
    · rintro i σ H' hi ⟨ls, qs, d, v7, v8, v9, v10, v11, rfl, sm, w3, w4, gl, hw, hrel, hlt, hd, hsum, hpar⟩
      have hll := gl.1
      have hql := hrel.qlen
      -- ups
      refine ⟨_, rfl, _, rfl, by omega, by omega, fun T1 hT1 => ?_⟩
      rw [Int.toNat_natCast]
      refine lc_range (lo := 0) (n := rs.length) (fun i H5 => Same H' H5 ∧ ∃ ts : List Addr, H5 T1 = some (.lst (ts.map V.ref)) ∧ ts.length ≤ i ∧ TI H5 ts rs ls)
        ⟨same_upd hT1, [], upd_same, Nat.le_refl _, (fun z hz => by cases hz)⟩ ?_ ?_
      · rintro L H5 hL ⟨s5, ts, hf, hfl, hti⟩
        have ar : atI (rs.map V.int) (0 + (L : Int)) = some (.int (rs.getD L 0)) := at_of (j := L) (by omega) (map_get (getD_of hL))
        have al : atI (ls.map V.int) (0 + (L : Int)) = some (.int (ls.getD L 0)) := at_of (j := L) (by omega) (map_get (getD_of (by omega)))
        refine ⟨rfl, _, rfl, _, rfl, p3, _, _, _, rfl, rfl, SqL.of (s5 _ _ w3), al, _, rfl, _, rfl, p1, _, _, _, rfl, rfl, SqL.of (s5 _ _ (sm _ _ f1)), ar, _, _, rfl, rfl, _, rfl, ite2 (fun e => ?_) (fun e => ?_)⟩
        · have hg : goesB rs ls L true = true := e
          refine ⟨_, rfl, by show 2 ≤ sizeLine; decide, fun t nt => ?_⟩
          refine ⟨_, same_upd nt _ _ hf, by rw [List.length_map]; exact small64 (by omega), same_upd2 s5 hT1 nt, ts ++ [t], by rw [upd_same, List.map_append]; rfl, by rw [List.length_append]; simp only [List.length_cons, List.length_nil]; omega, ?_⟩
          rw [Int.zero_add]
          exact TI.more L true hf hti nt hL hg
        · exact ⟨s5, ts, hf, by omega, hti⟩
      rintro H5 ⟨s5, ts, e5, hl5, ti5⟩
      -- downs
      refine ⟨_, rfl, _, rfl, by omega, by omega, fun T2 hT2 => ?_⟩
      rw [Int.toNat_natCast]
      refine lc_range (lo := 0) (n := rs.length) (fun i H6 => Same H5 H6 ∧ ∃ us : List Addr, H6 T2 = some (.lst (us.map V.ref)) ∧ us.length ≤ i ∧ TI H6 us rs ls)
        ⟨same_upd hT2, [], upd_same, Nat.le_refl _, (fun z hz => by cases hz)⟩ ?_ ?_
      · rintro L H6 hL ⟨s6, us, hf, hfl, hti⟩
        have al : atI (ls.map V.int) (0 + (L : Int) + 1) = some (.int (ls.getD (L + 1) 0)) := at_of (j := L + 1) (by omega) (map_get (getD_of (by omega)))
        refine ⟨rfl, _, rfl, _, rfl, _, _, rfl, rfl, p3, _, _, _, rfl, rfl, SqL.of (s6 _ _ (s5 _ _ w3)), al, _, _, rfl, rfl, _, rfl, ite2 (fun e => ?_) (fun e => ?_)⟩
        · have e' := of_decide_eq_true e
          have hg : goesB rs ls L false = true := decide_eq_true (show 1 ≤ ls.getD (L + 1) 0 by omega)
          refine ⟨_, rfl, _, rfl, by show 2 ≤ sizeLine; decide, fun t nt => ?_⟩
          refine ⟨_, same_upd nt _ _ hf, by rw [List.length_map]; exact small64 (by omega), same_upd2 s6 hT2 nt, us ++ [t], by rw [upd_same, List.map_append]; rfl, by rw [List.length_append]; simp only [List.length_cons, List.length_nil]; omega, ?_⟩
          rw [Int.zero_add]
          exact TI.more L false hf hti nt hL hg
        · exact ⟨s6, us, hf, by omega, hti⟩
      rintro H6 ⟨s6, us, e6, hl6, ti6⟩
      have s56 := s5.trans s6
      have ti5' := ti5.same s6
      have e5' := s6 _ _ e5
      have tiA : TI H6 (ts ++ us) rs ls := fun t ht => (List.mem_append.mp ht).elim (ti5' t) (ti6 t)
      have emap : ts.map V.ref ++ us.map V.ref = (ts ++ us).map V.ref := by rw [List.map_append]
      have hsz : (ts.map V.ref).length + (us.map V.ref).length ≤ sizeLine := by
        rw [List.length_map, List.length_map]
        exact Nat.le_of_lt (small64 (by omega))
      -- ups + downs != []
      refine ⟨_, rfl, _, rfl, T1, T2, _, _, rfl, rfl, e5', e6, hsz, fun x1 y1 => ?_⟩
      rw [emap]
      have r1 := same_upd (o := .lst ((ts ++ us).map V.ref)) y1
      refine ⟨by show 0 ≤ sizeLine; decide, fun x2 y2 => ?_⟩
      have r2 := same_upd (o := .lst []) y2
      have r12 := r1.trans r2
      have m1 := r2 _ _ (upd_same (H := H6) (a := x1) (o := .lst ((ts ++ us).map V.ref)))
      obtain ⟨ps, hp1, hp2⟩ := (tiA.same r12).data (K := K)
      refine ⟨.list (ps.map dI), .list (([] : List (Int × Int)).map dI), .lst (SqL.of m1) hp1, .lst (SqL.of upd_same) .nil, shaped_dLI _, shaped_dLI _, _, rfl, ?_⟩
      rw [eqv_dLI]
      generalize upd (upd H6 x1 (.lst ((ts ++ us).map V.ref))) x2 (.lst []) = H7 at r12
      have s07 := s56.trans r12
      have hsm := sm.trans s07
      have u3 := s07 _ _ w3
      have u4 := s07 _ _ w4
      have hlt' : ∀ x ∈ ls, x < 25 + 13 * ((i + 1 : Nat) : Int) := fun x hx => by have := hlt x hx; omega
      by_cases hz : ps = []
      · refine ite_f (by simp [hz]) ?_
        exact ⟨ls, qs, d, _, _, _, _, _, rfl, hsm, u3, u4, gl, hw, hrel, hlt', by omega, hsum, hpar⟩
      · refine ite_t (by simp [hz]) ?_
        have hlen : 0 < (ts ++ us).length := by
          rw [← hp2]
          exact List.length_pos_iff.mpr hz
        have v5 := r12 _ _ e5'
        have v6 := r12 _ _ e6
        have tiB := tiA.same r12
        refine ⟨_, rfl, _, rfl, T1, T2, _, _, rfl, rfl, v5, v6, hsz, fun x3 y3 => ?_⟩
        rw [emap]
        have r3 := same_upd (o := .lst ((ts ++ us).map V.ref)) y3
        have m3 := upd_same (H := H7) (a := x3) (o := .lst ((ts ++ us).map V.ref))
        refine ⟨_, rfl, _, rfl, _, _, rfl, rfl, a, ns, _, rfl, r3.seq (hsm.seq hS2), by omega, _, rfl, _, rfl, T1, T2, _, _, rfl, rfl, r3 _ _ v5, r3 _ _ v6, hsz, fun x4 y4 => ?_⟩
        rw [emap]
        have r4 := same_upd (o := .lst ((ts ++ us).map V.ref)) y4
        refine ⟨x4, _, rfl, .inl (SqL.of upd_same), _, _, rfl, rfl, (by show 0 < (((ts ++ us).map V.ref).length : Int); rw [List.length_map]; omega), ?_⟩
        rw [List.length_map]
        obtain ⟨z, hz⟩ : ∃ z, z = cell ns (20 + (0 + (i : Int))) % ((ts ++ us).length : Int) := ⟨_, rfl⟩
        have hz0 : 0 ≤ z := by rw [hz]; exact Int.emod_nonneg _ (by omega)
        have hz1 : z < (ts ++ us).length := by rw [hz]; exact Int.emod_lt_of_pos _ (by omega)
        obtain ⟨j, rfl⟩ : ∃ j : Nat, z = (j : Int) := ⟨z.toNat, by omega⟩
        have hj : j < (ts ++ us).length := by omega
        have s34 := r3.trans r4
        obtain ⟨L, up, et, hL, hg⟩ := (tiB.same s34) _ (List.getElem_mem hj)
        have hat : atI ((ts ++ us).map V.ref) (cell ns (20 + (0 + (i : Int))) % ((ts ++ us).length : Int)) = some (.ref (ts ++ us)[j]) := by
          rw [← hz]
          refine atI_nat ?_
          rw [List.getElem?_map, List.getElem?_eq_getElem hj]
          rfl
        refine ⟨x3, _, _, _, rfl, rfl, SqL.of (r4 _ _ m3), hat, ?_⟩
        refine ⟨_, _, rfl, SqT.of et, rfl, _, _, rfl, _, _, rfl, rfl, ?_⟩
        have hsm := hsm.trans s34
        have u3 := s34 _ _ u3
        have u4 := s34 _ _ u4
        have u1 := hsm _ _ f1
        generalize upd (upd H7 x3 (.lst ((ts ++ us).map V.ref))) x4 (.lst ((ts ++ us).map V.ref)) = H8 at hsm u1 u3 u4
        have hLl : L + 1 < ls.length := by omega
        have ar : atI (rs.map V.int) (L : Int) = some (.int (rs.getD L 0)) := atI_nat (map_get (getD_of hL))
        have al : atI (ls.map V.int) (L : Int) = some (.int (ls.getD L 0)) := atI_nat (map_get (getD_of (by omega)))
        have al1 : ∀ v : V, atI ((ls.map V.int).set L v) ((L : Int) + 1) = some (.int (ls.getD (L + 1) 0)) := fun v => at_of (j := L + 1) (by omega) (by rw [List.getElem?_set_ne (by omega)]; exact map_get (getD_of hLl))
        have aq : atI (qs.map V.int) (L : Int) = some (.int (qs.getD L 0)) := atI_nat (map_get (getD_of (by omega)))
        have hrb := g.2 (rs.getD L 0) (List.mem_of_getElem? (getD_of hL))
        have hab : (rs.getD L 0).natAbs < 2 ^ 10 := by omega
        have hsg : (sg up).natAbs < 2 ^ 2 := by cases up <;> decide
        refine ⟨_, rfl, _, rfl, p3, _, _, _, rfl, rfl, SqL.of u3, al, _, rfl, _, rfl, _, rfl, p1, _, _, _, rfl, rfl, SqL.of u1, ar, _, _, rfl, rfl, wide_mul (a := 2) (b := 10) hsg hab (by decide) (by decide) (by decide), _, _, rfl, rfl, ?_⟩
        refine ⟨_, rfl, _, rfl, p3, _, _, L, rfl, rfl, u3, ix_of rfl (by rw [List.length_map]; omega), ?_⟩
        refine ⟨_, rfl, _, rfl, _, _, rfl, rfl, p3, _, _, _, rfl, rfl, SqL.of upd_same, al1 _, _, rfl, _, _, rfl, rfl, ?_⟩
        refine ⟨_, rfl, _, rfl, _, _, rfl, rfl, p3, _, _, L + 1, rfl, rfl, upd_same, ix_of (by omega) (by rw [List.length_set, List.length_map]; omega), ?_⟩
        rw [upd_upd]
        have est : (((ls.map V.int).set L (V.int (ls.getD L 0 - sg up * rs.getD L 0))).set (L + 1) (V.int (ls.getD (L + 1) 0 + sg up))) = (stepL rs ls L up).map V.int := by
          unfold stepL
          rw [List.map_set, List.map_set]
        show tSeq _ _ _ _ (upd H8 p3 (.lst (((ls.map V.int).set L (V.int (ls.getD L 0 - sg up * rs.getD L 0))).set (L + 1) (V.int (ls.getD (L + 1) 0 + sg up)))))
        rw [est]
        have n3' : H2 p3 = none := n3
        have c3 : (upd H8 p3 (.lst ((stepL rs ls L up).map V.int))) p3 = some (.lst ((stepL rs ls L up).map V.int)) := upd_same
        have c4 : (upd H8 p3 (.lst ((stepL rs ls L up).map V.int))) p4 = some (.lst (qs.map V.int)) := by rw [upd_ne d34.symm]; exact u4
        have hsm2 : Same H2 (upd H8 p3 (.lst ((stepL rs ls L up).map V.int))) := fun c o z => by rw [upd_ne (ne_of_none z n3')]; exact hsm _ _ z
        generalize upd H8 p3 (.lst ((stepL rs ls L up).map V.int)) = H9 at c3 c4 hsm2
        -- due[line]
        refine ⟨_, rfl, _, rfl, p4, _, _, _, rfl, rfl, SqL.of c4, aq, _, rfl, _, _, rfl, rfl, ?_⟩
        refine ⟨_, rfl, _, rfl, p4, _, _, L, rfl, rfl, c4, ix_of rfl (by rw [List.length_map]; omega), ?_⟩
        refine ⟨_, rfl, _, _, rfl, rfl, ?_⟩
        obtain ⟨ed, hed, hsd⟩ := abs_step (qs := qs) (L := L) up (by omega)
        refine ⟨stepL rs ls L up, qs.set L (qs.getD L 0 + sg up), d + 1, _, _, _, _, _, rfl, fun c o z => ?_, ?_, ?_, GB_stepL g.2 gl hL hg, by rw [W_stepL up hll hL, hw], Rel.step up hrel hL, fun x hx => ?_, by omega, by rw [hsd]; omega, by rw [hsd]; omega⟩
        · rw [upd_ne (ne_of_none z n4')]
          exact hsm2 _ _ z
        · rw [upd_ne d34]
          exact c3
        · rw [upd_same, List.map_set]
        · have := stepL_le (up := up) g hll hL hlt x hx
          omega
    · rintro σ H' ⟨ls, qs, d, v7, v8, v9, v10, v11, rfl, sm, w3, w4, gl, hw, hrel, hlt, hd, hsum, hpar⟩
      have hll := gl.1
      have hql := hrel.qlen
      have w1 := sm _ _ f1
      have w2 := sm _ _ e2
      have hN : N rs bs ls = qs := Rel.net (c1 := 0) (c2 := 0) g.2 hrel
      have hNa : Nabs rs bs ls = (qs.map abs').sum := by unfold Nabs; rw [hN]
      have hBb : BS bs := fun x hx => by
        have := hb30 x hx
        have : (30 : Int) < 2 ^ 200 := by decide
        omega
      have hBl : BS ls := fun x hx => by
        have := hlt x hx
        have : (25 + 13 * 40 : Int) < 2 ^ 200 := by decide
        omega
      clear hlt hb30
      -- total
      refine ⟨_, rfl, p1, _, rfl, .inl (SqL.of w1), fun x1 y1 => ?_⟩
      have t1 := same_upd (o := .lst (rs.map V.int)) y1
      refine ⟨_, rfl, p2, _, rfl, .inl (SqL.of (t1 _ _ w2)), fun x2 y2 => ?_⟩
      have t2 := same_upd (o := .lst (bs.map V.int)) y2
      refine ⟨_, rfl, p3, _, rfl, .inl (SqL.of (t2 _ _ (t1 _ _ w3))), fun x3 y3 => ?_⟩
      have t3 := same_upd (o := .lst (ls.map V.int)) y3
      refine ⟨x1, x2, x3, rs, bs, ls, rfl, SqL.of (t3 _ _ (t2 _ _ upd_same)), SqL.of (t3 _ _ upd_same), SqL.of upd_same, Two.good g gb gl hBb hBl ⟨fun _ H5 s5 => ?_, fun z => absurd hw.symm z⟩⟩
      have s05 := ((t1.trans t2).trans t3).trans s5
      rw [hNa]
      obtain ⟨tot, htot⟩ : ∃ tot, tot = (qs.map abs').sum := ⟨_, rfl⟩
      rw [← htot] at hsum hpar hNa
      rw [← htot]
      refine ⟨_, rfl, _, rfl, _, rfl, ite_f rfl ?_⟩
      refine ⟨_, rfl, _, rfl, _, _, rfl, rfl, _, rfl, ite_f (decide_eq_false (by omega)) ?_⟩
      refine ⟨_, rfl, _, rfl, _, _, rfl, rfl, _, _, rfl, rfl, (show (0 : Int) < 2 by decide), rfl, _, rfl, ite_f (decide_eq_false (by show ¬ V.int (((d : Int) - tot) % 2) = V.int 1; rw [hpar]; simp)) ?_⟩
      have w1 := s05 _ _ w1
      have w2 := s05 _ _ w2
      have w3 := s05 _ _ w3
      have w4 := s05 _ _ w4
      clear t1 t2 t3 s5 s05
      -- net
      refine ⟨_, rfl, p1, _, rfl, .inl (SqL.of w1), fun x1 y1 => ?_⟩
      have t1 := same_upd (o := .lst (rs.map V.int)) y1
      refine ⟨_, rfl, p2, _, rfl, .inl (SqL.of (t1 _ _ w2)), fun x2 y2 => ?_⟩
      have t2 := same_upd (o := .lst (bs.map V.int)) y2
      refine ⟨_, rfl, p3, _, rfl, .inl (SqL.of (t2 _ _ (t1 _ _ w3))), fun x3 y3 => ?_⟩
      have t3 := same_upd (o := .lst (ls.map V.int)) y3
      refine ⟨x1, x2, x3, rs, bs, ls, rfl, SqL.of (t3 _ _ (t2 _ _ upd_same)), SqL.of (t3 _ _ upd_same), SqL.of upd_same, Two.good g gb gl hBb hBl ⟨fun _ H6 p6 s6 n6 e6 => ?_, fun z => absurd hw.symm z⟩⟩
      have s06 := ((t1.trans t2).trans t3).trans s6
      rw [hN] at e6
      have w1 := s06 _ _ w1
      have w2 := s06 _ _ w2
      have w3 := s06 _ _ w3
      have w4 := s06 _ _ w4
      refine ⟨_, rfl, p6, p4, qs, rfl, e6, SqL.of w4, by omega, _, rfl, ite_f rfl ?_⟩
      clear t1 t2 t3 s6 s06
      -- sum of abs
      refine ⟨_, rfl, _, rfl, p4, rfl, ⟨_, SqL.of w4⟩, fun T2 hT2 => ?_⟩
      refine lc_list (K := K) (a := p4) (xs := qs.map V.int) (Gr H6 T2 ((qs.map abs').map V.int)) (Gr.zero _ hT2) (fun i H' _ gr => gr.1.seq (SqL.of w4)) ?_ ?_
      · rintro i x H' hx gr
        obtain ⟨z, hz, rfl⟩ := get_map hx
        refine ⟨rfl, _, rfl, z, rfl, _, gr.step hT2 (by rw [List.length_map, List.length_map]; omega) (map_get (z := abs' z) ?_) (Same.refl _)⟩
        rw [List.getElem?_map, hz]
        rfl
      intro H7 gr
      have w5 := gr.done (by rw [List.length_map, List.length_map, List.length_map]; exact Nat.le_refl _)
      refine ⟨T2, _, rfl, SqL.of w5, rfl, _, rfl, ite_f ?_ ?_⟩
      · rw [← htot]
        simp
      have w1 := gr.1 _ _ w1
      have w2 := gr.1 _ _ w2
      have w3 := gr.1 _ _ w3
      clear gr w5 w4 e6
      -- way
      refine ⟨_, rfl, p1, _, rfl, .inl (SqL.of w1), fun x1 y1 => ?_⟩
      have t1 := same_upd (o := .lst (rs.map V.int)) y1
      refine ⟨_, rfl, p2, _, rfl, .inl (SqL.of (t1 _ _ w2)), fun x2 y2 => ?_⟩
      have t2 := same_upd (o := .lst (bs.map V.int)) y2
      refine ⟨_, rfl, p3, _, rfl, .inl (SqL.of (t2 _ _ (t1 _ _ w3))), fun x3 y3 => ?_⟩
      have t3 := same_upd (o := .lst (ls.map V.int)) y3
      refine ⟨x1, x2, x3, rs, bs, ls, rfl, SqL.of (t3 _ _ (t2 _ _ upd_same)), SqL.of (t3 _ _ upd_same), SqL.of upd_same, Two.good g gb gl hBb hBl ⟨fun _ => ⟨fun _ H8 p8 ts8 s8 n8 e8 h8 => ?_, fun z => by rw [hNa] at z; omega⟩, fun z => absurd hw.symm z⟩⟩
      have s08 := ((t1.trans t2).trans t3).trans s8
      rw [hN] at h8
      have hl8 := h8.len
      have hwl := wayL_len qs
      rw [← htot] at hwl
      have w1 := s08 _ _ w1
      have w2 := s08 _ _ w2
      have w3 := s08 _ _ w3
      refine ⟨p8, _, rfl, .inl (SqL.of e8), _, rfl, rfl, _, rfl, ite_f ?_ ?_⟩
      · rw [List.length_map, hl8, hwl]
        simp
      clear t1 t2 t3 s8 s08 e8
      -- from a board to itself
      have hN0 : N rs ls ls = rs.map fun _ => 0 := Rel.net (c1 := 0) (c2 := 0) g.2 (Rel.start rs ls hll)
      have hz0 : ∀ xs : List Int, ((xs.map fun _ => (0 : Int)).map abs').sum = 0 := fun xs => by
        induction xs with
        | nil => rfl
        | cons x xs ih => rw [List.map_cons, List.map_cons, List.sum_cons, ih]; rfl
      have hNa0 : Nabs rs ls ls = 0 := by
        unfold Nabs
        rw [hN0]
        exact hz0 rs
      refine ⟨_, rfl, _, rfl, _, rfl, p3, _, rfl, .inl (SqL.of w3), fun x4 y4 => ?_⟩
      have t4 := same_upd (o := .lst (ls.map V.int)) y4
      refine ⟨p1, p3, x4, rs, ls, ls, rfl, SqL.of (t4 _ _ w1), SqL.of (t4 _ _ w3), SqL.of upd_same, Two.good g gl gl hBl hBl ⟨fun _ H9 s9 => ?_, fun z => absurd rfl z⟩⟩
      rw [hNa0]
      refine ⟨rfl, _, rfl, ite_t rfl ?_⟩
      have w1 := s9 _ _ (t4 _ _ w1)
      have w3 := s9 _ _ (t4 _ _ w3)
      refine ⟨_, rfl, _, rfl, _, rfl, p3, _, rfl, .inl (SqL.of w3), fun x5 y5 => ?_⟩
      have t5 := same_upd (o := .lst (ls.map V.int)) y5
      refine ⟨p1, p3, x5, rs, ls, ls, rfl, SqL.of (t5 _ _ w1), SqL.of (t5 _ _ w3), SqL.of upd_same, Two.good g gl gl hBl hBl ⟨fun _ => ⟨fun _ H10 p10 ts10 s10 n10 e10 h10 => ?_, fun z => by rw [hNa0] at z; omega⟩, fun z => absurd rfl z⟩⟩
      rw [hN0] at h10
      have hwl0 : wayL (rs.map fun _ => (0 : Int)) = [] := List.length_eq_zero_iff.mp (by have := wayL_len (rs.map fun _ => (0 : Int)); rw [hz0] at this; omega)
      rw [hwl0] at h10
      refine ⟨by show 0 ≤ sizeLine; decide, fun x6 y6 => ?_⟩
      have t6 := same_upd (o := .lst []) y6
      refine ⟨.list (([] : List (Int × Bool)).map dStep), .list (([] : List (Int × Bool)).map dStep), dp_LT (SqL.of (t6 _ _ e10)) (h10.same t6), .lst (SqL.of upd_same) .nil, shaped_dLT _, shaped_dLT _, ?_⟩
      rw [eqv_dLT, decide_eq_true rfl]
      exact q _
end
end CB
namespace CB
open PySem PySem.Spec PyProof.Rows L2
theorem all_mk {l : PySem.W.OpenLaw} {w : World} {K : PySem.W.Frag} {h : Heap} {mg : Str → Option Value} {fa : Addr} (X : K.In h) (G : h.Ns mainGlobals mg) (hfa : mg "law" = some (.ref fa))
    {t_MOST : Tok}
    {t_MOST_STEPS : Tok}
    {C_NoFrame : Addr}
    {C_NoBoard : Addr}
    {C_NoWay : Addr}
    {C_TooLong : Addr}
    {f_asked_frame : Addr} {od_asked_frame an_asked_frame : Option Addr} {sl_asked_frame : Array (Option Value)} {oc_asked_frame kV_asked_frame dc_asked_frame pm_asked_frame cd_asked_frame ct_asked_frame : Value}
    {f_asked_board : Addr} {od_asked_board an_asked_board : Option Addr} {sl_asked_board : Array (Option Value)} {oc_asked_board kV_asked_board dc_asked_board pm_asked_board cd_asked_board ct_asked_board : Value}
    {f_worths : Addr} {od_worths an_worths : Option Addr} {sl_worths : Array (Option Value)} {oc_worths kV_worths dc_worths pm_worths cd_worths ct_worths : Value}
    {f_worth : Addr} {od_worth an_worth : Option Addr} {sl_worth : Array (Option Value)} {oc_worth kV_worth dc_worth pm_worth cd_worth ct_worth : Value}
    {f_raisings : Addr} {od_raisings an_raisings : Option Addr} {sl_raisings : Array (Option Value)} {oc_raisings kV_raisings dc_raisings pm_raisings cd_raisings ct_raisings : Value}
    {f_net : Addr} {od_net an_net : Option Addr} {sl_net : Array (Option Value)} {oc_net kV_net dc_net pm_net cd_net ct_net : Value}
    {f_fewest : Addr} {od_fewest an_fewest : Option Addr} {sl_fewest : Array (Option Value)} {oc_fewest kV_fewest dc_fewest pm_fewest cd_fewest ct_fewest : Value}
    {f_way : Addr} {od_way an_way : Option Addr} {sl_way : Array (Option Value)} {oc_way kV_way dc_way pm_way cd_way ct_way : Value}
    {f_law_cell_at : Addr} {od_law_cell_at an_law_cell_at : Option Addr} {sl_law_cell_at : Array (Option Value)} {oc_law_cell_at kV_law_cell_at dc_law_cell_at pm_law_cell_at cd_law_cell_at ct_law_cell_at : Value}
    {f_law_whole : Addr} {od_law_whole an_law_whole : Option Addr} {sl_law_whole : Array (Option Value)} {oc_law_whole kV_law_whole dc_law_whole pm_law_whole cd_law_whole ct_law_whole : Value}
    {f_law_is_list : Addr} {od_law_is_list an_law_is_list : Option Addr} {sl_law_is_list : Array (Option Value)} {oc_law_is_list kV_law_is_list dc_law_is_list pm_law_is_list cd_law_is_list ct_law_is_list : Value}
    {f_law : Addr} {od_law an_law : Option Addr} {sl_law : Array (Option Value)} {oc_law kV_law dc_law pm_law cd_law ct_law : Value}
    (z_len : PySem.W.nsIn K mainGlobals "len" = some none)
    (z_list : PySem.W.nsIn K mainGlobals "list" = some none)
    (z_range : PySem.W.nsIn K mainGlobals "range" = some none)
    (z_isinstance : PySem.W.nsIn K mainGlobals "isinstance" = some none)
    (z_zip : PySem.W.nsIn K mainGlobals "zip" = some none)
    (z_reversed : PySem.W.nsIn K mainGlobals "reversed" = some none)
    (z_sum : PySem.W.nsIn K mainGlobals "sum" = some none)
    (z_all : PySem.W.nsIn K mainGlobals "all" = some none)
    (z_abs : PySem.W.nsIn K mainGlobals "abs" = some none)
    (z_max : PySem.W.nsIn K mainGlobals "max" = some none)
    (z_min : PySem.W.nsIn K mainGlobals "min" = some none)
    (z_str : PySem.W.nsIn K mainGlobals "str" = some none)
    (z_int : PySem.W.nsIn K mainGlobals "int" = some none)
    (z_bool : PySem.W.nsIn K mainGlobals "bool" = some none)
    (z_tuple : PySem.W.nsIn K mainGlobals "tuple" = some none)
    (z_ValueError : PySem.W.nsIn K mainGlobals "ValueError" = some none)
    (g_MOST : PySem.W.nsIn K mainGlobals "MOST" = some (some (.int 11 t_MOST)))
    (g_MOST_STEPS : PySem.W.nsIn K mainGlobals "MOST_STEPS" = some (some (.int 2000 t_MOST_STEPS)))
    (g_NoFrame : PySem.W.nsIn K mainGlobals "NoFrame" = some (some (.ref C_NoFrame)))
    (x_NoFrame : PySem.W.excIn K C_NoFrame [.type "ValueError", .type "Exception", .type "BaseException", .type "object"] "ValueError.__new__" = true)
    (k_NoFrame : PySem.W.keepIn K (.ref C_NoFrame) = true)
    (b_NoFrame : PySem.W.subIn K (.ref C_NoFrame) (.type "BaseException") = some true)
    (t_NoFrame : PySem.W.typeIn K (.ref C_NoFrame) = some (.type "type"))
    (g_NoBoard : PySem.W.nsIn K mainGlobals "NoBoard" = some (some (.ref C_NoBoard)))
    (x_NoBoard : PySem.W.excIn K C_NoBoard [.type "ValueError", .type "Exception", .type "BaseException", .type "object"] "ValueError.__new__" = true)
    (k_NoBoard : PySem.W.keepIn K (.ref C_NoBoard) = true)
    (b_NoBoard : PySem.W.subIn K (.ref C_NoBoard) (.type "BaseException") = some true)
    (t_NoBoard : PySem.W.typeIn K (.ref C_NoBoard) = some (.type "type"))
    (g_NoWay : PySem.W.nsIn K mainGlobals "NoWay" = some (some (.ref C_NoWay)))
    (x_NoWay : PySem.W.excIn K C_NoWay [.type "ValueError", .type "Exception", .type "BaseException", .type "object"] "ValueError.__new__" = true)
    (k_NoWay : PySem.W.keepIn K (.ref C_NoWay) = true)
    (b_NoWay : PySem.W.subIn K (.ref C_NoWay) (.type "BaseException") = some true)
    (t_NoWay : PySem.W.typeIn K (.ref C_NoWay) = some (.type "type"))
    (g_TooLong : PySem.W.nsIn K mainGlobals "TooLong" = some (some (.ref C_TooLong)))
    (x_TooLong : PySem.W.excIn K C_TooLong [.type "ValueError", .type "Exception", .type "BaseException", .type "object"] "ValueError.__new__" = true)
    (k_TooLong : PySem.W.keepIn K (.ref C_TooLong) = true)
    (b_TooLong : PySem.W.subIn K (.ref C_TooLong) (.type "BaseException") = some true)
    (t_TooLong : PySem.W.typeIn K (.ref C_TooLong) = some (.type "type"))
    (a_asked_frame : PySem.W.nsIn K mainGlobals "asked_frame" = some (some (.ref f_asked_frame)))
    (l_asked_frame : K.lookup f_asked_frame = some ⟨oc_asked_frame, od_asked_frame, .func (PySem.W.fnOf "asked_frame" "asked_frame" (defArgs s_asked_frame) (defBody s_asked_frame) (defScope s_asked_frame) .none kV_asked_frame dc_asked_frame pm_asked_frame an_asked_frame cd_asked_frame ct_asked_frame), sl_asked_frame⟩)
    (c_asked_frame : PySem.W.codeIn K cd_asked_frame "asked_frame" = true)
    (p_asked_frame : PySem.W.keepIn K (.ref f_asked_frame) = true)
    (a_asked_board : PySem.W.nsIn K mainGlobals "asked_board" = some (some (.ref f_asked_board)))
    (l_asked_board : K.lookup f_asked_board = some ⟨oc_asked_board, od_asked_board, .func (PySem.W.fnOf "asked_board" "asked_board" (defArgs s_asked_board) (defBody s_asked_board) (defScope s_asked_board) .none kV_asked_board dc_asked_board pm_asked_board an_asked_board cd_asked_board ct_asked_board), sl_asked_board⟩)
    (c_asked_board : PySem.W.codeIn K cd_asked_board "asked_board" = true)
    (p_asked_board : PySem.W.keepIn K (.ref f_asked_board) = true)
    (a_worths : PySem.W.nsIn K mainGlobals "worths" = some (some (.ref f_worths)))
    (l_worths : K.lookup f_worths = some ⟨oc_worths, od_worths, .func (PySem.W.fnOf "worths" "worths" (defArgs s_worths) (defBody s_worths) (defScope s_worths) .none kV_worths dc_worths pm_worths an_worths cd_worths ct_worths), sl_worths⟩)
    (c_worths : PySem.W.codeIn K cd_worths "worths" = true)
    (p_worths : PySem.W.keepIn K (.ref f_worths) = true)
    (a_worth : PySem.W.nsIn K mainGlobals "worth" = some (some (.ref f_worth)))
    (l_worth : K.lookup f_worth = some ⟨oc_worth, od_worth, .func (PySem.W.fnOf "worth" "worth" (defArgs s_worth) (defBody s_worth) (defScope s_worth) .none kV_worth dc_worth pm_worth an_worth cd_worth ct_worth), sl_worth⟩)
    (c_worth : PySem.W.codeIn K cd_worth "worth" = true)
    (p_worth : PySem.W.keepIn K (.ref f_worth) = true)
    (a_raisings : PySem.W.nsIn K mainGlobals "raisings" = some (some (.ref f_raisings)))
    (l_raisings : K.lookup f_raisings = some ⟨oc_raisings, od_raisings, .func (PySem.W.fnOf "raisings" "raisings" (defArgs s_raisings) (defBody s_raisings) (defScope s_raisings) .none kV_raisings dc_raisings pm_raisings an_raisings cd_raisings ct_raisings), sl_raisings⟩)
    (c_raisings : PySem.W.codeIn K cd_raisings "raisings" = true)
    (p_raisings : PySem.W.keepIn K (.ref f_raisings) = true)
    (a_net : PySem.W.nsIn K mainGlobals "net" = some (some (.ref f_net)))
    (l_net : K.lookup f_net = some ⟨oc_net, od_net, .func (PySem.W.fnOf "net" "net" (defArgs s_net) (defBody s_net) (defScope s_net) .none kV_net dc_net pm_net an_net cd_net ct_net), sl_net⟩)
    (c_net : PySem.W.codeIn K cd_net "net" = true)
    (p_net : PySem.W.keepIn K (.ref f_net) = true)
    (a_fewest : PySem.W.nsIn K mainGlobals "fewest" = some (some (.ref f_fewest)))
    (l_fewest : K.lookup f_fewest = some ⟨oc_fewest, od_fewest, .func (PySem.W.fnOf "fewest" "fewest" (defArgs s_fewest) (defBody s_fewest) (defScope s_fewest) .none kV_fewest dc_fewest pm_fewest an_fewest cd_fewest ct_fewest), sl_fewest⟩)
    (c_fewest : PySem.W.codeIn K cd_fewest "fewest" = true)
    (p_fewest : PySem.W.keepIn K (.ref f_fewest) = true)
    (a_way : PySem.W.nsIn K mainGlobals "way" = some (some (.ref f_way)))
    (l_way : K.lookup f_way = some ⟨oc_way, od_way, .func (PySem.W.fnOf "way" "way" (defArgs s_way) (defBody s_way) (defScope s_way) .none kV_way dc_way pm_way an_way cd_way ct_way), sl_way⟩)
    (c_way : PySem.W.codeIn K cd_way "way" = true)
    (p_way : PySem.W.keepIn K (.ref f_way) = true)
    (a_law_cell_at : PySem.W.nsIn K mainGlobals "_law_cell_at" = some (some (.ref f_law_cell_at)))
    (l_law_cell_at : K.lookup f_law_cell_at = some ⟨oc_law_cell_at, od_law_cell_at, .func (PySem.W.fnOf "_law_cell_at" "_law_cell_at" (defArgs s_law_cell_at) (defBody s_law_cell_at) (defScope s_law_cell_at) .none kV_law_cell_at dc_law_cell_at pm_law_cell_at an_law_cell_at cd_law_cell_at ct_law_cell_at), sl_law_cell_at⟩)
    (c_law_cell_at : PySem.W.codeIn K cd_law_cell_at "_law_cell_at" = true)
    (p_law_cell_at : PySem.W.keepIn K (.ref f_law_cell_at) = true)
    (a_law_whole : PySem.W.nsIn K mainGlobals "_law_whole" = some (some (.ref f_law_whole)))
    (l_law_whole : K.lookup f_law_whole = some ⟨oc_law_whole, od_law_whole, .func (PySem.W.fnOf "_law_whole" "_law_whole" (defArgs s_law_whole) (defBody s_law_whole) (defScope s_law_whole) .none kV_law_whole dc_law_whole pm_law_whole an_law_whole cd_law_whole ct_law_whole), sl_law_whole⟩)
    (c_law_whole : PySem.W.codeIn K cd_law_whole "_law_whole" = true)
    (p_law_whole : PySem.W.keepIn K (.ref f_law_whole) = true)
    (a_law_is_list : PySem.W.nsIn K mainGlobals "_law_is_list" = some (some (.ref f_law_is_list)))
    (l_law_is_list : K.lookup f_law_is_list = some ⟨oc_law_is_list, od_law_is_list, .func (PySem.W.fnOf "_law_is_list" "_law_is_list" (defArgs s_law_is_list) (defBody s_law_is_list) (defScope s_law_is_list) .none kV_law_is_list dc_law_is_list pm_law_is_list an_law_is_list cd_law_is_list ct_law_is_list), sl_law_is_list⟩)
    (c_law_is_list : PySem.W.codeIn K cd_law_is_list "_law_is_list" = true)
    (p_law_is_list : PySem.W.keepIn K (.ref f_law_is_list) = true)
    (a_law : PySem.W.nsIn K mainGlobals "law" = some (some (.ref f_law)))
    (l_law : K.lookup f_law = some ⟨oc_law, od_law, .func (PySem.W.fnOf "law" "law" (defArgs s_law) (defBody s_law) (defScope s_law) .none kV_law dc_law pm_law an_law cd_law ct_law), sl_law⟩)
    (c_law : PySem.W.codeIn K cd_law "law" = true)
    (p_law : PySem.W.keepIn K (.ref f_law) = true) :
    ∃ fd : FuncData, (∀ (s : Shared) (v : Value), BindsTo s fd ⟨[v], []⟩ [("script", v)]) ∧ ∀ base : Heap, K.In base → base.Ns mainGlobals mg → FnOk l.prog w K mg base (L2.CX l.prog w) 7 fa fd ["script"] (sp_law K) := by
  have e := hfa.symm.trans (PySem.W.mg_of X G a_law)
  cases e
  have B : Bi mg := ⟨PySem.W.mg_none_of X G z_len, PySem.W.mg_none_of X G z_list, PySem.W.mg_none_of X G z_range, PySem.W.mg_none_of X G z_isinstance, PySem.W.mg_none_of X G z_zip, PySem.W.mg_none_of X G z_reversed, PySem.W.mg_none_of X G z_sum, PySem.W.mg_none_of X G z_all, PySem.W.mg_none_of X G z_abs, PySem.W.mg_none_of X G z_max, PySem.W.mg_none_of X G z_min, PySem.W.mg_none_of X G z_str, PySem.W.mg_none_of X G z_int, PySem.W.mg_none_of X G z_bool, PySem.W.mg_none_of X G z_tuple, PySem.W.mg_none_of X G z_ValueError⟩
  have m_MOST : ∃ t, mg "MOST" = some (.int 11 t) := ⟨_, PySem.W.mg_of X G g_MOST⟩
  have m_MOST_STEPS : ∃ t, mg "MOST_STEPS" = some (.int 2000 t) := ⟨_, PySem.W.mg_of X G g_MOST_STEPS⟩
  have e_NoFrame : Er K mg "NoFrame" := er_mk (PySem.W.mg_of X G g_NoFrame) x_NoFrame k_NoFrame b_NoFrame t_NoFrame
  have e_NoBoard : Er K mg "NoBoard" := er_mk (PySem.W.mg_of X G g_NoBoard) x_NoBoard k_NoBoard b_NoBoard t_NoBoard
  have e_NoWay : Er K mg "NoWay" := er_mk (PySem.W.mg_of X G g_NoWay) x_NoWay k_NoWay b_NoWay t_NoWay
  have e_TooLong : Er K mg "TooLong" := er_mk (PySem.W.mg_of X G g_TooLong) x_TooLong k_TooLong b_TooLong t_TooLong
  have F_asked_frame := fun_mk (st := s_asked_frame) l_asked_frame c_asked_frame p_asked_frame
  have b_asked_frame := F_asked_frame.binds (ps := ["ratios"]) fun _ _ _ _ _ _ us hl => match us, hl with | [_], _ => rfl
  have F_asked_board := fun_mk (st := s_asked_board) l_asked_board c_asked_board p_asked_board
  have b_asked_board := F_asked_board.binds (ps := ["ratios", "board"]) fun _ _ _ _ _ _ us hl => match us, hl with | [_, _], _ => rfl
  have F_worths := fun_mk (st := s_worths) l_worths c_worths p_worths
  have b_worths := F_worths.binds (ps := ["ratios"]) fun _ _ _ _ _ _ us hl => match us, hl with | [_], _ => rfl
  have F_worth := fun_mk (st := s_worth) l_worth c_worth p_worth
  have b_worth := F_worth.binds (ps := ["ratios", "board"]) fun _ _ _ _ _ _ us hl => match us, hl with | [_, _], _ => rfl
  have F_raisings := fun_mk (st := s_raisings) l_raisings c_raisings p_raisings
  have b_raisings := F_raisings.binds (ps := ["ratios", "board"]) fun _ _ _ _ _ _ us hl => match us, hl with | [_, _], _ => rfl
  have F_net := fun_mk (st := s_net) l_net c_net p_net
  have b_net := F_net.binds (ps := ["ratios", "one", "other"]) fun _ _ _ _ _ _ us hl => match us, hl with | [_, _, _], _ => rfl
  have F_fewest := fun_mk (st := s_fewest) l_fewest c_fewest p_fewest
  have b_fewest := F_fewest.binds (ps := ["ratios", "one", "other"]) fun _ _ _ _ _ _ us hl => match us, hl with | [_, _, _], _ => rfl
  have F_way := fun_mk (st := s_way) l_way c_way p_way
  have b_way := F_way.binds (ps := ["ratios", "one", "other"]) fun _ _ _ _ _ _ us hl => match us, hl with | [_, _, _], _ => rfl
  have F_law_cell_at := fun_mk (st := s_law_cell_at) l_law_cell_at c_law_cell_at p_law_cell_at
  have b_law_cell_at := F_law_cell_at.binds (ps := ["script", "k"]) fun _ _ _ _ _ _ us hl => match us, hl with | [_, _], _ => rfl
  have F_law_whole := fun_mk (st := s_law_whole) l_law_whole c_law_whole p_law_whole
  have b_law_whole := F_law_whole.binds (ps := ["found"]) fun _ _ _ _ _ _ us hl => match us, hl with | [_], _ => rfl
  have F_law_is_list := fun_mk (st := s_law_is_list) l_law_is_list c_law_is_list p_law_is_list
  have b_law_is_list := F_law_is_list.binds (ps := ["found", "due"]) fun _ _ _ _ _ _ us hl => match us, hl with | [_, _], _ => rfl
  have F_law := fun_mk (st := s_law) l_law c_law p_law
  refine ⟨PySem.W.fnOf "law" "law" (defArgs s_law) (defBody s_law) (defScope s_law) .none kV_law dc_law pm_law an_law cd_law ct_law, fun s v => .of_eq rfl, fun base _ _ => ?_⟩
  have c_asked_frame : Callee l.prog w K mg base 1 "asked_frame" ["ratios"] (sp_asked_frame K mg) := Callee.mk' (ok_asked_frame F_asked_frame B (m_MOST := m_MOST) (e_NoFrame := e_NoFrame)) (PySem.W.mg_of X G a_asked_frame) p_asked_frame b_asked_frame
  have c_asked_board : Callee l.prog w K mg base 2 "asked_board" ["ratios", "board"] (sp_asked_board K mg) := Callee.mk' (ok_asked_board F_asked_board B (e_NoBoard := e_NoBoard) (c_asked_frame := c_asked_frame)) (PySem.W.mg_of X G a_asked_board) p_asked_board b_asked_board
  have c_worths : Callee l.prog w K mg base 2 "worths" ["ratios"] (sp_worths K mg) := Callee.mk' (ok_worths F_worths B (c_asked_frame := c_asked_frame)) (PySem.W.mg_of X G a_worths) p_worths b_worths
  have c_worth : Callee l.prog w K mg base 3 "worth" ["ratios", "board"] (sp_worth K mg) := Callee.mk' (ok_worth F_worth B (c_asked_board := c_asked_board) (c_worths := c_worths)) (PySem.W.mg_of X G a_worth) p_worth b_worth
  have c_raisings : Callee l.prog w K mg base 3 "raisings" ["ratios", "board"] (sp_raisings K mg) := Callee.mk' (ok_raisings F_raisings B (c_asked_board := c_asked_board)) (PySem.W.mg_of X G a_raisings) p_raisings b_raisings
  have c_net : Callee l.prog w K mg base 4 "net" ["ratios", "one", "other"] (sp_net K mg) := Callee.mk' (ok_net F_net B (e_NoWay := e_NoWay) (c_worth := c_worth) (c_raisings := c_raisings)) (PySem.W.mg_of X G a_net) p_net b_net
  have c_fewest : Callee l.prog w K mg base 5 "fewest" ["ratios", "one", "other"] (sp_fewest K mg) := Callee.mk' (ok_fewest F_fewest B (c_net := c_net)) (PySem.W.mg_of X G a_fewest) p_fewest b_fewest
  have c_way : Callee l.prog w K mg base 6 "way" ["ratios", "one", "other"] (sp_way K mg) := Callee.mk' (ok_way F_way B (m_MOST_STEPS := m_MOST_STEPS) (e_TooLong := e_TooLong) (c_net := c_net) (c_fewest := c_fewest)) (PySem.W.mg_of X G a_way) p_way b_way
  have c_law_cell_at : Callee l.prog w K mg base 1 "_law_cell_at" ["script", "k"] (sp_law_cell_at K mg) := Callee.mk' (ok_law_cell_at F_law_cell_at B) (PySem.W.mg_of X G a_law_cell_at) p_law_cell_at b_law_cell_at
  have c_law_whole : Callee l.prog w K mg base 1 "_law_whole" ["found"] (sp_law_whole K mg) := Callee.mk' (ok_law_whole F_law_whole B) (PySem.W.mg_of X G a_law_whole) p_law_whole b_law_whole
  have c_law_is_list : Callee l.prog w K mg base 2 "_law_is_list" ["found", "due"] (sp_law_is_list K mg) := Callee.mk' (ok_law_is_list F_law_is_list B (c_law_whole := c_law_whole)) (PySem.W.mg_of X G a_law_is_list) p_law_is_list b_law_is_list
  exact ok_law F_law B (c_fewest := c_fewest) (c_law_cell_at := c_law_cell_at) (c_law_whole := c_law_whole) (c_law_is_list := c_law_is_list) (c_way := c_way) (c_net := c_net)
end CB
open PySem PySem.W PyProof.Rows
set_option maxRecDepth 100000 in
set_option maxHeartbeats 0 in
theorem PySem.Challenge.cw_countboard_k11_whole_none_shorter_holds : PySem.Challenge.rw_countboard_k11_whole_none_shorter.Holds := by
  w_on; o_law; k_head; (case hw => w_witness2)
  k_fill
  refine L2.walk_of (l := PySem.Challenge.rw_countboard_k11_whole_none_shorter) (n := 63) (k := 7) (x := "script") (CX := fun w => L2.CX PySem.Challenge.rw_countboard_k11_whole_none_shorter.prog w) (sp := fun w => CB.sp_law _) rfl (by decide) rfl ⟨rfl, by decide, by decide⟩ (fun w h Y => PySem.W.kIn_of Y) ?F (fun _ _ a ns hl _ hS => ⟨a, ns, rfl, hS, hl, fun _ => rfl⟩) (CB.no_err _)
  case F =>
    intro w mg fa h KX G hmg
    refine' CB.all_mk KX G hmg ?z_len ?z_list ?z_range ?z_isinstance ?z_zip ?z_reversed ?z_sum ?z_all ?z_abs ?z_max ?z_min ?z_str ?z_int ?z_bool ?z_tuple ?z_ValueError ?g_MOST ?g_MOST_STEPS ?g_NoFrame ?x_NoFrame ?k_NoFrame ?b_NoFrame ?t_NoFrame ?g_NoBoard ?x_NoBoard ?k_NoBoard ?b_NoBoard ?t_NoBoard ?g_NoWay ?x_NoWay ?k_NoWay ?b_NoWay ?t_NoWay ?g_TooLong ?x_TooLong ?k_TooLong ?b_TooLong ?t_TooLong ?a_asked_frame ?l_asked_frame ?c_asked_frame ?p_asked_frame ?a_asked_board ?l_asked_board ?c_asked_board ?p_asked_board ?a_worths ?l_worths ?c_worths ?p_worths ?a_worth ?l_worth ?c_worth ?p_worth ?a_raisings ?l_raisings ?c_raisings ?p_raisings ?a_net ?l_net ?c_net ?p_net ?a_fewest ?l_fewest ?c_fewest ?p_fewest ?a_way ?l_way ?c_way ?p_way ?a_law_cell_at ?l_law_cell_at ?c_law_cell_at ?p_law_cell_at ?a_law_whole ?l_law_whole ?c_law_whole ?p_law_whole ?a_law_is_list ?l_law_is_list ?c_law_is_list ?p_law_is_list ?a_law ?l_law ?c_law ?p_law
    (case z_len => k_is)
    (case z_list => k_is)
    (case z_range => k_is)
    (case z_isinstance => k_is)
    (case z_zip => k_is)
    (case z_reversed => k_is)
    (case z_sum => k_is)
    (case z_all => k_is)
    (case z_abs => k_is)
    (case z_max => k_is)
    (case z_min => k_is)
    (case z_str => k_is)
    (case z_int => k_is)
    (case z_bool => k_is)
    (case z_tuple => k_is)
    (case z_ValueError => k_is)
    (case g_MOST => k_is)
    (case g_MOST_STEPS => k_is)
    (case g_NoFrame => k_is)
    (case x_NoFrame => k_exc)
    (case k_NoFrame => k_is)
    (case b_NoFrame => k_is)
    (case t_NoFrame => k_is)
    (case g_NoBoard => k_is)
    (case x_NoBoard => k_exc)
    (case k_NoBoard => k_is)
    (case b_NoBoard => k_is)
    (case t_NoBoard => k_is)
    (case g_NoWay => k_is)
    (case x_NoWay => k_exc)
    (case k_NoWay => k_is)
    (case b_NoWay => k_is)
    (case t_NoWay => k_is)
    (case g_TooLong => k_is)
    (case x_TooLong => k_exc)
    (case k_TooLong => k_is)
    (case b_TooLong => k_is)
    (case t_TooLong => k_is)
    (case a_asked_frame => k_is)
    (case l_asked_frame => k_is)
    (case c_asked_frame => k_is)
    (case p_asked_frame => k_is)
    (case a_asked_board => k_is)
    (case l_asked_board => k_is)
    (case c_asked_board => k_is)
    (case p_asked_board => k_is)
    (case a_worths => k_is)
    (case l_worths => k_is)
    (case c_worths => k_is)
    (case p_worths => k_is)
    (case a_worth => k_is)
    (case l_worth => k_is)
    (case c_worth => k_is)
    (case p_worth => k_is)
    (case a_raisings => k_is)
    (case l_raisings => k_is)
    (case c_raisings => k_is)
    (case p_raisings => k_is)
    (case a_net => k_is)
    (case l_net => k_is)
    (case c_net => k_is)
    (case p_net => k_is)
    (case a_fewest => k_is)
    (case l_fewest => k_is)
    (case c_fewest => k_is)
    (case p_fewest => k_is)
    (case a_way => k_is)
    (case l_way => k_is)
    (case c_way => k_is)
    (case p_way => k_is)
    (case a_law_cell_at => k_is)
    (case l_law_cell_at => k_is)
    (case c_law_cell_at => k_is)
    (case p_law_cell_at => k_is)
    (case a_law_whole => k_is)
    (case l_law_whole => k_is)
    (case c_law_whole => k_is)
    (case p_law_whole => k_is)
    (case a_law_is_list => k_is)
    (case l_law_is_list => k_is)
    (case c_law_is_list => k_is)
    (case p_law_is_list => k_is)
    (case a_law => k_is)
    (case l_law => k_is)
    (case c_law => k_is)
    (case p_law => k_is)
