import PyProof.Rows.All
import Wide.All
import OpenK.AllK
import Wide.FinOn
import KE.KStateDown
import HandS.ForMost
import HandS.Exc
import HandS.ExcInit
import HandS.ExcField
import HandS.TryMany
import HandS.Lambda
import HandS.Defaults
import HandS.MakeKwOnly
import HandS.IsInst
import HandS.TupSets
import HandS.SetBool
import HandS.Flow
import HandS.WordsExc
import HandS.HeadWalk
import HandS.Head0
import HandS.Head1
import HandS.Head2
import HandS.HeadEnd
import HandS.HeadHook1
import HandS.HeadHook2
import HandS.HeadHook3
import HandS.HeadHook4
import PySem.Challenge.RW_cornertrade_k17_whole_unfolded_rows_neve
import HandS.Walk
set_option Elab.async false
set_option linter.all false
set_option maxRecDepth 100000
set_option maxHeartbeats 0
/-! M1: arrows over the rationals, trades, wholes, folds: plain Lean. -/
namespace CT
abbrev Ar := Rat × Rat
def aZ : Ar := (0, 0)
def aL : Ar := (1, 0)
def sm (a b : Ar) : Ar := (a.1 + b.1, a.2 + b.2)
def df (a b : Ar) : Ar := (a.1 - b.1, a.2 - b.2)
def mt (a : Ar) : Ar := (a.1, 0 - a.2)
def md (a b : Ar) : Ar := (a.1 * b.1 - a.2 * b.2, a.1 * b.2 + a.2 * b.1)
def ot (a : Ar) (m : Rat) : Ar := (a.1 * m, a.2 * m)
def wt (a : Ar) : Rat := a.1 * a.1 + a.2 * a.2
def pd (a b : Ar) : Ar := ot (md a (mt b)) (1 / wt b)
def low (a b : Ar) : Ar := pd (sm a b) (mt (sm a b))
/-- the arrows of two rods that have traded places -/
def ex (a b : Ar) : Option (Ar × Ar) := if sm a b = aZ then none else some (md (low a b) (mt b), md (low a b) (mt a))

theorem ar_ext {a b : Ar} (h1 : a.1 = b.1) (h2 : a.2 = b.2) : a = b := Prod.ext h1 h2
theorem sq_nonneg (x : Rat) : 0 ≤ x * x := by
  rcases Rat.le_total (a := 0) (b := x) with h | h
  · exact Rat.mul_nonneg h h
  · have e : x * x = (-x) * (-x) := by grind
    rw [e]
    have h' : 0 ≤ -x := by grind
    exact Rat.mul_nonneg h' h'
theorem wt_nonneg (a : Ar) : 0 ≤ wt a := Rat.add_nonneg (sq_nonneg _) (sq_nonneg _)
theorem sq_zero {x : Rat} (h : x * x = 0) : x = 0 := by
  rcases Rat.mul_eq_zero.mp h with h | h <;> exact h
theorem wt_aZ : wt aZ = 0 := by unfold wt aZ; grind
theorem wt_zero {a : Ar} (h : wt a = 0) : a = aZ := by
  unfold wt at h
  have h1 := sq_nonneg a.1
  have h2 := sq_nonneg a.2
  have e1 : a.1 * a.1 = 0 := by grind
  have e2 : a.2 * a.2 = 0 := by grind
  exact ar_ext (sq_zero e1) (sq_zero e2)
theorem wt_ne {a : Ar} (h : a ≠ aZ) : wt a ≠ 0 := fun e => h (wt_zero e)
theorem wt_pos {a : Ar} (h : a ≠ aZ) : 0 < wt a := by
  have h1 := wt_nonneg a
  have h2 := wt_ne h
  grind
theorem wt_mt (a : Ar) : wt (mt a) = wt a := by unfold wt mt; grind
theorem mt_aZ : mt aZ = aZ := by unfold mt aZ; exact ar_ext rfl (by grind)
theorem mt_zero {a : Ar} : mt a = aZ ↔ a = aZ := by
  constructor
  · intro h
    refine wt_zero ?_
    rw [← wt_mt, h]
    exact wt_aZ
  · intro h
    subst h
    exact mt_aZ
/-- low by its parts -/
theorem low1 (a b : Ar) : (low a b).1 = ((sm a b).1 * (sm a b).1 - (sm a b).2 * (sm a b).2) * (1 / wt (sm a b)) := by
  unfold low pd
  rw [wt_mt]
  simp only [ot, md, mt]
  grind
theorem low2 (a b : Ar) : (low a b).2 = ((sm a b).1 * (sm a b).2 + (sm a b).2 * (sm a b).1) * (1 / wt (sm a b)) := by
  unfold low pd
  rw [wt_mt]
  simp only [ot, md, mt]
  grind
theorem low_wt {a b : Ar} (h : sm a b ≠ aZ) : wt (low a b) = 1 := by
  have hw := wt_ne h
  have e1 := low1 a b
  have e2 := low2 a b
  unfold wt at hw e1 e2 ⊢
  rw [e1, e2]
  generalize (sm a b).1 = x at hw ⊢
  generalize (sm a b).2 = y at hw ⊢
  have k : (x * x + y * y) * (1 / (x * x + y * y)) = 1 := by grind
  generalize 1 / (x * x + y * y) = r at k ⊢
  have : (x * x - y * y) * r * ((x * x - y * y) * r) + (x * y + y * x) * r * ((x * y + y * x) * r) = ((x * x + y * y) * r) * ((x * x + y * y) * r) := by grind
  rw [this, k]
  grind
/-- low made by the mate of the sum is the sum -/
theorem low_d {a b : Ar} (h : sm a b ≠ aZ) : md (low a b) (mt (sm a b)) = sm a b := by
  have hw := wt_ne h
  have e1 := low1 a b
  have e2 := low2 a b
  unfold wt at hw e1 e2
  refine ar_ext ?_ ?_
  · simp only [md, mt]
    rw [e1, e2]
    generalize (sm a b).1 = x at hw ⊢
    generalize (sm a b).2 = y at hw ⊢
    have k : (x * x + y * y) * (1 / (x * x + y * y)) = 1 := by grind
    generalize 1 / (x * x + y * y) = r at k ⊢
    have : (x * x - y * y) * r * x - (x * y + y * x) * r * (0 - y) = x * ((x * x + y * y) * r) := by grind
    rw [this, k]
    grind
  · simp only [md, mt]
    rw [e1, e2]
    generalize (sm a b).1 = x at hw ⊢
    generalize (sm a b).2 = y at hw ⊢
    have k : (x * x + y * y) * (1 / (x * x + y * y)) = 1 := by grind
    generalize 1 / (x * x + y * y) = r at k ⊢
    have : (x * x - y * y) * r * (0 - y) + (x * y + y * x) * r * x = y * ((x * x + y * y) * r) := by grind
    rw [this, k]
    grind
theorem wt_md (a b : Ar) : wt (md a b) = wt a * wt b := by unfold wt md; grind
/-- what a trade keeps -/
structure Traded (a b c d : Ar) : Prop where
  sum : sm c d = sm a b
  pro : md c (mt d) = md a (mt b)
  w1 : wt c = wt b
  w2 : wt d = wt a
theorem ex_some {a b c d : Ar} (h : ex a b = some (c, d)) : Traded a b c d := by
  unfold ex at h
  by_cases hz : sm a b = aZ
  · rw [if_pos hz] at h
    cases h
  · rw [if_neg hz] at h
    obtain ⟨rfl, rfl⟩ := Prod.mk.inj (Option.some.inj h)
    have hl := low_wt hz
    have hd := low_d hz
    generalize low a b = l at hl hd
    refine ⟨?_, ?_, ?_, ?_⟩
    · rw [← hd]
      refine ar_ext ?_ ?_
      · simp only [sm, md, mt]; grind
      · simp only [sm, md, mt]; grind
    · unfold wt at hl
      refine ar_ext ?_ ?_
      · simp only [md, mt]
        have : (l.1 * b.1 - l.2 * (0 - b.2)) * (l.1 * a.1 - l.2 * (0 - a.2)) - (l.1 * (0 - b.2) + l.2 * b.1) * (0 - (l.1 * (0 - a.2) + l.2 * a.1)) = (l.1 * l.1 + l.2 * l.2) * (a.1 * b.1 - a.2 * (0 - b.2)) := by grind
        rw [this, hl]
        grind
      · simp only [md, mt]
        have : (l.1 * b.1 - l.2 * (0 - b.2)) * (0 - (l.1 * (0 - a.2) + l.2 * a.1)) + (l.1 * (0 - b.2) + l.2 * b.1) * (l.1 * a.1 - l.2 * (0 - a.2)) = (l.1 * l.1 + l.2 * l.2) * (a.1 * (0 - b.2) + a.2 * b.1) := by grind
        rw [this, hl]
        grind
    · rw [wt_md, hl, wt_mt]; grind
    · rw [wt_md, hl, wt_mt]; grind
theorem ex_none {a b : Ar} (h : ex a b = none) : sm a b = aZ := by
  unfold ex at h
  by_cases hz : sm a b = aZ
  · exact hz
  · rw [if_neg hz] at h
    cases h

/-! ### wholes -/
def en (row : List Ar) (at_ : Int) : Ar := if 0 ≤ at_ ∧ at_ < row.length then row.getD at_.toNat aZ else aZ
abbrev Wh := List Ar × List Ar
def gr (w : Wh) (z : Ar) : Wh :=
  ((List.range (w.1.length + 1)).map fun (k : Nat) => df (en w.1 ((k : Int) - 1)) (md (en w.2 (k : Int)) (mt z)),
   (List.range (w.2.length + 1)).map fun (k : Nat) => sm (md (en w.1 (k : Int)) z) (en w.2 ((k : Int) - 1)))
def w0 : Wh := ([aL], [])
def wh (zs : List Ar) : Wh := zs.foldl gr w0
theorem gr_len (w : Wh) (z : Ar) : (gr w z).1.length = w.1.length + 1 ∧ (gr w z).2.length = w.2.length + 1 := by
  unfold gr
  simp
theorem wh_snoc (zs : List Ar) (z : Ar) : wh (zs ++ [z]) = gr (wh zs) z := by unfold wh; simp
theorem foldl_len (zs : List Ar) : ∀ w : Wh, (zs.foldl gr w).1.length = w.1.length + zs.length ∧ (zs.foldl gr w).2.length = w.2.length + zs.length := by
  induction zs with
  | nil => intro w; simp
  | cons z zs ih =>
    intro w
    have h := ih (gr w z)
    have g := gr_len w z
    rw [List.foldl_cons, List.length_cons]
    omega
theorem wh_len (zs : List Ar) : (wh zs).1.length = zs.length + 1 ∧ (wh zs).2.length = zs.length := by
  have h := foldl_len zs w0
  have e : w0.1.length = 1 ∧ w0.2.length = 0 := ⟨rfl, rfl⟩
  unfold wh
  omega
theorem en_out {row : List Ar} {k : Int} (h : k < 0 ∨ (row.length : Int) ≤ k) : en row k = aZ := by
  unfold en
  rw [if_neg (by omega)]
theorem en_map {n : Nat} {f : Nat → Ar} {k : Int} (h0 : 0 ≤ k) (h1 : k < n) : en ((List.range n).map f) k = f k.toNat := by
  unfold en
  have hk : k.toNat < n := by omega
  rw [if_pos ⟨h0, by simpa using h1⟩]
  rw [List.getD_eq_getElem?_getD, List.getElem?_map, List.getElem?_range hk]
  rfl
theorem sub_zero_ar (a : Ar) : df a aZ = a := by unfold df aZ; exact ar_ext (by grind) (by grind)
theorem md_zero_l (a : Ar) : md aZ a = aZ := by unfold md aZ; exact ar_ext (by grind) (by grind)
theorem sm_zz : sm aZ aZ = aZ := by unfold sm aZ; exact ar_ext (by grind) (by grind)
theorem df_zz : df aZ aZ = aZ := by unfold df aZ; exact ar_ext (by grind) (by grind)
/-- the entries of a grown whole, at every place -/
theorem gr_en1 {w : Wh} (hl : w.1.length = w.2.length + 1) (z : Ar) (k : Int) : en (gr w z).1 k = df (en w.1 (k - 1)) (md (en w.2 k) (mt z)) := by
  by_cases h : 0 ≤ k ∧ k < ((w.1.length + 1 : Nat) : Int)
  · unfold gr
    rw [en_map h.1 h.2]
    rw [show ((k.toNat : Nat) : Int) = k by omega]
  · rw [en_out (row := (gr w z).1) (by rw [(gr_len w z).1]; omega), en_out (row := w.1) (by omega), en_out (row := w.2) (by omega), md_zero_l, df_zz]
theorem gr_en2 {w : Wh} (hl : w.1.length = w.2.length + 1) (z : Ar) (k : Int) : en (gr w z).2 k = sm (md (en w.1 k) z) (en w.2 (k - 1)) := by
  by_cases h : 0 ≤ k ∧ k < ((w.2.length + 1 : Nat) : Int)
  · unfold gr
    rw [en_map h.1 h.2]
    rw [show ((k.toNat : Nat) : Int) = k by omega]
  · rw [en_out (row := (gr w z).2) (by rw [(gr_len w z).2]; omega), en_out (row := w.1) (by omega), en_out (row := w.2) (by omega), md_zero_l, sm_zz]
theorem en_ext {r s : List Ar} (hl : r.length = s.length) (h : ∀ k : Int, en r k = en s k) : r = s := by
  refine List.ext_getElem hl fun i h1 h2 => ?_
  have e := h i
  unfold en at e
  rw [if_pos ⟨by omega, by omega⟩, if_pos ⟨by omega, by omega⟩] at e
  simpa [List.getD_eq_getElem?_getD, h1, h2] using e
theorem gr_trade {w : Wh} (hl : w.1.length = w.2.length + 1) {a b c d : Ar} (t : Traded a b c d) : gr (gr w c) d = gr (gr w a) b := by
  have la := gr_len w a
  have lc := gr_len w c
  have ga : (gr w a).1.length = (gr w a).2.length + 1 := by omega
  have gc : (gr w c).1.length = (gr w c).2.length + 1 := by omega
  have s1 := congrArg Prod.fst t.sum
  have s2 := congrArg Prod.snd t.sum
  have p1 := congrArg Prod.fst t.pro
  have p2 := congrArg Prod.snd t.pro
  simp only [sm, md, mt] at s1 s2 p1 p2
  refine Prod.ext (en_ext ?_ fun k => ?_) (en_ext ?_ fun k => ?_)
  · rw [(gr_len (gr w c) d).1, (gr_len (gr w a) b).1]; omega
  · rw [gr_en1 gc, gr_en1 ga, gr_en1 hl, gr_en1 hl, gr_en2 hl, gr_en2 hl]
    generalize en w.1 (k - 1 - 1) = x
    generalize en w.2 (k - 1) = y
    generalize en w.1 k = v
    refine ar_ext ?_ ?_
    · simp only [sm, md, mt, df]; grind
    · simp only [sm, md, mt, df]; grind
  · rw [(gr_len (gr w c) d).2, (gr_len (gr w a) b).2]; omega
  · rw [gr_en2 gc, gr_en2 ga, gr_en1 hl, gr_en1 hl, gr_en2 hl, gr_en2 hl]
    generalize en w.1 (k - 1) = x
    generalize en w.2 (k - 1 - 1) = y
    generalize en w.2 k = v
    refine ar_ext ?_ ?_
    · simp only [sm, md, mt, df]; grind
    · simp only [sm, md, mt, df]; grind
theorem wh_trade (pre post : List Ar) {a b c d : Ar} (t : Traded a b c d) : wh (pre ++ c :: d :: post) = wh (pre ++ a :: b :: post) := by
  unfold wh
  rw [List.foldl_append, List.foldl_append, List.foldl_cons, List.foldl_cons, List.foldl_cons, List.foldl_cons]
  have hl : (pre.foldl gr w0).1.length = (pre.foldl gr w0).2.length + 1 := by
    have h := foldl_len pre w0
    have e : w0.1.length = 1 ∧ w0.2.length = 0 := ⟨rfl, rfl⟩
    omega
  rw [gr_trade hl t]

/-! ### folds -/
/-- the sum of powers where t t is - w: without t, with it -/
def rs (w : Rat) : List Ar → Ar × Ar
  | [] => (aZ, aZ)
  | x :: l => (df x (ot (rs w l).2 w), (rs w l).1)
def isF (p : Wh) (w : Rat) : Prop := rs w p.1 = (aZ, aZ) ∧ rs w p.2 = (aZ, aZ)
instance (p : Wh) (w : Rat) : Decidable (isF p w) := by unfold isF; exact inferInstance
/-- linear in its items -/
theorem rs_map (w : Rat) {α : Type} (f g : α → Ar) (s t : Ar) (h : Ar → Ar → Ar)
    (h0 : h aZ aZ = aZ) (h1 : ∀ x y u v, df (h x y) (ot (h u v) w) = h (df x (ot u w)) (df y (ot v w))) : ∀ l : List α, rs w (l.map fun k => h (f k) (g k)) = (h (rs w (l.map f)).1 (rs w (l.map g)).1, h (rs w (l.map f)).2 (rs w (l.map g)).2)
  | [] => by simp only [List.map_nil, rs]; rw [h0]
  | x :: l => by
    have ih := rs_map w f g s t h h0 h1 l
    simp only [List.map_cons, rs]
    rw [ih]
    simp only
    rw [h1]
theorem rs_zeros (w : Rat) : ∀ l : List Ar, (∀ x ∈ l, x = aZ) → rs w l = (aZ, aZ)
  | [], _ => rfl
  | x :: l, h => by
    have ih := rs_zeros w l fun y hy => h y (List.mem_cons_of_mem _ hy)
    have e := h x List.mem_cons_self
    simp only [rs]
    rw [ih, e]
    refine Prod.ext (ar_ext ?_ ?_) rfl
    · simp only [df, ot, aZ]; grind
    · simp only [df, ot, aZ]; grind
/-- noughts behind -/
theorem rs_pad (w : Rat) : ∀ (l z : List Ar), (∀ x ∈ z, x = aZ) → rs w (l ++ z) = rs w l
  | [], z, h => by rw [List.nil_append, rs_zeros w z h]; rfl
  | x :: l, z, h => by
    have ih := rs_pad w l z h
    simp only [List.cons_append, rs]
    rw [ih]
/-- a row's own entries, and noughts behind -/
theorem en_range {r : List Ar} : ∀ {n : Nat}, r.length ≤ n → ∃ z : List Ar, (∀ x ∈ z, x = aZ) ∧ (List.range n).map (fun (k : Nat) => en r (k : Int)) = r ++ z := by
  intro n h
  refine ⟨List.replicate (n - r.length) aZ, fun x hx => (List.eq_of_mem_replicate hx), ?_⟩
  refine List.ext_getElem (by simp; omega) fun i h1 h2 => ?_
  simp only [List.getElem_map, List.getElem_range]
  unfold en
  by_cases hi : i < r.length
  · rw [if_pos ⟨by omega, by omega⟩, List.getElem_append_left hi]
    simp [List.getD_eq_getElem?_getD, hi]
  · rw [if_neg (by omega), List.getElem_append_right (by omega), List.getElem_replicate]
/-- .. moved by one -/
theorem en_range1 {r : List Ar} {n : Nat} (h : r.length ≤ n) : ∃ z : List Ar, (∀ x ∈ z, x = aZ) ∧ (List.range (n + 1)).map (fun (k : Nat) => en r ((k : Int) - 1)) = aZ :: (r ++ z) := by
  obtain ⟨z, hz, e⟩ := en_range h
  refine ⟨z, hz, ?_⟩
  rw [List.range_succ_eq_map, List.map_cons, List.map_map, ← e]
  refine congr (congrArg List.cons (en_out (by omega))) (List.map_congr_left fun k _ => ?_)
  show en r (((k + 1 : Nat) : Int) - 1) = en r (k : Int)
  rw [show ((k + 1 : Nat) : Int) - 1 = (k : Int) by omega]
def tm (w : Rat) (x : Ar × Ar) : Ar × Ar := (df aZ (ot x.2 w), x.1)
theorem md_lin (w : Rat) (z u v : Ar) : md (df u (ot v w)) z = df (md u z) (ot (md v z) w) := by
  refine ar_ext ?_ ?_
  · simp only [md, df, ot]; grind
  · simp only [md, df, ot]; grind
theorem rs_md (w : Rat) (z : Ar) : ∀ l : List Ar, rs w (l.map fun x => md x z) = (md (rs w l).1 z, md (rs w l).2 z)
  | [] => by simp only [List.map_nil, rs]; rw [md_zero_l]
  | x :: l => by
    have ih := rs_md w z l
    simp only [List.map_cons, rs]
    rw [ih]
    simp only
    rw [md_lin]
/-- the rest of a grown whole -/
theorem gr_rs1 {p : Wh} (hl : p.1.length = p.2.length + 1) (z : Ar) (w : Rat) :
    rs w (gr p z).1 = (df (tm w (rs w p.1)).1 (md (rs w p.2).1 (mt z)), df (tm w (rs w p.1)).2 (md (rs w p.2).2 (mt z))) := by
  obtain ⟨z1, hz1, e1⟩ := en_range1 (r := p.1) (Nat.le_refl _)
  obtain ⟨z2, hz2, e2⟩ := en_range (r := p.2) (n := p.1.length + 1) (by omega)
  have q := rs_map w (fun k : Nat => en p.1 ((k : Int) - 1)) (fun k : Nat => md (en p.2 (k : Int)) (mt z)) aZ aZ df df_zz (by
    intro x y u v
    refine ar_ext ?_ ?_
    · simp only [df, ot]; grind
    · simp only [df, ot]; grind) (List.range (p.1.length + 1))
  unfold gr
  rw [q, e1]
  have e3 : (List.range (p.1.length + 1)).map (fun k : Nat => md (en p.2 (k : Int)) (mt z)) = (p.2 ++ z2).map fun x => md x (mt z) := by rw [← e2, List.map_map]; rfl
  rw [e3, rs_md, rs_pad w _ _ hz2]
  simp only [rs]
  rw [rs_pad w _ _ hz1]
  rfl
theorem gr_rs2 {p : Wh} (hl : p.1.length = p.2.length + 1) (z : Ar) (w : Rat) :
    rs w (gr p z).2 = (sm (md (rs w p.1).1 z) (tm w (rs w p.2)).1, sm (md (rs w p.1).2 z) (tm w (rs w p.2)).2) := by
  obtain ⟨z1, hz1, e1⟩ := en_range1 (r := p.2) (Nat.le_refl _)
  obtain ⟨z2, hz2, e2⟩ := en_range (r := p.1) (n := p.2.length + 1) (by omega)
  have q := rs_map w (fun k : Nat => md (en p.1 (k : Int)) z) (fun k : Nat => en p.2 ((k : Int) - 1)) aZ aZ sm sm_zz (by
    intro x y u v
    refine ar_ext ?_ ?_
    · simp only [sm, df, ot]; grind
    · simp only [sm, df, ot]; grind) (List.range (p.2.length + 1))
  unfold gr
  rw [q, e1]
  have e3 : (List.range (p.2.length + 1)).map (fun k : Nat => md (en p.1 (k : Int)) z) = (p.1 ++ z2).map fun x => md x z := by rw [← e2, List.map_map]; rfl
  rw [e3, rs_md, rs_pad w _ _ hz2]
  simp only [rs]
  rw [rs_pad w _ _ hz1]
  rfl
theorem tm_zero (w : Rat) : tm w (aZ, aZ) = (aZ, aZ) := by
  unfold tm
  refine Prod.ext (ar_ext ?_ ?_) rfl
  · simp only [df, ot, aZ]; grind
  · simp only [df, ot, aZ]; grind
/-- a fold stays when rods come behind -/
theorem isF_gr {p : Wh} (hl : p.1.length = p.2.length + 1) {w : Rat} (h : isF p w) (z : Ar) : isF (gr p z) w := by
  obtain ⟨h1, h2⟩ := h
  refine ⟨?_, ?_⟩
  · rw [gr_rs1 hl, h1, h2, tm_zero]
    simp only
    rw [md_zero_l, df_zz]
  · rw [gr_rs2 hl, h1, h2, tm_zero]
    simp only
    rw [md_zero_l, sm_zz]
theorem isF_foldl {w : Rat} : ∀ (zs : List Ar) {p : Wh}, p.1.length = p.2.length + 1 → isF p w → isF (zs.foldl gr p) w
  | [], _, _, h => h
  | z :: zs, p, hl, h => by
    rw [List.foldl_cons]
    exact isF_foldl zs (by have := gr_len p z; omega) (isF_gr hl h z)
/-- two rods that lie back on one another fold the row -/
theorem isF_flat {p : Wh} (hl : p.1.length = p.2.length + 1) {a b : Ar} (h : sm a b = aZ) : isF (gr (gr p a) b) (wt a) := by
  have hg : (gr p a).1.length = (gr p a).2.length + 1 := by have := gr_len p a; omega
  have s1 := congrArg Prod.fst h
  have s2 := congrArg Prod.snd h
  simp only [sm, aZ] at s1 s2
  have b1 : b.1 = -a.1 := by grind
  have b2 : b.2 = -a.2 := by grind
  refine ⟨?_, ?_⟩
  · rw [gr_rs1 hg, gr_rs1 hl, gr_rs2 hl]
    generalize rs (wt a) p.1 = x
    generalize rs (wt a) p.2 = y
    unfold wt
    refine Prod.ext (ar_ext ?_ ?_) (ar_ext ?_ ?_)
    all_goals simp only [tm, sm, md, mt, df, ot, aZ]; rw [b1, b2]; grind
  · rw [gr_rs2 hg, gr_rs1 hl, gr_rs2 hl]
    generalize rs (wt a) p.1 = x
    generalize rs (wt a) p.2 = y
    unfold wt
    refine Prod.ext (ar_ext ?_ ?_) (ar_ext ?_ ?_)
    all_goals simp only [tm, sm, md, mt, df, ot, aZ]; rw [b1, b2]; grind
theorem wh_flat (pre post : List Ar) {a b : Ar} (h : sm a b = aZ) : isF (wh (pre ++ a :: b :: post)) (wt a) := by
  unfold wh
  rw [List.foldl_append, List.foldl_cons, List.foldl_cons]
  have hl : (pre.foldl gr w0).1.length = (pre.foldl gr w0).2.length + 1 := by
    have h := foldl_len pre w0
    have e : w0.1.length = 1 ∧ w0.2.length = 0 := ⟨rfl, rfl⟩
    omega
  refine isF_foldl post ?_ (isF_flat hl h)
  have h1 := gr_len (pre.foldl gr w0) a
  have h2 := gr_len (gr (pre.foldl gr w0) a) b
  omega
end CT

/-! M2: sizes: plain Lean. -/
namespace CT
/-- at most n bits above and beneath -/
def Bt (n : Nat) (q : Rat) : Prop := ∃ (D : Nat) (m : Int), 0 < D ∧ D < 2 ^ n ∧ m.natAbs < 2 ^ n ∧ q * (D : Rat) = (m : Rat)
theorem natR_ne {D : Nat} (h : 0 < D) : (D : Rat) ≠ 0 := fun e => by
  have h' : (0 : Rat) < (D : Rat) := Rat.natCast_pos.mpr h
  rw [e] at h'
  exact Rat.lt_irrefl h'
theorem Bt.eq {D : Nat} {m : Int} {q : Rat} (h : 0 < D) (e : q * (D : Rat) = (m : Rat)) : q = mkRat m D := by
  have hD := natR_ne h
  rw [Rat.mkRat_eq_div, ← e, Rat.mul_div_cancel hD]
theorem Bt.den {n : Nat} {q : Rat} (h : Bt n q) : q.den < 2 ^ n := by
  obtain ⟨D, m, h0, h1, h2, e⟩ := h
  rw [Bt.eq h0 e, Rat.den_mkRat, if_neg (by omega)]
  exact Nat.lt_of_le_of_lt (Nat.div_le_self _ _) h1
theorem Bt.num {n : Nat} {q : Rat} (h : Bt n q) : q.num.natAbs < 2 ^ n := by
  obtain ⟨D, m, h0, h1, h2, e⟩ := h
  rw [Bt.eq h0 e, Rat.num_mkRat, if_neg (by omega)]
  refine Nat.lt_of_le_of_lt ?_ h2
  rw [Int.natAbs_ediv_of_dvd]
  · exact Nat.div_le_self _ _
  · exact Int.ofNat_dvd_left.mpr (Nat.gcd_dvd_right _ _)
theorem Bt.mono {a b : Nat} {q : Rat} (h : Bt a q) (hab : a ≤ b) : Bt b q := by
  obtain ⟨D, m, h0, h1, h2, e⟩ := h
  have hp : 2 ^ a ≤ 2 ^ b := Nat.pow_le_pow_right (by decide) hab
  exact ⟨D, m, h0, Nat.lt_of_lt_of_le h1 hp, Nat.lt_of_lt_of_le h2 hp, e⟩
theorem lt_mul {a b x y : Nat} (h1 : x < 2 ^ a) (h2 : y < 2 ^ b) : x * y < 2 ^ (a + b) := by
  rw [Nat.pow_add]
  exact Nat.mul_lt_mul'' h1 h2
theorem Bt.mul {a b : Nat} {q r : Rat} (h : Bt a q) (k : Bt b r) : Bt (a + b) (q * r) := by
  obtain ⟨D, m, h0, h1, h2, e⟩ := h
  obtain ⟨D', m', k0, k1, k2, e'⟩ := k
  refine ⟨D * D', m * m', Nat.mul_pos h0 k0, lt_mul h1 k1, by rw [Int.natAbs_mul]; exact lt_mul h2 k2, ?_⟩
  rw [Rat.intCast_mul, ← e, ← e', Rat.natCast_mul]
  grind
theorem Bt.add {a b : Nat} {q r : Rat} (h : Bt a q) (k : Bt b r) : Bt (a + b + 1) (q + r) := by
  obtain ⟨D, m, h0, h1, h2, e⟩ := h
  obtain ⟨D', m', k0, k1, k2, e'⟩ := k
  have x1 := lt_mul h2 k1
  have x2 := lt_mul h1 k2
  have x3 := lt_mul h1 k1
  have hp : 2 ^ (a + b + 1) = 2 ^ (a + b) * 2 := Nat.pow_succ ..
  refine ⟨D * D', m * D' + m' * D, Nat.mul_pos h0 k0, by omega, ?_, ?_⟩
  · have y1 : (m * (D' : Int)).natAbs = m.natAbs * D' := by rw [Int.natAbs_mul]; rfl
    have y2 : (m' * (D : Int)).natAbs = D * m'.natAbs := by rw [Int.natAbs_mul, Nat.mul_comm]; rfl
    have y3 := Int.natAbs_add_le (m * (D' : Int)) (m' * (D : Int))
    omega
  · rw [Rat.intCast_add, Rat.intCast_mul, Rat.intCast_mul, ← e, ← e', Rat.natCast_mul, Rat.intCast_natCast, Rat.intCast_natCast]
    grind
theorem Bt.neg {a : Nat} {q : Rat} (h : Bt a q) : Bt a (-q) := by
  obtain ⟨D, m, h0, h1, h2, e⟩ := h
  refine ⟨D, -m, h0, h1, by rw [Int.natAbs_neg]; exact h2, ?_⟩
  rw [Rat.intCast_neg, ← e]
  grind
theorem Bt.sub {a b : Nat} {q r : Rat} (h : Bt a q) (k : Bt b r) : Bt (a + b + 1) (q - r) := by
  rw [Rat.sub_eq_add_neg]
  exact h.add k.neg
theorem Bt.zero : Bt 1 0 := ⟨1, 0, by decide, by decide, by decide, by grind⟩
theorem Bt.one : Bt 1 1 := ⟨1, 1, by decide, by decide, by decide, by grind⟩
theorem Bt.inv {a : Nat} {q : Rat} (h : Bt a q) (hq : q ≠ 0) : Bt a (1 / q) := by
  obtain ⟨D, m, h0, h1, h2, e⟩ := h
  have hD := natR_ne h0
  have hm : m ≠ 0 := fun z => by
    subst z
    have : q * (D : Rat) = 0 := by rw [e]; rfl
    rcases Rat.mul_eq_zero.mp this with z | z
    · exact hq z
    · exact hD z
  rcases Int.lt_or_gt_of_ne hm with hneg | hpos
  · refine ⟨m.natAbs, -(D : Int), by omega, h2, by omega, ?_⟩
    have e1 : ((m.natAbs : Nat) : Rat) = -(m : Rat) := by
      rw [← Rat.intCast_natCast, ← Rat.intCast_neg]
      congr 1
      omega
    rw [e1, ← e, Rat.intCast_neg, Rat.intCast_natCast]
    grind
  · refine ⟨m.natAbs, (D : Int), by omega, h2, by omega, ?_⟩
    have e1 : ((m.natAbs : Nat) : Rat) = (m : Rat) := by
      rw [← Rat.intCast_natCast]
      congr 1
      omega
    rw [e1, ← e, Rat.intCast_natCast]
    grind
def Ba (n : Nat) (z : Ar) : Prop := Bt n z.1 ∧ Bt n z.2
theorem Ba.mono {a b : Nat} {z : Ar} (h : Ba a z) (hab : a ≤ b) : Ba b z := ⟨h.1.mono hab, h.2.mono hab⟩

/-! ### a common under -/
def IL (L : Nat) (z : Ar) : Prop := ∃ m1 m2 : Int, z.1 * (L : Rat) = (m1 : Rat) ∧ z.2 * (L : Rat) = (m2 : Rat)
/-- the arrows of a row have a common under below 2 ^ l, none is longer than 9 -/
def RowB (l : Nat) (zs : List Ar) : Prop := ∃ L : Nat, 0 < L ∧ L < 2 ^ l ∧ ∀ z ∈ zs, IL L z ∧ wt z ≤ 81 ∧ z ≠ aZ
theorem sq_le {m n : Int} {M : Nat} (h : m * m + n * n ≤ (M : Int) * M) : m.natAbs ≤ M := by
  rcases Nat.lt_or_ge M m.natAbs with c | c
  · exfalso
    have h1 : (M + 1) * (M + 1) ≤ m.natAbs * m.natAbs := Nat.mul_le_mul c c
    have h2 : (m.natAbs * m.natAbs : Nat) = (m * m) := Int.natAbs_mul_self
    have h3 : 0 ≤ n * n := by
      have := Int.natAbs_mul_self (a := n)
      omega
    have h4 : (((M + 1) * (M + 1) : Nat) : Int) ≤ ((m.natAbs * m.natAbs : Nat) : Int) := by exact_mod_cast h1
    have h5 : (((M + 1) * (M + 1) : Nat) : Int) = (M : Int) * M + 2 * M + 1 := by
      rw [Int.natCast_mul, Int.natCast_add]
      grind
    omega
  · exact c
theorem IL.sq {L : Nat} {z : Ar} {m1 m2 : Int} (e1 : z.1 * (L : Rat) = (m1 : Rat)) (e2 : z.2 * (L : Rat) = (m2 : Rat)) : ((m1 * m1 + m2 * m2 : Int) : Rat) = wt z * ((L * L : Nat) : Rat) := by
  rw [Rat.intCast_add, Rat.intCast_mul, Rat.intCast_mul, ← e1, ← e2, Rat.natCast_mul]
  unfold wt
  grind
theorem wt_sq_le {L : Nat} {z : Ar} {m1 m2 : Int} (e1 : z.1 * (L : Rat) = (m1 : Rat)) (e2 : z.2 * (L : Rat) = (m2 : Rat)) (h : wt z ≤ 81) : m1 * m1 + m2 * m2 ≤ ((81 * (L * L) : Nat) : Int) := by
  have q := IL.sq e1 e2
  refine Rat.intCast_le_intCast.mp ?_
  rw [q, Rat.intCast_natCast, Rat.natCast_mul 81]
  exact Rat.mul_le_mul_of_nonneg_right h Rat.natCast_nonneg
theorem il_le {L : Nat} {z : Ar} {m1 m2 : Int} (e1 : z.1 * (L : Rat) = (m1 : Rat)) (e2 : z.2 * (L : Rat) = (m2 : Rat)) (h : wt z ≤ 81) : m1.natAbs ≤ 9 * L ∧ m2.natAbs ≤ 9 * L := by
  have q := wt_sq_le e1 e2 h
  have e : ((81 * (L * L) : Nat) : Int) = ((9 * L : Nat) : Int) * ((9 * L : Nat) : Int) := by
    rw [Int.natCast_mul, Int.natCast_mul, Int.natCast_mul]
    grind
  rw [e] at q
  exact ⟨sq_le q, sq_le (by rw [Int.add_comm]; exact q)⟩
theorem pow4 (l : Nat) : 2 ^ (l + 4) = 16 * 2 ^ l := by rw [Nat.pow_add]; omega
theorem RowB.ba {l : Nat} {zs : List Ar} (h : RowB l zs) {z : Ar} (hz : z ∈ zs) : Ba (l + 4) z := by
  obtain ⟨L, h0, h1, hA⟩ := h
  obtain ⟨⟨m1, m2, e1, e2⟩, hw, _⟩ := hA z hz
  obtain ⟨b1, b2⟩ := il_le e1 e2 hw
  have p := pow4 l
  exact ⟨⟨L, m1, h0, by omega, by omega, e1⟩, ⟨L, m2, h0, by omega, by omega, e2⟩⟩
theorem RowB.wt {l : Nat} {zs : List Ar} (h : RowB l zs) {z : Ar} (hz : z ∈ zs) : Bt (2 * l + 7) (wt z) := by
  obtain ⟨L, h0, h1, hA⟩ := h
  obtain ⟨⟨m1, m2, e1, e2⟩, hw, _⟩ := hA z hz
  have q := wt_sq_le e1 e2 hw
  have s := IL.sq e1 e2
  have x := lt_mul h1 h1
  have p : 2 ^ (2 * l + 7) = 128 * 2 ^ (l + l) := by rw [Nat.pow_add, ← Nat.two_mul]; omega
  have n1 := Int.natAbs_mul_self (a := m1)
  have n2 := Int.natAbs_mul_self (a := m2)
  exact ⟨L * L, m1 * m1 + m2 * m2, Nat.mul_pos h0 h0, by omega, by omega, s.symm⟩
theorem RowB.ne {l : Nat} {zs : List Ar} (h : RowB l zs) {z : Ar} (hz : z ∈ zs) : z ≠ aZ := by
  obtain ⟨L, h0, h1, hA⟩ := h
  exact (hA z hz).2.2
theorem RowB.mono {a b : Nat} {zs : List Ar} (h : RowB a zs) (hab : a ≤ b) : RowB b zs := by
  obtain ⟨L, h0, h1, hA⟩ := h
  exact ⟨L, h0, Nat.lt_of_lt_of_le h1 (Nat.pow_le_pow_right (by decide) hab), hA⟩
theorem RowB.sub {l : Nat} {zs ys : List Ar} (h : RowB l zs) (hs : ∀ y ∈ ys, y ∈ zs) : RowB l ys := by
  obtain ⟨L, h0, h1, hA⟩ := h
  exact ⟨L, h0, h1, fun y hy => hA y (hs y hy)⟩

/-- behind a trade -/
theorem RowB.trade {l : Nat} {pre post : List Ar} {a b c d : Ar} (h : RowB l (pre ++ a :: b :: post)) (he : ex a b = some (c, d)) : RowB (3 * l + 9) (pre ++ c :: d :: post) := by
  obtain ⟨L, h0, h1, hA⟩ := h
  obtain ⟨⟨a1, a2, ea1, ea2⟩, wa, na⟩ := hA a (by simp)
  obtain ⟨⟨b1, b2, eb1, eb2⟩, wb, nb⟩ := hA b (by simp)
  have T := ex_some he
  have hz : sm a b ≠ aZ := fun z => by
    unfold ex at he
    rw [if_pos z] at he
    cases he
  -- N = (n1, n2), the sum by L
  have en1 : (sm a b).1 * (L : Rat) = ((a1 + b1 : Int) : Rat) := by rw [Rat.intCast_add, ← ea1, ← eb1]; simp only [sm]; grind
  have en2 : (sm a b).2 * (L : Rat) = ((a2 + b2 : Int) : Rat) := by rw [Rat.intCast_add, ← ea2, ← eb2]; simp only [sm]; grind
  have hL := natR_ne h0
  generalize hn1 : a1 + b1 = n1 at en1
  generalize hn2 : a2 + b2 = n2 at en2
  have sN := IL.sq en1 en2
  have wpos := wt_pos hz
  have hN : 0 < n1 * n1 + n2 * n2 := by
    refine Rat.intCast_pos.mp ?_
    rw [sN]
    exact Rat.mul_pos wpos (Rat.natCast_pos.mpr (Nat.mul_pos h0 h0))
  obtain ⟨K, hK⟩ : ∃ K : Nat, (K : Int) = n1 * n1 + n2 * n2 := ⟨(n1 * n1 + n2 * n2).toNat, by omega⟩
  have hK0 : 0 < K := by omega
  have eK : (K : Rat) = CT.wt (sm a b) * ((L * L : Nat) : Rat) := by rw [← sN, ← hK, Rat.intCast_natCast]
  -- low by K
  have k1 : (low a b).1 * (K : Rat) = ((n1 * n1 - n2 * n2 : Int) : Rat) := by
    rw [low1, eK, Rat.intCast_sub, Rat.intCast_mul, Rat.intCast_mul, ← en1, ← en2, Rat.natCast_mul]
    have hw := wt_ne hz
    have r : CT.wt (sm a b) * (1 / CT.wt (sm a b)) = 1 := by grind
    generalize CT.wt (sm a b) = v at r ⊢
    generalize (1 : Rat) / v = u at r ⊢
    grind
  have k2 : (low a b).2 * (K : Rat) = ((2 * (n1 * n2) : Int) : Rat) := by
    rw [low2, eK, Rat.intCast_mul, Rat.intCast_mul, ← en1, ← en2, Rat.natCast_mul]
    have hw := wt_ne hz
    have r : CT.wt (sm a b) * (1 / CT.wt (sm a b)) = 1 := by grind
    generalize CT.wt (sm a b) = v at r ⊢
    generalize (1 : Rat) / v = u at r ⊢
    have e2 : ((2 : Int) : Rat) = 2 := rfl
    rw [e2]
    grind
  have ecd : (c, d) = (md (low a b) (mt b), md (low a b) (mt a)) := by
    unfold ex at he
    rw [if_neg hz] at he
    exact (Option.some.inj he).symm
  obtain ⟨ec, ed⟩ := Prod.mk.inj ecd
  have mk : ∀ {z : Ar} {z1 z2 : Int}, z.1 * (L : Rat) = (z1 : Rat) → z.2 * (L : Rat) = (z2 : Rat) → IL (K * L) (md (low a b) (mt z)) := fun {z z1 z2} f1 f2 => by
    refine ⟨(n1 * n1 - n2 * n2) * z1 + 2 * (n1 * n2) * z2, 2 * (n1 * n2) * z1 - (n1 * n1 - n2 * n2) * z2, ?_, ?_⟩
    · rw [Rat.intCast_add, Rat.intCast_mul, Rat.intCast_mul (2 * (n1 * n2)), ← k1, ← k2, ← f1, ← f2, Rat.natCast_mul]
      simp only [md, mt]
      grind
    · rw [Rat.intCast_sub, Rat.intCast_mul, Rat.intCast_mul (n1 * n1 - n2 * n2), ← k1, ← k2, ← f1, ← f2, Rat.natCast_mul]
      simp only [md, mt]
      grind
  have up : ∀ {z : Ar}, IL L z → IL (K * L) z := fun {z} ⟨z1, z2, f1, f2⟩ => by
    refine ⟨K * z1, K * z2, ?_, ?_⟩
    · rw [Rat.intCast_mul, ← f1, Rat.natCast_mul, Rat.intCast_natCast]; grind
    · rw [Rat.intCast_mul, ← f2, Rat.natCast_mul, Rat.intCast_natCast]; grind
  -- how large
  have qa := wt_sq_le ea1 ea2 wa
  have qb := wt_sq_le eb1 eb2 wb
  have hKle : K ≤ 324 * (L * L) := by
    have par : (n1 * n1 + n2 * n2) + ((a1 - b1) * (a1 - b1) + (a2 - b2) * (a2 - b2)) = 2 * (a1 * a1 + a2 * a2) + 2 * (b1 * b1 + b2 * b2) := by
      rw [← hn1, ← hn2]
      grind
    have p1 := Int.natAbs_mul_self (a := a1 - b1)
    have p2 := Int.natAbs_mul_self (a := a2 - b2)
    omega
  have hsz : K * L < 2 ^ (3 * l + 9) := by
    have y1 : K * L ≤ 324 * (L * L) * L := Nat.mul_le_mul_right L hKle
    have y2 : 324 * (L * L) * L = 324 * (L * (L * L)) := by grind
    have y3 := lt_mul h1 (lt_mul h1 h1)
    have y4 : 2 ^ (3 * l + 9) = 512 * 2 ^ (l + (l + l)) := by rw [Nat.pow_add, show 3 * l = l + (l + l) by omega]; omega
    omega
  refine ⟨K * L, Nat.mul_pos hK0 h0, hsz, fun z hz' => ?_⟩
  have nz : ∀ {u v : Ar}, CT.wt u = CT.wt v → v ≠ aZ → u ≠ aZ := fun {u v} e hv z => hv (wt_zero (by rw [← e, z]; exact wt_aZ))
  rcases List.mem_append.mp hz' with m | m
  · obtain ⟨i, w, n⟩ := hA z (List.mem_append_left _ m)
    exact ⟨up i, w, n⟩
  · rcases List.mem_cons.mp m with rfl | m
    · rw [T.w1]
      refine ⟨by rw [ec]; exact mk eb1 eb2, wb, nz T.w1 nb⟩
    · rcases List.mem_cons.mp m with rfl | m
      · rw [T.w2]
        exact ⟨by rw [ed]; exact mk ea1 ea2, wa, nz T.w2 na⟩
      · obtain ⟨i, w, n⟩ := hA z (by simp [m])
        exact ⟨up i, w, n⟩
/-- bits of the common under behind k trades -/
def lb : Nat → Nat
  | 0 => 3
  | k + 1 => 3 * lb k + 9
theorem lb_mono : ∀ k, lb k ≤ lb (k + 1) := fun k => by show lb k ≤ 3 * lb k + 9; omega
theorem lb_le {i j : Nat} (h : i ≤ j) : lb i ≤ lb j := by
  induction h with
  | refl => exact Nat.le_refl _
  | step _ ih => exact Nat.le_trans ih (lb_mono _)
theorem lb10 : lb 10 = 442863 := by decide

/-! ### the whole's numbers -/
def CL (U M : Nat) (z : Ar) : Prop := ∃ m1 m2 : Int, z.1 * (U : Rat) = (m1 : Rat) ∧ z.2 * (U : Rat) = (m2 : Rat) ∧ m1.natAbs ≤ M * U ∧ m2.natAbs ≤ M * U
theorem CL.zero (U M : Nat) : CL U M aZ := ⟨0, 0, by simp only [aZ]; grind, by simp only [aZ]; grind, by simp, by simp⟩
theorem CL.up {U M L : Nat} {z : Ar} (h : CL U M z) : CL (U * L) M z := by
  obtain ⟨m1, m2, e1, e2, b1, b2⟩ := h
  refine ⟨m1 * L, m2 * L, ?_, ?_, ?_, ?_⟩
  · rw [Rat.intCast_mul, ← e1, Rat.natCast_mul, Rat.intCast_natCast]; grind
  · rw [Rat.intCast_mul, ← e2, Rat.natCast_mul, Rat.intCast_natCast]; grind
  · rw [Int.natAbs_mul, Int.natAbs_natCast, ← Nat.mul_assoc]; exact Nat.mul_le_mul_right L b1
  · rw [Int.natAbs_mul, Int.natAbs_natCast, ← Nat.mul_assoc]; exact Nat.mul_le_mul_right L b2
theorem CL.le {U M N : Nat} {z : Ar} (h : CL U M z) (hmn : M ≤ N) : CL U N z := by
  obtain ⟨m1, m2, e1, e2, b1, b2⟩ := h
  have := Nat.mul_le_mul_right U hmn
  exact ⟨m1, m2, e1, e2, by omega, by omega⟩
/-- made by an arrow of the row, or its mate -/
theorem CL.made {U M L : Nat} {z v : Ar} (h : CL U M z) {v1 v2 : Int} (f1 : v.1 * (L : Rat) = (v1 : Rat)) (f2 : v.2 * (L : Rat) = (v2 : Rat)) (b1 : v1.natAbs ≤ 9 * L) (b2 : v2.natAbs ≤ 9 * L) : CL (U * L) (18 * M) (md z v) := by
  obtain ⟨m1, m2, e1, e2, c1, c2⟩ := h
  have pr : ∀ {x y : Int}, x.natAbs ≤ M * U → y.natAbs ≤ 9 * L → (x * y).natAbs ≤ 9 * M * (U * L) := fun {x y} hx hy => by
    rw [Int.natAbs_mul]
    have := Nat.mul_le_mul hx hy
    have e : M * U * (9 * L) = 9 * M * (U * L) := by grind
    omega
  have d2 : 18 * M * (U * L) = 2 * (9 * M * (U * L)) := by grind
  refine ⟨m1 * v1 - m2 * v2, m1 * v2 + m2 * v1, ?_, ?_, ?_, ?_⟩
  · rw [Rat.intCast_sub, Rat.intCast_mul, Rat.intCast_mul, ← e1, ← e2, ← f1, ← f2, Rat.natCast_mul]
    simp only [md]
    grind
  · rw [Rat.intCast_add, Rat.intCast_mul, Rat.intCast_mul, ← e1, ← e2, ← f1, ← f2, Rat.natCast_mul]
    simp only [md]
    grind
  · have x := pr c1 b1
    have y := pr c2 b2
    have s := Int.natAbs_sub_le (m1 * v1) (m2 * v2)
    omega
  · have x := pr c1 b2
    have y := pr c2 b1
    have s := Int.natAbs_add_le (m1 * v2) (m2 * v1)
    omega
theorem CL.sm {U M N : Nat} {x y : Ar} (h : CL U M x) (k : CL U N y) : CL U (M + N) (sm x y) := by
  obtain ⟨m1, m2, e1, e2, c1, c2⟩ := h
  obtain ⟨n1, n2, f1, f2, d1, d2⟩ := k
  have e : (M + N) * U = M * U + N * U := Nat.add_mul ..
  refine ⟨m1 + n1, m2 + n2, ?_, ?_, ?_, ?_⟩
  · rw [Rat.intCast_add, ← e1, ← f1]; simp only [CT.sm]; grind
  · rw [Rat.intCast_add, ← e2, ← f2]; simp only [CT.sm]; grind
  · have := Int.natAbs_add_le m1 n1; omega
  · have := Int.natAbs_add_le m2 n2; omega
theorem CL.df {U M N : Nat} {x y : Ar} (h : CL U M x) (k : CL U N y) : CL U (M + N) (df x y) := by
  obtain ⟨m1, m2, e1, e2, c1, c2⟩ := h
  obtain ⟨n1, n2, f1, f2, d1, d2⟩ := k
  have e : (M + N) * U = M * U + N * U := Nat.add_mul ..
  refine ⟨m1 - n1, m2 - n2, ?_, ?_, ?_, ?_⟩
  · rw [Rat.intCast_sub, ← e1, ← f1]; simp only [CT.df]; grind
  · rw [Rat.intCast_sub, ← e2, ← f2]; simp only [CT.df]; grind
  · have := Int.natAbs_sub_le m1 n1; omega
  · have := Int.natAbs_sub_le m2 n2; omega
theorem en_cl {U M : Nat} {r : List Ar} (h : ∀ z ∈ r, CL U M z) (k : Int) : CL U M (en r k) := by
  unfold en
  by_cases hk : 0 ≤ k ∧ k < r.length
  · rw [if_pos hk]
    have hi : k.toNat < r.length := by omega
    rw [List.getD_eq_getElem?_getD, List.getElem?_eq_getElem hi]
    exact h _ (List.getElem_mem hi)
  · rw [if_neg hk]
    exact CL.zero U M
theorem gr_cl {U M L : Nat} {w : Wh} {z : Ar} (h1 : ∀ x ∈ w.1, CL U M x) (h2 : ∀ x ∈ w.2, CL U M x) (hz : IL L z) (hw : wt z ≤ 81) : (∀ x ∈ (gr w z).1, CL (U * L) (19 * M) x) ∧ ∀ x ∈ (gr w z).2, CL (U * L) (19 * M) x := by
  obtain ⟨z1, z2, e1, e2⟩ := hz
  obtain ⟨b1, b2⟩ := il_le e1 e2 hw
  have m1 : (mt z).1 * (L : Rat) = (z1 : Rat) := e1
  have m2 : (mt z).2 * (L : Rat) = ((-z2 : Int) : Rat) := by rw [Rat.intCast_neg, ← e2]; simp only [mt]; grind
  have b2' : (-z2).natAbs ≤ 9 * L := by rw [Int.natAbs_neg]; exact b2
  unfold gr
  constructor
  · intro x hx
    obtain ⟨k, _, rfl⟩ := List.mem_map.mp hx
    exact ((en_cl h1 _).up.df ((en_cl h2 _).made m1 m2 b1 b2')).le (by omega)
  · intro x hx
    obtain ⟨k, _, rfl⟩ := List.mem_map.mp hx
    exact (((en_cl h1 _).made e1 e2 b1 b2).sm (en_cl h2 _).up).le (by omega)
theorem foldl_cl {L : Nat} : ∀ (zs : List Ar) {U M : Nat} {w : Wh}, (∀ z ∈ zs, IL L z ∧ wt z ≤ 81 ∧ z ≠ aZ) → (∀ x ∈ w.1, CL U M x) → (∀ x ∈ w.2, CL U M x) →
    (∀ x ∈ (zs.foldl gr w).1, CL (U * L ^ zs.length) (M * 19 ^ zs.length) x) ∧ ∀ x ∈ (zs.foldl gr w).2, CL (U * L ^ zs.length) (M * 19 ^ zs.length) x
  | [], U, M, w, _, h1, h2 => by
    rw [List.foldl_nil, List.length_nil, Nat.pow_zero, Nat.pow_zero, Nat.mul_one, Nat.mul_one]
    exact ⟨h1, h2⟩
  | z :: zs, U, M, w, hA, h1, h2 => by
    obtain ⟨hz, hw, _⟩ := hA z List.mem_cons_self
    obtain ⟨g1, g2⟩ := gr_cl h1 h2 hz hw
    have ih := foldl_cl zs (fun y hy => hA y (List.mem_cons_of_mem _ hy)) g1 g2
    have e1 : U * L * L ^ zs.length = U * L ^ (zs.length + 1) := by rw [Nat.pow_succ]; grind
    have e2 : 19 * M * 19 ^ zs.length = M * 19 ^ (zs.length + 1) := by rw [Nat.pow_succ]; grind
    rw [e1, e2] at ih
    rw [List.foldl_cons, List.length_cons]
    exact ih
theorem wh_cl {L : Nat} (zs : List Ar) (hA : ∀ z ∈ zs, IL L z ∧ wt z ≤ 81 ∧ z ≠ aZ) : (∀ x ∈ (wh zs).1, CL (L ^ zs.length) (19 ^ zs.length) x) ∧ ∀ x ∈ (wh zs).2, CL (L ^ zs.length) (19 ^ zs.length) x := by
  have h := foldl_cl zs (U := 1) (M := 1) (w := w0) hA (fun x hx => by
    have e : x = aL := by simpa [w0] using hx
    subst e
    exact ⟨1, 0, by simp only [aL]; grind, by simp only [aL]; grind, by simp, by simp⟩) (fun x hx => by cases hx)
  rw [Nat.one_mul, Nat.one_mul] at h
  exact h
theorem pow_lt {L l n : Nat} (h : L < 2 ^ l) (h0 : 0 < L) : L ^ n ≤ 2 ^ (n * l) := by
  rw [Nat.mul_comm, Nat.pow_mul]
  exact Nat.pow_le_pow_left (Nat.le_of_lt h) n
/-- the whole of up to n rods -/
theorem RowB.wh {l : Nat} {zs : List Ar} (h : RowB l zs) {x : Ar} (hx : x ∈ (wh zs).1 ∨ x ∈ (wh zs).2) : Ba (zs.length * (l + 5) + 1) x := by
  obtain ⟨L, h0, h1, hA⟩ := h
  obtain ⟨c1, c2⟩ := wh_cl zs hA
  have c : CL (L ^ zs.length) (19 ^ zs.length) x := hx.elim (c1 x) (c2 x)
  obtain ⟨m1, m2, e1, e2, b1, b2⟩ := c
  have p1 : L ^ zs.length ≤ 2 ^ (zs.length * l) := pow_lt h1 h0
  have p2 : 19 ^ zs.length ≤ 2 ^ (zs.length * 5) := pow_lt (L := 19) (l := 5) (by decide) (by decide)
  have p3 := Nat.mul_le_mul p2 p1
  have e3 : 2 ^ (zs.length * 5) * 2 ^ (zs.length * l) = 2 ^ (zs.length * (l + 5)) := by rw [← Nat.pow_add]; congr 1; grind
  have e4 : 2 ^ (zs.length * (l + 5) + 1) = 2 * 2 ^ (zs.length * (l + 5)) := by rw [Nat.pow_succ]; omega
  have p4 : 0 < 2 ^ (zs.length * (l + 5)) := Nat.pow_pos (by decide)
  have p5 : 2 ^ (zs.length * l) ≤ 2 ^ (zs.length * (l + 5)) := Nat.pow_le_pow_right (by decide) (Nat.mul_le_mul_left _ (by omega))
  have p0 : 0 < L ^ zs.length := Nat.pow_pos h0
  exact ⟨⟨_, m1, p0, by omega, by omega, e1⟩, ⟨_, m2, p0, by omega, by omega, e2⟩⟩
end CT

/-! M3: the lists of folds, the least, the rising list, sums of powers by a loop: plain Lean. -/
namespace CT
/-- what `folded` tells of a row's arrows -/
def Folds (zs : List Ar) (fs : List Rat) : Prop := fs.Pairwise (fun a b => a < b) ∧ ∀ w, w ∈ fs ↔ (w ∈ zs.map wt ∧ isF (wh zs) w)
theorem sorted_unique : ∀ {l m : List Rat}, l.Pairwise (fun a b => a < b) → m.Pairwise (fun a b => a < b) → (∀ w, w ∈ l ↔ w ∈ m) → l = m
  | [], [], _, _, _ => rfl
  | [], b :: m, _, _, h => absurd ((h b).mpr List.mem_cons_self) (by simp)
  | a :: l, [], _, _, h => absurd ((h a).mp List.mem_cons_self) (by simp)
  | a :: l, b :: m, hl, hm, h => by
    obtain ⟨a1, a2⟩ := List.pairwise_cons.mp hl
    obtain ⟨b1, b2⟩ := List.pairwise_cons.mp hm
    have e : a = b := by
      rcases List.mem_cons.mp ((h a).mp List.mem_cons_self) with e | ha
      · exact e
      · rcases List.mem_cons.mp ((h b).mpr List.mem_cons_self) with e | hb
        · exact e.symm
        · have x := b1 a ha
          have y := a1 b hb
          grind
    subst e
    refine congrArg (a :: ·) (sorted_unique a2 b2 fun w => ⟨fun hw => ?_, fun hw => ?_⟩)
    · rcases List.mem_cons.mp ((h w).mp (List.mem_cons_of_mem _ hw)) with e | q
      · subst e
        exact absurd (a1 w hw) Rat.lt_irrefl
      · exact q
    · rcases List.mem_cons.mp ((h w).mpr (List.mem_cons_of_mem _ hw)) with e | q
      · subst e
        exact absurd (b1 w hw) Rat.lt_irrefl
      · exact q
/-- a trade keeps the folds -/
theorem folds_trade {pre post : List Ar} {a b c d : Ar} {fs gs : List Rat} (t : Traded a b c d) (h : Folds (pre ++ a :: b :: post) fs) (k : Folds (pre ++ c :: d :: post) gs) : gs = fs := by
  refine sorted_unique k.1 h.1 fun w => ?_
  rw [k.2, h.2, wh_trade pre post t]
  refine and_congr_left fun _ => ?_
  simp only [List.map_append, List.map_cons, List.mem_append, List.mem_cons]
  rw [t.w1, t.w2]
  constructor
  · rintro (h | h | h | h)
    · exact .inl h
    · exact .inr (.inr (.inl h))
    · exact .inr (.inl h)
    · exact .inr (.inr (.inr h))
  · rintro (h | h | h | h)
    · exact .inl h
    · exact .inr (.inr (.inl h))
    · exact .inr (.inl h)
    · exact .inr (.inr (.inr h))
/-- two that lie back: there is a fold -/
theorem folds_flat {pre post : List Ar} {a b : Ar} {fs : List Rat} (e : sm a b = aZ) (h : Folds (pre ++ a :: b :: post) fs) : fs ≠ [] := fun z => by
  have q := (h.2 (wt a)).mpr ⟨by simp, wh_flat pre post e⟩
  rw [z] at q
  cases q

/-! ### the least one -/
/-- the place that least_at has found behind the first n -/
def laS (ws : List Rat) (n k : Nat) : Prop := k < ws.length ∧ ∀ (i : Nat) (x y : Rat), i < n → ws[i]? = some x → ws[k]? = some y → y ≤ x
theorem laS.zero {ws : List Rat} (h : 0 < ws.length) : laS ws 0 0 := ⟨h, fun i x y hi => absurd hi (Nat.not_lt_zero _)⟩
theorem laS.keep {ws : List Rat} {n k : Nat} {x y : Rat} (h : laS ws n k) (hx : ws[n]? = some x) (hy : ws[k]? = some y) (hn : ¬ x < y) : laS ws (n + 1) k := by
  refine ⟨h.1, fun i x' y' hi e1 e2 => ?_⟩
  by_cases c : i < n
  · exact h.2 i x' y' c e1 e2
  · have e : i = n := by omega
    subst e
    rw [hx] at e1
    rw [hy] at e2
    cases e1
    cases e2
    exact Rat.not_lt.mp hn
theorem laS.new {ws : List Rat} {n k : Nat} {x y : Rat} (h : laS ws n k) (hx : ws[n]? = some x) (hy : ws[k]? = some y) (hn : x < y) : laS ws (n + 1) n := by
  refine ⟨(List.getElem?_eq_some_iff.mp hx).1, fun i x' y' hi e1 e2 => ?_⟩
  rw [hx] at e2
  cases e2
  by_cases c : i < n
  · exact Rat.le_trans (Rat.le_of_lt hn) (h.2 i x' y c e1 hy)
  · have e : i = n := by omega
    subst e
    rw [hx] at e1
    cases e1
    exact Rat.le_refl
theorem laS.least {ws : List Rat} {k : Nat} (h : laS ws ws.length k) {y : Rat} (hy : ws[k]? = some y) : ∀ x ∈ ws, y ≤ x := fun x hx => by
  obtain ⟨i, hi, e⟩ := List.getElem_of_mem hx
  exact h.2 i x y hi (by rw [List.getElem?_eq_getElem hi, e]) hy
/-- rising's state -/
structure Ris (ws left found : List Rat) : Prop where
  perm : (found ++ left).Perm ws
  sorted : found.Pairwise (fun a b => a ≤ b)
  all : ∀ a ∈ found, ∀ b ∈ left, a ≤ b
theorem Ris.start (ws : List Rat) : Ris ws ws [] := ⟨List.Perm.refl _, List.Pairwise.nil, fun a h => by cases h⟩
theorem erase_perm : ∀ {left : List Rat} {k : Nat} {y : Rat}, left[k]? = some y → left.Perm (y :: left.eraseIdx k)
  | [], k, y, h => by simp at h
  | a :: l, 0, y, h => by
    have e : a = y := by simpa using h
    subst e
    exact List.Perm.refl _
  | a :: l, k + 1, y, h => by
    have ih := erase_perm (left := l) (k := k) (y := y) (by simpa using h)
    exact (ih.cons a).trans (List.Perm.swap y a _)
theorem Ris.step {ws left found : List Rat} {k : Nat} {y : Rat} (r : Ris ws left found) (h : laS left left.length k) (hy : left[k]? = some y) : Ris ws (left.eraseIdx k) (found ++ [y]) := by
  have p := erase_perm hy
  have ym : y ∈ left := List.mem_of_getElem? hy
  refine ⟨?_, ?_, ?_⟩
  · refine List.Perm.trans ?_ r.perm
    rw [List.append_assoc]
    exact List.Perm.append_left found p.symm
  · refine List.pairwise_append.mpr ⟨r.sorted, List.pairwise_singleton _ _, fun a ha b hb => ?_⟩
    rw [List.mem_singleton.mp hb]
    exact r.all a ha y ym
  · intro a ha b hb
    have hb' : b ∈ left := p.symm.subset (List.mem_cons_of_mem _ hb)
    rcases List.mem_append.mp ha with q | q
    · exact r.all a q b hb'
    · rw [List.mem_singleton.mp q]
      exact h.least hy b hb'
theorem Ris.done {ws found : List Rat} (r : Ris ws [] found) (nd : ws.Nodup) : found.Pairwise (fun a b => a < b) ∧ ∀ w, w ∈ found ↔ w ∈ ws := by
  have p := r.perm
  rw [List.append_nil] at p
  refine ⟨?_, fun w => p.mem_iff⟩
  have nd' : found.Nodup := p.nodup_iff.mpr nd
  refine List.Pairwise.imp₂ (fun a b (h1 : a ≤ b) (h2 : a ≠ b) => Rat.lt_iff_le_and_ne.mpr ⟨h1, h2⟩) r.sorted nd'

/-! ### sums of powers, by a loop -/
/-- one turn at an even place, at an odd one -/
def rbE (w : Rat) (row : List Ar) (i : Nat) (f0 f1 : Ar) (u : Rat) : Prop :=
  sm f0 (ot (rs w (row.drop i)).1 u) = (rs w row).1 ∧ sm f1 (ot (rs w (row.drop i)).2 u) = (rs w row).2
def rbO (w : Rat) (row : List Ar) (i : Nat) (f0 f1 : Ar) (u : Rat) : Prop :=
  sm f0 (ot (rs w (row.drop i)).2 (u * (0 - w))) = (rs w row).1 ∧ sm f1 (ot (rs w (row.drop i)).1 u) = (rs w row).2
theorem ot_one (a : Ar) : ot a 1 = a := by refine ar_ext ?_ ?_ <;> simp only [ot] <;> grind
theorem sm_aZ_l (a : Ar) : sm aZ a = a := by refine ar_ext ?_ ?_ <;> simp only [sm, aZ] <;> grind
theorem sm_aZ_r (a : Ar) : sm a aZ = a := by refine ar_ext ?_ ?_ <;> simp only [sm, aZ] <;> grind
theorem ot_aZ (u : Rat) : ot aZ u = aZ := by refine ar_ext ?_ ?_ <;> simp only [ot, aZ] <;> grind
theorem rb_start (w : Rat) (row : List Ar) : rbE w row 0 aZ aZ 1 := by
  unfold rbE
  rw [List.drop_zero, ot_one, ot_one, sm_aZ_l, sm_aZ_l]
  exact ⟨rfl, rfl⟩
theorem drop_at {row : List Ar} {i : Nat} {x : Ar} (h : row[i]? = some x) : row.drop i = x :: row.drop (i + 1) := by
  obtain ⟨hi, e⟩ := List.getElem?_eq_some_iff.mp h
  rw [List.drop_eq_getElem_cons hi, e]
theorem rb_even {w : Rat} {row : List Ar} {i : Nat} {f0 f1 x : Ar} {u : Rat} (h : rbE w row i f0 f1 u) (hx : row[i]? = some x) : rbO w row (i + 1) (sm f0 (ot x u)) f1 u := by
  obtain ⟨h1, h2⟩ := h
  rw [drop_at hx] at h1 h2
  simp only [rs] at h1 h2
  unfold rbO
  rw [← h1, ← h2]
  generalize rs w (row.drop (i + 1)) = y
  refine ⟨ar_ext ?_ ?_, rfl⟩
  all_goals simp only [sm, df, ot]; grind
theorem rb_odd {w : Rat} {row : List Ar} {i : Nat} {f0 f1 x : Ar} {u : Rat} (h : rbO w row i f0 f1 u) (hx : row[i]? = some x) : rbE w row (i + 1) f0 (sm f1 (ot x u)) (0 - u * w) := by
  obtain ⟨h1, h2⟩ := h
  rw [drop_at hx] at h1 h2
  simp only [rs] at h1 h2
  unfold rbE
  rw [← h1, ← h2]
  generalize rs w (row.drop (i + 1)) = y
  refine ⟨ar_ext ?_ ?_, ar_ext ?_ ?_⟩
  all_goals simp only [sm, df, ot]; grind
theorem rb_doneE {w : Rat} {row : List Ar} {f0 f1 : Ar} {u : Rat} (h : rbE w row row.length f0 f1 u) : (f0, f1) = rs w row := by
  obtain ⟨h1, h2⟩ := h
  rw [List.drop_length] at h1 h2
  simp only [rs, ot_aZ, sm_aZ_r] at h1 h2
  exact Prod.ext h1 h2
theorem rb_doneO {w : Rat} {row : List Ar} {f0 f1 : Ar} {u : Rat} (h : rbO w row row.length f0 f1 u) : (f0, f1) = rs w row := by
  obtain ⟨h1, h2⟩ := h
  rw [List.drop_length] at h1 h2
  simp only [rs, ot_aZ, sm_aZ_r] at h1 h2
  exact Prod.ext h1 h2
/-- sizes within the loop: n bits an item, v the weight, T for a turn of both kinds -/
structure RbB (v T e0 e1 e : Nat) (f0 f1 : Ar) (u : Rat) : Prop where
  u : Bt (e * v + 1) u
  f0 : Ba (e0 * T + 1) f0
  f1 : Ba (e1 * T + 1) f1
theorem Ba.zero : Ba 1 aZ := ⟨Bt.zero, Bt.zero⟩
theorem RbB.start (v T : Nat) : RbB v T 0 0 0 aZ aZ 1 := ⟨Bt.one.mono (by omega), Ba.zero.mono (by omega), Ba.zero.mono (by omega)⟩
theorem Ba.ot {n m : Nat} {z : Ar} {u : Rat} (h : Ba n z) (k : Bt m u) : Ba (n + m) (ot z u) := ⟨h.1.mul k, h.2.mul k⟩
theorem Ba.sm {n m : Nat} {z y : Ar} (h : Ba n z) (k : Ba m y) : Ba (n + m + 1) (sm z y) := ⟨h.1.add k.1, h.2.add k.2⟩
theorem RbB.even {n v T e : Nat} {f0 f1 x : Ar} {u : Rat} (h : RbB v T e e e f0 f1 u) (hx : Ba n x) (hT : n + 4 * v + 3 ≤ T) (he : e ≤ 4) : RbB v T (e + 1) e e (CT.sm f0 (CT.ot x u)) f1 u := by
  refine ⟨h.u, (h.f0.sm (hx.ot h.u)).mono ?_, h.f1⟩
  have q : e * v ≤ 4 * v := Nat.mul_le_mul_right v he
  have r : (e + 1) * T = e * T + T := Nat.succ_mul ..
  omega
theorem RbB.odd {n v T e : Nat} {f0 f1 x : Ar} {u w : Rat} (h : RbB v T (e + 1) e e f0 f1 u) (hx : Ba n x) (hw : Bt v w) (hT : n + 4 * v + 3 ≤ T) (he : e ≤ 4) : RbB v T (e + 1) (e + 1) (e + 1) f0 (CT.sm f1 (CT.ot x u)) (0 - u * w) := by
  have q : e * v ≤ 4 * v := Nat.mul_le_mul_right v he
  have r : (e + 1) * T = e * T + T := Nat.succ_mul ..
  have r2 : (e + 1) * v = e * v + v := Nat.succ_mul ..
  refine ⟨?_, h.f0, (h.f1.sm (hx.ot h.u)).mono (by omega)⟩
  have z : (0 : Rat) - u * w = -(u * w) := by grind
  rw [z]
  exact (h.u.mul hw).neg.mono (by omega)
end CT

/-! H0: the text by places, the facts of the head. -/
namespace CT
open PySem PySem.Spec PyProof.Rows L2
def top (i : Nat) : Stmt := PySem.Challenge.pw_cornertrade_k17_whole_unfolded_rows_neve.main.body.getD i (.Pass ⟨0, 0, 0, 0⟩)
abbrev sshared_by : Stmt := top 23
abbrev spart : Stmt := top 24
abbrev splus : Stmt := top 25
abbrev sless : Stmt := top 26
abbrev stimes : Stmt := top 27
abbrev sover : Stmt := top 28
abbrev sbelow : Stmt := top 29
abbrev sleast_at : Stmt := top 30
abbrev srising : Stmt := top 31
abbrev ssummed : Stmt := top 35
abbrev soff : Stmt := top 36
abbrev smate : Stmt := top 37
abbrev smade : Stmt := top 38
abbrev soften : Stmt := top 39
abbrev sweight : Stmt := top 40
abbrev sparted : Stmt := top 41
abbrev scopied : Stmt := top 42
abbrev sentry : Stmt := top 44
abbrev sgrown_by : Stmt := top 45
abbrev swhole_of : Stmt := top 46
abbrev srest_by : Stmt := top 47
abbrev sis_folded : Stmt := top 48
abbrev sfolds_of : Stmt := top 49
abbrev sfolded : Stmt := top 50
abbrev sis_name : Stmt := top 55
abbrev sneed_rods : Stmt := top 56
abbrev sexchanged : Stmt := top 57
abbrev srods_traded : Stmt := top 58
abbrev s_law_box : Stmt := top 61
abbrev s_law_draw : Stmt := top 62
abbrev s_law_of : Stmt := top 63
abbrev s_law_names : Stmt := top 64
abbrev s_law_low : Stmt := top 65
abbrev s_law_small : Stmt := top 66
abbrev s_law_spot : Stmt := top 67
abbrev s_law_arrow : Stmt := top 68
abbrev s_law_rods : Stmt := top 69
abbrev s_law_word : Stmt := top 70
abbrev s_law_tried : Stmt := top 71
abbrev s_law_like : Stmt := top 72
abbrev slaw : Stmt := top 73
abbrev sRow_init : Stmt := inClass (top 59) 0
abbrev sRow_len : Stmt := inClass (top 59) 1
abbrev sRow_rods : Stmt := inClass (top 59) 4
abbrev sRow_traded : Stmt := inClass (top 59) 11
abbrev sFlat_init : Stmt := inClass (top 10) 0
def dshared_by : He.DefD := ⟨("shared_by", none), "shared_by", "shared_by", defArgs sshared_by, defBody sshared_by, defScope sshared_by, [], []⟩
def dpart : He.DefD := ⟨("part", none), "part", "part", defArgs spart, defBody spart, defScope spart, [.int 1], []⟩
def dplus : He.DefD := ⟨("plus", none), "plus", "plus", defArgs splus, defBody splus, defScope splus, [], []⟩
def dless : He.DefD := ⟨("less", none), "less", "less", defArgs sless, defBody sless, defScope sless, [], []⟩
def dtimes : He.DefD := ⟨("times", none), "times", "times", defArgs stimes, defBody stimes, defScope stimes, [], []⟩
def dover : He.DefD := ⟨("over", none), "over", "over", defArgs sover, defBody sover, defScope sover, [], []⟩
def dbelow : He.DefD := ⟨("below", none), "below", "below", defArgs sbelow, defBody sbelow, defScope sbelow, [], []⟩
def dleast_at : He.DefD := ⟨("least_at", none), "least_at", "least_at", defArgs sleast_at, defBody sleast_at, defScope sleast_at, [], []⟩
def drising : He.DefD := ⟨("rising", none), "rising", "rising", defArgs srising, defBody srising, defScope srising, [], []⟩
def dsummed : He.DefD := ⟨("summed", none), "summed", "summed", defArgs ssummed, defBody ssummed, defScope ssummed, [], []⟩
def doff : He.DefD := ⟨("off", none), "off", "off", defArgs soff, defBody soff, defScope soff, [], []⟩
def dmate : He.DefD := ⟨("mate", none), "mate", "mate", defArgs smate, defBody smate, defScope smate, [], []⟩
def dmade : He.DefD := ⟨("made", none), "made", "made", defArgs smade, defBody smade, defScope smade, [], []⟩
def doften : He.DefD := ⟨("often", none), "often", "often", defArgs soften, defBody soften, defScope soften, [], []⟩
def dweight : He.DefD := ⟨("weight", none), "weight", "weight", defArgs sweight, defBody sweight, defScope sweight, [], []⟩
def dparted : He.DefD := ⟨("parted", none), "parted", "parted", defArgs sparted, defBody sparted, defScope sparted, [], []⟩
def dcopied : He.DefD := ⟨("copied", none), "copied", "copied", defArgs scopied, defBody scopied, defScope scopied, [], []⟩
def dentry : He.DefD := ⟨("entry", none), "entry", "entry", defArgs sentry, defBody sentry, defScope sentry, [], []⟩
def dgrown_by : He.DefD := ⟨("grown_by", none), "grown_by", "grown_by", defArgs sgrown_by, defBody sgrown_by, defScope sgrown_by, [], []⟩
def dwhole_of : He.DefD := ⟨("whole_of", none), "whole_of", "whole_of", defArgs swhole_of, defBody swhole_of, defScope swhole_of, [], []⟩
def drest_by : He.DefD := ⟨("rest_by", none), "rest_by", "rest_by", defArgs srest_by, defBody srest_by, defScope srest_by, [], []⟩
def dis_folded : He.DefD := ⟨("is_folded", none), "is_folded", "is_folded", defArgs sis_folded, defBody sis_folded, defScope sis_folded, [], []⟩
def dfolds_of : He.DefD := ⟨("folds_of", none), "folds_of", "folds_of", defArgs sfolds_of, defBody sfolds_of, defScope sfolds_of, [], []⟩
def dfolded : He.DefD := ⟨("folded", none), "folded", "folded", defArgs sfolded, defBody sfolded, defScope sfolded, [], []⟩
def dis_name : He.DefD := ⟨("is_name", none), "is_name", "is_name", defArgs sis_name, defBody sis_name, defScope sis_name, [], []⟩
def dneed_rods : He.DefD := ⟨("need_rods", none), "need_rods", "need_rods", defArgs sneed_rods, defBody sneed_rods, defScope sneed_rods, [], []⟩
def dexchanged : He.DefD := ⟨("exchanged", none), "exchanged", "exchanged", defArgs sexchanged, defBody sexchanged, defScope sexchanged, [], []⟩
def drods_traded : He.DefD := ⟨("rods_traded", none), "rods_traded", "rods_traded", defArgs srods_traded, defBody srods_traded, defScope srods_traded, [], []⟩
def d_law_box : He.DefD := ⟨("_law_box", none), "_law_box", "_law_box", defArgs s_law_box, defBody s_law_box, defScope s_law_box, [], []⟩
def d_law_draw : He.DefD := ⟨("_law_draw", none), "_law_draw", "_law_draw", defArgs s_law_draw, defBody s_law_draw, defScope s_law_draw, [], []⟩
def d_law_of : He.DefD := ⟨("_law_of", none), "_law_of", "_law_of", defArgs s_law_of, defBody s_law_of, defScope s_law_of, [], []⟩
def d_law_names : He.DefD := ⟨("_law_names", none), "_law_names", "_law_names", defArgs s_law_names, defBody s_law_names, defScope s_law_names, [], []⟩
def d_law_low : He.DefD := ⟨("_law_low", none), "_law_low", "_law_low", defArgs s_law_low, defBody s_law_low, defScope s_law_low, [], []⟩
def d_law_small : He.DefD := ⟨("_law_small", none), "_law_small", "_law_small", defArgs s_law_small, defBody s_law_small, defScope s_law_small, [], []⟩
def d_law_spot : He.DefD := ⟨("_law_spot", none), "_law_spot", "_law_spot", defArgs s_law_spot, defBody s_law_spot, defScope s_law_spot, [], []⟩
def d_law_arrow : He.DefD := ⟨("_law_arrow", none), "_law_arrow", "_law_arrow", defArgs s_law_arrow, defBody s_law_arrow, defScope s_law_arrow, [], []⟩
def d_law_rods : He.DefD := ⟨("_law_rods", none), "_law_rods", "_law_rods", defArgs s_law_rods, defBody s_law_rods, defScope s_law_rods, [], []⟩
def d_law_word : He.DefD := ⟨("_law_word", none), "_law_word", "_law_word", defArgs s_law_word, defBody s_law_word, defScope s_law_word, [], []⟩
def d_law_tried : He.DefD := ⟨("_law_tried", none), "_law_tried", "_law_tried", defArgs s_law_tried, defBody s_law_tried, defScope s_law_tried, [], []⟩
def d_law_like : He.DefD := ⟨("_law_like", none), "_law_like", "_law_like", defArgs s_law_like, defBody s_law_like, defScope s_law_like, [], []⟩
def dlaw : He.DefD := ⟨("law", none), "law", "law", defArgs slaw, defBody slaw, defScope slaw, [], []⟩
def dRow_init : He.DefD := ⟨("Row", some "__init__"), "__init__", "Row.__init__", defArgs sRow_init, defBody sRow_init, defScope sRow_init, [], [("start", .glo "ORIGIN")]⟩
def dRow_len : He.DefD := ⟨("Row", some "__len__"), "__len__", "Row.__len__", defArgs sRow_len, defBody sRow_len, defScope sRow_len, [], []⟩
def dRow_rods : He.DefD := ⟨("Row", some "rods"), "rods", "Row.rods", defArgs sRow_rods, defBody sRow_rods, defScope sRow_rods, [], []⟩
def dRow_traded : He.DefD := ⟨("Row", some "traded"), "traded", "Row.traded", defArgs sRow_traded, defBody sRow_traded, defScope sRow_traded, [], []⟩
def dFlat_init : He.DefD := ⟨("Flat", some "__init__"), "__init__", "Flat.__init__", defArgs sFlat_init, defBody sFlat_init, defScope sFlat_init, [], []⟩
def fnL : List He.DefD := [dshared_by, dpart, dplus, dless, dtimes, dover, dbelow, dleast_at, drising, dsummed, doff, dmate, dmade, doften, dweight, dparted, dcopied, dentry, dgrown_by, dwhole_of, drest_by, dis_folded, dfolds_of, dfolded, dis_name, dneed_rods, dexchanged, drods_traded, d_law_box, d_law_draw, d_law_of, d_law_names, d_law_low, d_law_small, d_law_spot, d_law_arrow, d_law_rods, d_law_word, d_law_tried, d_law_like, dlaw, dRow_init, dRow_len, dRow_rods, dRow_traded, dFlat_init]
def faL : List He.Fa := [.glo "shared_by", .glo "part", .glo "plus", .glo "less", .glo "times", .glo "over", .glo "below", .glo "least_at", .glo "rising", .glo "summed", .glo "off", .glo "mate", .glo "made", .glo "often", .glo "weight", .glo "parted", .glo "copied", .glo "entry", .glo "grown_by", .glo "whole_of", .glo "rest_by", .glo "is_folded", .glo "folds_of", .glo "folded", .glo "is_name", .glo "need_rods", .glo "exchanged", .glo "rods_traded", .glo "_law_box", .glo "_law_draw", .glo "_law_of", .glo "_law_names", .glo "_law_low", .glo "_law_small", .glo "_law_spot", .glo "_law_arrow", .glo "_law_rods", .glo "_law_word", .glo "_law_tried", .glo "_law_like", .glo "law", .glo "RodError", .glo "Missing", .glo "BadPart", .glo "BadName", .glo "BadRow", .glo "Twice", .glo "Nought", .glo "BadCorner", .glo "Flat", .glo "Folded", .glo "Unbuilt", .glo "Taken", .glo "Full", .glo "InUse", .glo "BadDeed", .glo "BadText", .glo "NoRow", .glo "NoWatch", .glo "Row", .glo "ZERO", .glo "ONE", .glo "ORIGIN", .glo "LONE", .free "abs", .free "len", .free "all", .free "enumerate", .free "range", .free "list", .free "tuple", .free "sorted", .free "isinstance", .free "max", .free "int", .free "str", .free "bool", .free "set", .int "MOST_RODS" 8, .int "MOST_NAME" 6, .str "LETTERS" "abcdefghijklmnopqrstuvwxyz", .cls "Row", .noat "Row" "lot", .noat "Row" "first", .meth "Row" "rods", .meth "Row" "traded", .meth "Row" "__len__", .meth "Row" "__init__", .mkr "Row", .noat "Flat" "called", .noat "Flat" "at", .meth "Flat" "__init__", .keep "Flat", .exm "Flat" "BadName" false, .exm "Flat" "Twice" false, .exm "Flat" "Taken" false, .exm "Flat" "InUse" false, .exm "Flat" "NoRow" false, .exm "Flat" "NoWatch" false, .exm "Flat" "Nought" false, .exm "Flat" "BadCorner" false, .exm "Flat" "Unbuilt" false, .exm "Flat" "BadText" false, .exm "Flat" "Flat" true]
/-- an own exception class over ValueError, its own __init__ -/
def oexB (K : PySem.W.Frag) (C : Addr) : Bool := (match K.lookup C with
  | some ⟨.type "type", _, .cls k, own⟩ => (match k.mro, own.toList with
    | .ref D :: above, [_, _, _, _, some (.builtin n), _] => (decide (D = C) && (decide (n = "ValueError.__new__") && (!k.hasDel && (k.hasDict && PySem.HandSPX.refsVE above))))
    | _, _ => false)
  | _ => false) && (He.eqO (PySem.W.findIn K (.ref C) "__setattr__") (some (some (.builtin "object.__setattr__"))) && (decide (PySem.W.subIn K (.ref C) (.type "BaseException") = some true) && (decide (PySem.W.typeIn K (.ref C) = some (.type "type")) && PySem.W.keepIn K (.ref C))))
def exB (K : PySem.W.Frag) : Bool := He.tupB K "ZERO" [.int 0, .int 1] && (He.tupB K "ONE" [.int 1, .int 1] && (He.tupB K "ORIGIN" [.glo "ZERO", .glo "ZERO"] && (He.tupB K "LONE" [.glo "ONE", .glo "ZERO"] && (oexB K (He.ga K "Flat") && (L2.xfB K (He.ga K "Flat") && decide (PySem.W.typeIn K (.ref (He.ma K (He.ga K "Flat") "__init__")) = some (.type "function")))))))
def tfL : List He.Defn := [("law", none)]
abbrev RR : PySem.W.OpenRow := PySem.W.OpenLaw.row PySem.Challenge.rw_cornertrade_k17_whole_unfolded_rows_neve
abbrev hk : PySem.W.Hook := He.hookX 4 faL fnL [] tfL exB
noncomputable def ob (s : PySem.W.SharedT) : He.AlX := He.obsX 4 faL fnL [] tfL exB (HandSHeadRun.getT s)
theorem ob_eq (s : PySem.W.SharedT) : ob s = hk.obs s.abs := He.obsX_eq (HandSHeadRun.getT_eq s)
def names0 : List Str := ["_wall", "RodError", "Missing", "BadPart", "BadName", "BadRow", "Twice", "Nought", "BadCorner", "Flat", "Folded", "Unbuilt"]
def names1 : List Str := ["Taken", "Full", "InUse", "BadDeed", "BadText", "NoRow", "NoWatch", "ZERO", "ONE", "shared_by", "part", "plus"]
def names2 : List Str := ["less", "times", "over", "below", "least_at", "rising", "ORIGIN", "LONE", "summed", "off", "mate", "made"]
def names3 : List Str := ["often", "weight", "parted", "copied", "entry", "grown_by", "whole_of", "rest_by", "is_folded", "folds_of", "folded", "MOST_RODS"]
def names4 : List Str := ["MOST_NAME", "LETTERS", "is_name", "need_rods", "exchanged", "rods_traded", "Row", "_law_box", "_law_draw", "_law_of", "_law_names", "_law_low"]
def names5 : List Str := ["_law_small", "_law_spot", "_law_arrow", "_law_rods", "_law_word", "_law_tried", "_law_like"]
def namesL : List Str := names0 ++ names1 ++ names2 ++ names3 ++ names4 ++ names5
set_option maxHeartbeats 0 in
theorem run (w : World) : HandSHeadRun.RunEq RR (PySem.W.view RR.prog [73]) hk ob 9000 namesL w := by
  intro os
  kernel_rfl
end CT

namespace CT
open PySem PySem.Spec PyProof.Rows L2
/-- // of whole numbers of any size: where _pylong would run there is room for it -/
theorem op_fdivP {X : Cx} {l : List Env} (hst : X.stack = X.env :: l) (hN : X.base.NoSeer) (ht : X.prog.given.tree = none) (hg : X.env.scope.isGenerator = false) (hco : X.env.scope.isCoroutine = false)
    (hd : X.A.depth + Builtin.pylongFrames < recursionLimit) : OpR X (binaryOp .FloorDiv) (rI (fun _ j => j ≠ 0) fun i j => .int (i.fdiv j)) := by
  intro pn s σ H x y v u Q I rx ry want
  obtain ⟨i, j, rfl, rfl, nz, q⟩ := want
  obtain ⟨t, rfl⟩ := rx
  obtain ⟨t', rfl⟩ := ry
  have hfr : X.A.frames = some (X.env :: l) := by rw [I.ok.frames, hst]
  exact floordiv_int nz ⟨.int _, H, I.tok _, ⟨_, rfl⟩, q⟩ (.inr (PylongRoom.of I.nolimit hd (SeerAt.of (hN.keeps I.bk) ht hfr hg hco I.ok.blt I.ok.glob)))
/-- * of two factors of at most 60,000,000 bits each -/
def LIM : Nat := 60000000
def CMulP (i j : Int) : Prop := i.natAbs < 2 ^ LIM ∧ j.natAbs < 2 ^ LIM
theorem CMulP.ok {i j : Int} (h : CMulP i j) : IntMulOk i j := by
  have b : ∀ {x : Int}, x.natAbs < 2 ^ LIM → Builtin.Int.intBits x ≤ LIM := fun {x} hx => by
    unfold Builtin.Int.intBits
    split
    · exact Nat.zero_le _
    · rename_i hz
      have hz' : x.natAbs ≠ 0 := by
        intro z
        have : x = 0 := by omega
        subst this
        exact hz rfl
      have := (Nat.log2_lt hz').mpr hx
      omega
  have h1 := b h.1
  have h2 := b h.2
  have line : (134217728 : Nat) = bitsLine := by decide
  unfold IntMulOk
  intro z
  rw [Bool.and_eq_true] at z
  have big := z.2
  unfold Builtin.Int.intTooBig at big
  have big' := of_decide_eq_true big
  rw [← line] at big'
  have e2 : LIM = 60000000 := rfl
  omega
theorem op_mulP {X : Cx} : OpR X (binaryOp .Mult) (rI CMulP fun i j => .int (i * j)) := opI fun _ _ _ _ _ _ _ hc q => mul_int q hc.ok
end CT

/-! W1: parts. -/
namespace CT
open PySem PySem.Spec PyProof.Rows L2
/-! ### a def that stands: its name, its promise -/
structure Cal (P : Program) (w : World) (K : PySem.W.Frag) (mg : Str → Option Value) (base : Heap) (CX : CXT) (x : Str) (k : Nat) (ps : List Str) (sp : Sp) : Prop where
  ex : ∃ (f : Addr) (fd : FuncData), mg x = some (.ref f) ∧ PySem.W.keepIn K (.ref f) = true ∧ Binds K fd ps [] ∧ FnOk P w K mg base CX k f fd ps sp
theorem pe_cal {X : Cx} {CX : CXT} {k : Nat} {x : Str} {ps : List Str} {sp : Sp} {E : XK} {e : Expr} {es : List Expr} {t : TA} {p pos : Pos} (C : Cal X.prog X.w X.K X.mg X.base CX x k ps sp) (hr : Room k X.A) (hg : Gl X x) (hx : Passes CX X E) (ha : PA X (e :: es) t)
    (first : starEach (e :: es) X.env = (false, eval e X.env) :: starEach es X.env := by rfl) (dbg : (x == ("__debug__" : Str)) = false := by decide)
    (nostar : (backTo pos (starEach es X.env)).any (·.1) = false := by rfl) :
    PE X (.Call (.Name x p) (e :: es) [] pos) (tCall sp [] E t) := by
  obtain ⟨f, fd, g, kp, b, F⟩ := C.ex
  exact pe_call F hr hg g kp b .nil hx ha dbg first nostar
theorem same_tup {K : PySem.W.Frag} {H H' : Hp} {a : Addr} {xs : List V} (e : Same H H') (h : SqT K H a xs) : SqT K H' a xs := by
  rcases h with (now | ⟨ob, fro⟩) | wri
  · exact .inl (.inl (e _ _ now))
  · exact .inl (.inr ⟨ob, e _ _ fro⟩)
  · exact .inr wri
theorem same_new {H : Hp} {p : Addr} {o : HO} (h : H p = none) : Same H (upd H p o) := fun b u e => by rw [upd_ne (ne_of_none e h)]; exact e
theorem same_new2 {H H1 : Hp} {p : Addr} {o : HO} (s : Same H H1) (h : H1 p = none) : Same H (upd H1 p o) := s.trans (same_new h)
/-- a part at p -/
def PartAt (K : PySem.W.Frag) (H : Hp) (p : Addr) (q : Rat) : Prop := SqT K H p [.int q.num, .int (q.den : Int)]
theorem PartAt.same {K : PySem.W.Frag} {H H' : Hp} {p : Addr} {q : Rat} (h : PartAt K H p q) (s : Same H H') : PartAt K H' p q := same_tup s h
/-- a new part is handed back -/
def giveP (K : PySem.W.Frag) (H : Hp) (q : Rat) (Q : VK) : Prop := ∀ (H' : Hp) (p : Addr), Same H H' → PartAt K H' p q → Q (.ref p) H'
def Sz (q : Rat) : Prop := q.num.natAbs < 2 ^ LIM ∧ q.den < 2 ^ LIM
theorem Bt.sz {n : Nat} {q : Rat} (h : Bt n q) (hn : n ≤ LIM) : Sz q :=
  ⟨Nat.lt_of_lt_of_le h.num (Nat.pow_le_pow_right (by decide) hn), Nat.lt_of_lt_of_le h.den (Nat.pow_le_pow_right (by decide) hn)⟩

/-! ### promises -/
def spShared : Sp := fun vs H Q _ => ∃ a b : Int, vs = [.int a, .int b] ∧ 0 ≤ a ∧ 0 ≤ b ∧ Q (.int (Int.gcd a b : Nat)) H
def spPart (K : PySem.W.Frag) : Sp := fun vs H Q _ => ∃ o u : Int, vs = [.int o, .int u] ∧ u ≠ 0 ∧ giveP K H (Rat.divInt o u) Q
def spTwo (K : PySem.W.Frag) (C : Rat → Rat → Prop) (f : Rat → Rat → Rat) : Sp := fun vs H Q _ => ∃ (a b : Addr) (q r : Rat), vs = [.ref a, .ref b] ∧ PartAt K H a q ∧ PartAt K H b r ∧ Sz q ∧ Sz r ∧ C q r ∧ giveP K H (f q r) Q
def spBelow (K : PySem.W.Frag) : Sp := fun vs H Q _ => ∃ (a b : Addr) (q r : Rat), vs = [.ref a, .ref b] ∧ PartAt K H a q ∧ PartAt K H b r ∧ Sz q ∧ Sz r ∧ Q (.bl (decide (q < r))) H

section
variable {P : Program} {w : World} {K : PySem.W.Frag} {mg : Str → Option Value} {base : Heap} {f : Addr} {fd : FuncData}
abbrev FnP (K : PySem.W.Frag) (name : Str) (s : Stmt) (a : Addr) (d : FuncData) : Prop := FunD K name name (defArgs s) (defBody s) (defScope s) [] [] a d

theorem gcd_mod {x y : Int} (hx : 0 ≤ x) (hy : 0 ≤ y) : Int.gcd y (x % y) = Int.gcd y x := by
  show Nat.gcd y.natAbs (x % y).natAbs = Nat.gcd y.natAbs x.natAbs
  rw [Int.natAbs_emod_of_nonneg hx, Nat.gcd_rec y.natAbs x.natAbs, Nat.gcd_comm]
theorem sc_shared : FnScope ["one", "other"] ["one", "other"] (defScope sshared_by) := ⟨rfl, rfl, rfl, by decide +kernel, rfl, by decide +kernel, by decide +kernel⟩
theorem ok_shared (F : FnP K "shared_by" sshared_by f fd) : FnOk P w K mg base CX0 1 f fd ["one", "other"] spShared := by
  refine F.ok sc_shared (fun vs H Q E h => ?_) (fun cdv A outer s H vs Q E hr h => ?_)
  · obtain ⟨a, b, rfl, _⟩ := h
    rfl
  · obtain ⟨a, b, rfl, ha, hb, k⟩ := h
    refine ⟨_, PSs.nox (pss_cons (ps_while PassesOwn.never (pt_cmpR op_ne (pv 1) pe_int (nomark _))
        (pss_one (ps_par (i := 0) (j := 1) (by rfl) sc_shared.nd rfl rfl (by decide) rfl rfl (pa_cons (pv 1) (pa_cons (pe_op op_mod (pv 0) (pv 1)) pa_nil)) (by rfl))))
      (pss_one (ps_ret (pv 0)))), ?_⟩
    refine while_by (fun σ H' => ∃ x y : Int, σ = [some (.int x), some (.int y)] ∧ H' = H ∧ 0 ≤ x ∧ 0 ≤ y ∧ Int.gcd x y = Int.gcd a b) (fun σ _ => match σ with | [_, some (.int y)] => y.toNat | _ => 0) ⟨a, b, rfl, rfl, ha, hb, rfl⟩ ?_ ?_
    · rintro σ H' ⟨x, y, rfl, rfl, hx, hy, hg⟩
      refine ⟨_, rfl, rfl, _, rfl, ?_⟩
      by_cases hy0 : y = 0
      · subst hy0
        refine ite2 (fun z => absurd z (by decide)) (fun _ => ?_)
        refine ⟨_, rfl, ?_⟩
        have e : ((Int.gcd a b : Nat) : Int) = x := by
          rw [← hg, Int.gcd_zero_right]
          omega
        rw [e] at k
        exact k
      · refine ite2 (fun _ => ?_) (fun z => absurd (by rw [decide_eq_false (fun q => hy0 (V.int.inj q))]; rfl) z)
        refine ⟨_, rfl, _, rfl, _, rfl, _, _, rfl, rfl, by omega, _, _, rfl, ?_⟩
        have h1 := Int.emod_nonneg x hy0
        have h2 := Int.emod_lt_of_pos x (show 0 < y by omega)
        refine ⟨⟨y, x % y, rfl, rfl, by omega, h1, ?_⟩, ?_⟩
        · rw [← hg, Int.gcd_comm x y, gcd_mod hx hy]
        · show (x % y).toNat < y.toNat
          omega
    · rintro σ H' Q1 Q2 hQ ⟨v, e, hs, k, ek, q⟩
      exact ⟨v, e, hs, k, ek, hQ _ _ q⟩
theorem cal_mk {CX : CXT} {x : Str} {st : Stmt} {k : Nat} {ps : List Str} {sp : Sp} (F : FnP K x st f fd) (g : mg x = some (.ref f)) (ok : FnOk P w K mg base CX k f fd ps sp)
    (h : ∀ (kV doc pm : Value) (an : Option Addr) (cdv ct : Value) (us : List Value), us.length = ps.length → bindArgs (PySem.W.fnOf x x (defArgs st) (defBody st) (defScope st) .none kV doc pm an cdv ct) ⟨us, []⟩ = pure (ps.zip us)) : Cal P w K mg base CX x k ps sp :=
  ⟨f, fd, g, F.kp, F.bindsN h, ok⟩
theorem room_py {A : Around} (hr : Room 40 A) : A.depth + Builtin.pylongFrames < recursionLimit := by
  have h := hr.dp
  show A.depth + 100 < _
  omega
theorem sgn_eq {u : Int} (h : u ≠ 0) : (if 0 < u then (1 : Int) else -1) = u.sign := by
  by_cases c : 0 < u
  · rw [if_pos c, Int.sign_eq_one_of_pos c]
  · rw [if_neg c, Int.sign_eq_neg_one_of_neg (by omega)]
theorem low_ne {o u : Int} (h : u ≠ 0) : ((Int.gcd o u : Nat) : Int) ≠ 0 := by
  have := Int.gcd_pos_of_ne_zero_right o h
  omega
theorem num_of {o u : Int} (h : u ≠ 0) : (u.sign * o).fdiv ((Int.gcd o u : Nat) : Int) = (Rat.divInt o u).num := by
  rw [Rat.num_divInt, Int.fdiv_eq_ediv_of_nonneg _ (by omega), Int.gcd_comm]
theorem den_of {o u : Int} (h : u ≠ 0) : (u.sign * u).fdiv ((Int.gcd o u : Nat) : Int) = ((Rat.divInt o u).den : Int) := by
  rw [Rat.den_divInt, if_neg h, Int.fdiv_eq_ediv_of_nonneg _ (by omega), Int.gcd_comm, Int.mul_comm, Int.mul_sign_self, Int.natCast_ediv]
theorem gcd_abs {o u : Int} : Int.gcd (if o < 0 then -o else o) (if u < 0 then -u else u) = Int.gcd o u := by
  have e : ∀ x : Int, (if x < 0 then -x else x) = ((x.natAbs : Nat) : Int) := fun x => by
    by_cases c : x < 0
    · rw [if_pos c]; omega
    · rw [if_neg c]; omega
  rw [e, e]
  show Nat.gcd _ _ = Nat.gcd _ _
  rw [Int.natAbs_natCast, Int.natAbs_natCast]
theorem abs_nn (x : Int) : 0 ≤ (if x < 0 then -x else x) := by
  by_cases c : x < 0
  · rw [if_pos c]; omega
  · rw [if_neg c]; omega
theorem tup_new {K : PySem.W.Frag} {H : Hp} {p : Addr} {xs : List V} : SqT K (upd H p (.tup xs)) p xs := .of upd_same
theorem sc_part : FnScope ["over", "under", "low", "sign"] ["over", "under"] (defScope spart) := ⟨rfl, rfl, rfl, by decide +kernel, rfl, by decide +kernel, by decide +kernel⟩
theorem ok_part (hN : base.NoSeer) (hP : P.given.tree = none) (F : FunD K "part" "part" (defArgs spart) (defBody spart) (defScope spart) [.int 1] [] f fd) (C : Cal P w K mg base CX0 "shared_by" 1 ["one", "other"] spShared) (gA : mg "abs" = none) :
    FnOk P w K mg base CX0 41 f fd ["over", "under"] (spPart K) := by
  refine F.ok sc_part (fun vs H Q E h => ?_) (fun cdv A outer s H vs Q E hr h => ?_)
  · obtain ⟨o, u, rfl, _⟩ := h
    rfl
  · obtain ⟨o, u, rfl, hu, k⟩ := h
    refine ⟨_, PSs.nox <| pss_cons (ps_if (pt_cmpR op_eq (pv 1) pe_int (nomark _)) pss_never pss_nil) <|
      pss_cons (ps_set (i := 2) sc_part.nd rfl (.inl rfl) (pe_cal C (hr.mono (by decide)) rfl pass0 (pa_cons (pe_callB call_abs (by rfl) gA (by decide +kernel) (pa_cons (pv 0) pa_nil)) (pa_cons (pe_callB call_abs (by rfl) gA (by decide +kernel) (pa_cons (pv 1) pa_nil)) pa_nil)))) <|
      pss_cons (ps_set (i := 3) sc_part.nd rfl (.inl rfl) (pe_ifExp (pt_cmpR op_gt (pv 1) pe_int (nomark _)) pe_int (pe_un un_neg pe_int))) <|
      pss_one (ps_ret (pe_tup (pa_cons (pe_op (op_fdivP (l := outer) rfl hN hP rfl rfl (room_py hr)) (pe_op op_mul (pv 3) (pv 0)) (pv 2)) (pa_cons (pe_op (op_fdivP (l := outer) rfl hN hP rfl rfl (room_py hr)) (pe_op op_mul (pv 3) (pv 1)) (pv 2)) pa_nil)))), ?_⟩
    refine ⟨_, rfl, rfl, _, rfl, ?_⟩
    refine ite2 (fun z => absurd (V.int.inj (of_decide_eq_true z)) hu) (fun _ => ?_)
    refine ⟨_, rfl, _, rfl, _, rfl, _, rfl, _, _, rfl, abs_nn _, abs_nn _, ?_⟩
    rw [gcd_abs]
    have hsg : u.sign = 1 ∨ u.sign = -1 := by
      rcases Int.lt_or_gt_of_ne hu with c | c
      · exact .inr (Int.sign_eq_neg_one_of_neg c)
      · exact .inl (Int.sign_eq_one_of_pos c)
    have fin : ∀ D : Ends, D.rt = Q → (tRet (tTup (tCons (tOp (rI (fun _ j => j ≠ 0) fun i j => V.int (i.fdiv j)) (tOp (rI CMul fun i j => V.int (i * j)) (tVar 3) (tVar 0)) (tVar 2)) (tCons (tOp (rI (fun _ j => j ≠ 0) fun i j => V.int (i.fdiv j)) (tOp (rI CMul fun i j => V.int (i * j)) (tVar 3) (tVar 1)) (tVar 2)) tNil)))) D
        [some (.int o), some (.int u), some (.int (Int.gcd o u : Nat)), some (.int u.sign)] H := fun D hD => by
      have cm : ∀ z : Int, CMul u.sign z := fun z => .inl (by rcases hsg with e | e <;> rw [e] <;> decide)
      refine ⟨_, rfl, _, rfl, _, _, rfl, rfl, cm o, _, rfl, _, _, rfl, rfl, low_ne hu, _, rfl, _, rfl, _, _, rfl, rfl, cm u, _, rfl, _, _, rfl, rfl, low_ne hu, (by show 2 ≤ sizeLine; decide), fun p hp => ?_⟩
      rw [hD]
      refine k _ p (same_new hp) ?_
      show SqT K _ p [.int (Rat.divInt o u).num, .int ((Rat.divInt o u).den : Int)]
      rw [← num_of hu, ← den_of hu]
      exact tup_new
    refine ⟨_, rfl, _, _, rfl, rfl, _, rfl, ?_⟩
    refine ite2 (fun z => ?_) (fun z => ?_)
    · have c : 0 < u := of_decide_eq_true z
      have e := Int.sign_eq_one_of_pos c
      have q := fin { nx := fun _ H' => Q .non H', rt := Q } rfl
      rw [e] at q
      exact q
    · have c : ¬ 0 < u := fun q => z (decide_eq_true q)
      have e := Int.sign_eq_neg_one_of_neg (show u < 0 by omega)
      have q := fin { nx := fun _ H' => Q .non H', rt := Q } rfl
      rw [e] at q
      exact ⟨1, rfl, q⟩
end
end CT

/-! W2: plus, less, times, over, below. -/
namespace CT
open PySem PySem.Spec PyProof.Rows L2
theorem at0 {a : V} {r : List V} : atI (a :: r) 0 = some a := atI_nat (j := 0) rfl
theorem at1 {a b : V} {r : List V} : atI (a :: b :: r) 1 = some b := atI_nat (j := 1) rfl
theorem Sz.m {q : Rat} (h : Sz q) {r : Rat} (k : Sz r) : CMulP q.num (r.den : Int) := ⟨h.1, by rw [Int.natAbs_natCast]; exact k.2⟩
theorem Sz.d {q : Rat} (h : Sz q) {r : Rat} (k : Sz r) : CMulP (q.den : Int) (r.den : Int) := ⟨by rw [Int.natAbs_natCast]; exact h.2, by rw [Int.natAbs_natCast]; exact k.2⟩
theorem Sz.n {q : Rat} (h : Sz q) {r : Rat} (k : Sz r) : CMulP q.num r.num := ⟨h.1, k.1⟩
theorem Sz.dn {q : Rat} (h : Sz q) {r : Rat} (k : Sz r) : CMulP (q.den : Int) r.num := ⟨by rw [Int.natAbs_natCast]; exact h.2, k.1⟩
theorem den_ne (q : Rat) : (q.den : Int) ≠ 0 := by have := q.den_nz; omega
theorem dd_ne (q r : Rat) : (q.den : Int) * (r.den : Int) ≠ 0 := Int.mul_ne_zero (den_ne q) (den_ne r)
theorem plus_q (q r : Rat) : Rat.divInt (q.num * r.den + r.num * q.den) ((q.den : Int) * r.den) = q + r := by
  rw [← Int.natCast_mul, Rat.divInt_ofNat, Rat.add_def']
theorem less_q (q r : Rat) : Rat.divInt (q.num * r.den - r.num * q.den) ((q.den : Int) * r.den) = q - r := by
  rw [← Int.natCast_mul, Rat.divInt_ofNat, Rat.sub_def']
theorem times_q (q r : Rat) : Rat.divInt (q.num * r.num) ((q.den : Int) * r.den) = q * r := by
  rw [← Int.natCast_mul, Rat.divInt_ofNat, Rat.mul_def']
theorem over_q (q r : Rat) : Rat.divInt (q.num * r.den) ((q.den : Int) * r.num) = q / r := by
  rw [Rat.div_def, Rat.inv_def, ← Rat.divInt_mul_divInt, Rat.num_divInt_den]
section
variable {P : Program} {w : World} {K : PySem.W.Frag} {mg : Str → Option Value} {base : Heap} {f : Addr} {fd : FuncData}
abbrev CalP (P : Program) (w : World) (K : PySem.W.Frag) (mg : Str → Option Value) (base : Heap) : Prop := Cal P w K mg base CX0 "part" 41 ["over", "under"] (spPart K)
abbrev two : List Str := ["one", "other"]
theorem sc_plus : FnScope two two (defScope splus) := ⟨rfl, rfl, rfl, by decide +kernel, rfl, by decide +kernel, by decide +kernel⟩
theorem sc_less : FnScope two two (defScope sless) := ⟨rfl, rfl, rfl, by decide +kernel, rfl, by decide +kernel, by decide +kernel⟩
theorem sc_times : FnScope two two (defScope stimes) := ⟨rfl, rfl, rfl, by decide +kernel, rfl, by decide +kernel, by decide +kernel⟩
theorem sc_over : FnScope two two (defScope sover) := ⟨rfl, rfl, rfl, by decide +kernel, rfl, by decide +kernel, by decide +kernel⟩
theorem sc_below : FnScope two two (defScope sbelow) := ⟨rfl, rfl, rfl, by decide +kernel, rfl, by decide +kernel, by decide +kernel⟩
theorem ok_plus (F : FnP K "plus" splus f fd) (C : CalP P w K mg base) : FnOk P w K mg base CX0 42 f fd two (spTwo K (fun _ _ => True) fun q r => q + r) := by
  refine F.ok sc_plus (fun vs H Q E h => ?_) (fun cdv A outer s H vs Q E hr h => ?_)
  · obtain ⟨a, b, q, r, rfl, _⟩ := h
    rfl
  · obtain ⟨a, b, q, r, rfl, ha, hb, sq, sr, _, k⟩ := h
    refine ⟨_, PSs.nox <| pss_one (ps_ret (pe_cal C hr rfl pass0 (pa_cons (pe_op op_add (pe_op op_mulP (pe_ix ix_tup (pv 0) pe_int (fun _ _ => rfl)) (pe_ix ix_tup (pv 1) pe_int (fun _ _ => rfl))) (pe_op op_mulP (pe_ix ix_tup (pv 1) pe_int (fun _ _ => rfl)) (pe_ix ix_tup (pv 0) pe_int (fun _ _ => rfl))))
      (pa_cons (pe_op op_mulP (pe_ix ix_tup (pv 0) pe_int (fun _ _ => rfl)) (pe_ix ix_tup (pv 1) pe_int (fun _ _ => rfl))) pa_nil)))), ?_⟩
    refine ⟨_, rfl, _, _, _, _, rfl, rfl, ha, at0, _, rfl, _, _, _, _, rfl, rfl, hb, at1, _, _, rfl, rfl, sq.m sr, _, rfl, _, _, _, _, rfl, rfl, hb, at0, _, rfl, _, _, _, _, rfl, rfl, ha, at1, _, _, rfl, rfl, sr.m sq, _, _, rfl, rfl,
      _, rfl, _, _, _, _, rfl, rfl, ha, at1, _, rfl, _, _, _, _, rfl, rfl, hb, at1, _, _, rfl, rfl, sq.d sr, _, _, rfl, dd_ne q r, ?_⟩
    rw [plus_q]
    exact k
theorem ok_less (F : FnP K "less" sless f fd) (C : CalP P w K mg base) : FnOk P w K mg base CX0 42 f fd two (spTwo K (fun _ _ => True) fun q r => q - r) := by
  refine F.ok sc_less (fun vs H Q E h => ?_) (fun cdv A outer s H vs Q E hr h => ?_)
  · obtain ⟨a, b, q, r, rfl, _⟩ := h
    rfl
  · obtain ⟨a, b, q, r, rfl, ha, hb, sq, sr, _, k⟩ := h
    refine ⟨_, PSs.nox <| pss_one (ps_ret (pe_cal C hr rfl pass0 (pa_cons (pe_op op_sub (pe_op op_mulP (pe_ix ix_tup (pv 0) pe_int (fun _ _ => rfl)) (pe_ix ix_tup (pv 1) pe_int (fun _ _ => rfl))) (pe_op op_mulP (pe_ix ix_tup (pv 1) pe_int (fun _ _ => rfl)) (pe_ix ix_tup (pv 0) pe_int (fun _ _ => rfl))))
      (pa_cons (pe_op op_mulP (pe_ix ix_tup (pv 0) pe_int (fun _ _ => rfl)) (pe_ix ix_tup (pv 1) pe_int (fun _ _ => rfl))) pa_nil)))), ?_⟩
    refine ⟨_, rfl, _, _, _, _, rfl, rfl, ha, at0, _, rfl, _, _, _, _, rfl, rfl, hb, at1, _, _, rfl, rfl, sq.m sr, _, rfl, _, _, _, _, rfl, rfl, hb, at0, _, rfl, _, _, _, _, rfl, rfl, ha, at1, _, _, rfl, rfl, sr.m sq, _, _, rfl, rfl,
      _, rfl, _, _, _, _, rfl, rfl, ha, at1, _, rfl, _, _, _, _, rfl, rfl, hb, at1, _, _, rfl, rfl, sq.d sr, _, _, rfl, dd_ne q r, ?_⟩
    rw [less_q]
    exact k
theorem ok_times (F : FnP K "times" stimes f fd) (C : CalP P w K mg base) : FnOk P w K mg base CX0 42 f fd two (spTwo K (fun _ _ => True) fun q r => q * r) := by
  refine F.ok sc_times (fun vs H Q E h => ?_) (fun cdv A outer s H vs Q E hr h => ?_)
  · obtain ⟨a, b, q, r, rfl, _⟩ := h
    rfl
  · obtain ⟨a, b, q, r, rfl, ha, hb, sq, sr, _, k⟩ := h
    refine ⟨_, PSs.nox <| pss_one (ps_ret (pe_cal C hr rfl pass0 (pa_cons (pe_op op_mulP (pe_ix ix_tup (pv 0) pe_int (fun _ _ => rfl)) (pe_ix ix_tup (pv 1) pe_int (fun _ _ => rfl)))
      (pa_cons (pe_op op_mulP (pe_ix ix_tup (pv 0) pe_int (fun _ _ => rfl)) (pe_ix ix_tup (pv 1) pe_int (fun _ _ => rfl))) pa_nil)))), ?_⟩
    refine ⟨_, rfl, _, _, _, _, rfl, rfl, ha, at0, _, rfl, _, _, _, _, rfl, rfl, hb, at0, _, _, rfl, rfl, sq.n sr, _, rfl, _, _, _, _, rfl, rfl, ha, at1, _, rfl, _, _, _, _, rfl, rfl, hb, at1, _, _, rfl, rfl, sq.d sr, _, _, rfl, dd_ne q r, ?_⟩
    rw [times_q]
    exact k
theorem ok_over (F : FnP K "over" sover f fd) (C : CalP P w K mg base) : FnOk P w K mg base CX0 42 f fd two (spTwo K (fun _ r => r ≠ 0) fun q r => q / r) := by
  refine F.ok sc_over (fun vs H Q E h => ?_) (fun cdv A outer s H vs Q E hr h => ?_)
  · obtain ⟨a, b, q, r, rfl, _⟩ := h
    rfl
  · obtain ⟨a, b, q, r, rfl, ha, hb, sq, sr, hr0, k⟩ := h
    have hn : r.num ≠ 0 := fun z => hr0 (Rat.num_eq_zero.mp z)
    refine ⟨_, PSs.nox <| pss_cons (ps_if (pt_cmpR op_eq (pe_ix ix_tup (pv 1) pe_int (fun _ _ => rfl)) pe_int (nomark _)) pss_never pss_nil) <|
      pss_one (ps_ret (pe_cal C hr rfl pass0 (pa_cons (pe_op op_mulP (pe_ix ix_tup (pv 0) pe_int (fun _ _ => rfl)) (pe_ix ix_tup (pv 1) pe_int (fun _ _ => rfl)))
      (pa_cons (pe_op op_mulP (pe_ix ix_tup (pv 0) pe_int (fun _ _ => rfl)) (pe_ix ix_tup (pv 1) pe_int (fun _ _ => rfl))) pa_nil)))), ?_⟩
    refine ⟨_, rfl, _, _, _, _, rfl, rfl, hb, at0, rfl, _, rfl, ?_⟩
    refine ite2 (fun z => absurd (V.int.inj (of_decide_eq_true z)) hn) (fun _ => ?_)
    refine ⟨_, rfl, _, _, _, _, rfl, rfl, ha, at0, _, rfl, _, _, _, _, rfl, rfl, hb, at1, _, _, rfl, rfl, sq.m sr, _, rfl, _, _, _, _, rfl, rfl, ha, at1, _, rfl, _, _, _, _, rfl, rfl, hb, at0, _, _, rfl, rfl, sq.dn sr, _, _, rfl, Int.mul_ne_zero (den_ne q) hn, ?_⟩
    rw [over_q]
    exact k
theorem ok_below (F : FnP K "below" sbelow f fd) : FnOk P w K mg base CX0 1 f fd two (spBelow K) := by
  refine F.ok sc_below (fun vs H Q E h => ?_) (fun cdv A outer s H vs Q E hr h => ?_)
  · obtain ⟨a, b, q, r, rfl, _⟩ := h
    rfl
  · obtain ⟨a, b, q, r, rfl, ha, hb, sq, sr, k⟩ := h
    refine ⟨_, PSs.nox <| pss_one (ps_ret (pe_cmpR op_lt (pe_op op_mulP (pe_ix ix_tup (pv 0) pe_int (fun _ _ => rfl)) (pe_ix ix_tup (pv 1) pe_int (fun _ _ => rfl))) (pe_op op_mulP (pe_ix ix_tup (pv 1) pe_int (fun _ _ => rfl)) (pe_ix ix_tup (pv 0) pe_int (fun _ _ => rfl))) (nomark _))), ?_⟩
    refine ⟨_, rfl, _, _, _, _, rfl, rfl, ha, at0, _, rfl, _, _, _, _, rfl, rfl, hb, at1, _, _, rfl, rfl, sq.m sr, _, rfl, _, _, _, _, rfl, rfl, hb, at0, _, rfl, _, _, _, _, rfl, rfl, ha, at1, _, _, rfl, rfl, sr.m sq, _, _, rfl, rfl, ?_⟩
    have e : decide (q.num * (r.den : Int) < r.num * (q.den : Int)) = decide (q < r) := decide_eq_decide.mpr (Rat.lt_iff q r).symm
    show Q (V.bl (decide (q.num * (r.den : Int) < r.num * (q.den : Int)))) H
    rw [e]
    exact k
end
end CT

/-! W3: arrows. -/
namespace CT
open PySem PySem.Spec PyProof.Rows L2
/-- an arrow at p -/
def ArAt (K : PySem.W.Frag) (H : Hp) (p : Addr) (z : Ar) : Prop := ∃ a b : Addr, SqT K H p [.ref a, .ref b] ∧ PartAt K H a z.1 ∧ PartAt K H b z.2
theorem ArAt.same {K : PySem.W.Frag} {H H' : Hp} {p : Addr} {z : Ar} (h : ArAt K H p z) (s : Same H H') : ArAt K H' p z := by
  obtain ⟨a, b, h1, h2, h3⟩ := h
  exact ⟨a, b, same_tup s h1, h2.same s, h3.same s⟩
def giveA (K : PySem.W.Frag) (H : Hp) (z : Ar) (Q : VK) : Prop := ∀ (H' : Hp) (p : Addr), Same H H' → ArAt K H' p z → Q (.ref p) H'
/-- the module's constants -/
structure Cons (K : PySem.W.Frag) (mg : Str → Option Value) : Prop where
  zero : ∃ a : Addr, mg "ZERO" = some (.ref a) ∧ ∀ H, PartAt K H a 0
  one : ∃ a : Addr, mg "ONE" = some (.ref a) ∧ ∀ H, PartAt K H a 1
  origin : ∃ a : Addr, mg "ORIGIN" = some (.ref a) ∧ ∀ H, ArAt K H a aZ
  lone : ∃ a : Addr, mg "LONE" = some (.ref a) ∧ ∀ H, ArAt K H a aL
structure Arith (P : Program) (w : World) (K : PySem.W.Frag) (mg : Str → Option Value) (base : Heap) : Prop where
  plus : Cal P w K mg base CX0 "plus" 42 two (spTwo K (fun _ _ => True) fun q r => q + r)
  less : Cal P w K mg base CX0 "less" 42 two (spTwo K (fun _ _ => True) fun q r => q - r)
  times : Cal P w K mg base CX0 "times" 42 two (spTwo K (fun _ _ => True) fun q r => q * r)
  over : Cal P w K mg base CX0 "over" 42 two (spTwo K (fun _ r => r ≠ 0) fun q r => q / r)
/-! ### promises -/
/-- both have at most n bits, and g n is within the line -/
def Fit (g : Nat → Nat) (z y : Ar) : Prop := ∃ n, Ba n z ∧ Ba n y ∧ g n ≤ LIM
def spA2 (K : PySem.W.Frag) (C : Ar → Ar → Prop) (f : Ar → Ar → Ar) : Sp := fun vs H Q _ => ∃ (a b : Addr) (z y : Ar), vs = [.ref a, .ref b] ∧ ArAt K H a z ∧ ArAt K H b y ∧ C z y ∧ giveA K H (f z y) Q
def spA1 (K : PySem.W.Frag) (g : Nat → Nat) (f : Ar → Ar) : Sp := fun vs H Q _ => ∃ (a : Addr) (z : Ar) (n : Nat), vs = [.ref a] ∧ ArAt K H a z ∧ Ba n z ∧ g n ≤ LIM ∧ giveA K H (f z) Q
def spW (K : PySem.W.Frag) : Sp := fun vs H Q _ => ∃ (a : Addr) (z : Ar) (n : Nat), vs = [.ref a] ∧ ArAt K H a z ∧ Ba n z ∧ 2 * n ≤ LIM ∧ giveP K H (wt z) Q
def spOf (K : PySem.W.Frag) : Sp := fun vs H Q _ => ∃ (a b : Addr) (z : Ar) (q : Rat) (n m : Nat), vs = [.ref a, .ref b] ∧ ArAt K H a z ∧ PartAt K H b q ∧ Ba n z ∧ Bt m q ∧ n ≤ LIM ∧ m ≤ LIM ∧ giveA K H (ot z q) Q
def spCopied (K : PySem.W.Frag) : Sp := fun vs H Q _ => ∃ (a : Addr) (z : Ar), vs = [.ref a] ∧ ArAt K H a z ∧ giveA K H z Q
theorem ar_new {K : PySem.W.Frag} {H : Hp} {p a b : Addr} {z : Ar} (hp : H p = none) (h1 : PartAt K H a z.1) (h2 : PartAt K H b z.2) : ArAt K (upd H p (.tup [.ref a, .ref b])) p z :=
  ⟨a, b, tup_new, h1.same (same_new hp), h2.same (same_new hp)⟩
theorem two_le : 2 ≤ sizeLine := by rw [sizeLine_eq]; decide
section
variable {P : Program} {w : World} {K : PySem.W.Frag} {mg : Str → Option Value} {base : Heap} {f : Addr} {fd : FuncData}
theorem sc_summed : FnScope two two (defScope ssummed) := ⟨rfl, rfl, rfl, by decide +kernel, rfl, by decide +kernel, by decide +kernel⟩
theorem sc_off : FnScope two two (defScope soff) := ⟨rfl, rfl, rfl, by decide +kernel, rfl, by decide +kernel, by decide +kernel⟩
theorem sc_mate : FnScope ["one"] ["one"] (defScope smate) := ⟨rfl, rfl, rfl, by decide +kernel, rfl, by decide +kernel, by decide +kernel⟩
theorem sc_made : FnScope ["one", "other", "x", "y", "u", "v"] two (defScope smade) := ⟨rfl, rfl, rfl, by decide +kernel, rfl, by decide +kernel, by decide +kernel⟩
theorem sc_often : FnScope ["one", "many"] ["one", "many"] (defScope soften) := ⟨rfl, rfl, rfl, by decide +kernel, rfl, by decide +kernel, by decide +kernel⟩
theorem sc_weight : FnScope ["one"] ["one"] (defScope sweight) := ⟨rfl, rfl, rfl, by decide +kernel, rfl, by decide +kernel, by decide +kernel⟩
theorem sc_copied : FnScope ["one", "x", "y"] ["one"] (defScope scopied) := ⟨rfl, rfl, rfl, by decide +kernel, rfl, by decide +kernel, by decide +kernel⟩
theorem ok_summed (F : FnP K "summed" ssummed f fd) (A : Arith P w K mg base) : FnOk P w K mg base CX0 43 f fd two (spA2 K (Fit fun n => n) sm) := by
  refine F.ok sc_summed (fun vs H Q E h => ?_) (fun cdv A' outer s H vs Q E hr h => ?_)
  · obtain ⟨a, b, z, y, rfl, _⟩ := h
    rfl
  · obtain ⟨a, b, z, y, rfl, hz, hy, ⟨n, bz, by_, hn⟩, k⟩ := h
    obtain ⟨a1, a2, za, z1, z2⟩ := id hz
    obtain ⟨b1, b2, yb, y1, y2⟩ := id hy
    refine ⟨_, PSs.nox <| pss_one (ps_ret (pe_tup (pa_cons (pe_cal A.plus hr rfl pass0 (pa_cons (pe_ix ix_tup (pv 0) pe_int (fun _ _ => rfl)) (pa_cons (pe_ix ix_tup (pv 1) pe_int (fun _ _ => rfl)) pa_nil)))
      (pa_cons (pe_cal A.plus hr rfl pass0 (pa_cons (pe_ix ix_tup (pv 0) pe_int (fun _ _ => rfl)) (pa_cons (pe_ix ix_tup (pv 1) pe_int (fun _ _ => rfl)) pa_nil))) pa_nil)))), ?_⟩
    refine ⟨_, rfl, _, _, _, _, rfl, rfl, za, at0, _, rfl, _, _, _, _, rfl, rfl, yb, at0, _, _, _, _, rfl, z1, y1, bz.1.sz hn, by_.1.sz hn, trivial, fun H1 p1 s1 h1 => ?_⟩
    refine ⟨_, rfl, _, _, _, _, rfl, rfl, same_tup s1 za, at1, _, rfl, _, _, _, _, rfl, rfl, same_tup s1 yb, at1, _, _, _, _, rfl, z2.same s1, y2.same s1, bz.2.sz hn, by_.2.sz hn, trivial, fun H2 p2 s2 h2 => ?_⟩
    exact ⟨two_le, fun p hp => k _ p ((s1.trans s2).trans (same_new hp)) (ar_new hp (h1.same s2) h2)⟩
theorem ok_off (F : FnP K "off" soff f fd) (A : Arith P w K mg base) : FnOk P w K mg base CX0 43 f fd two (spA2 K (Fit fun n => n) df) := by
  refine F.ok sc_off (fun vs H Q E h => ?_) (fun cdv A' outer s H vs Q E hr h => ?_)
  · obtain ⟨a, b, z, y, rfl, _⟩ := h
    rfl
  · obtain ⟨a, b, z, y, rfl, hz, hy, ⟨n, bz, by_, hn⟩, k⟩ := h
    obtain ⟨a1, a2, za, z1, z2⟩ := id hz
    obtain ⟨b1, b2, yb, y1, y2⟩ := id hy
    refine ⟨_, PSs.nox <| pss_one (ps_ret (pe_tup (pa_cons (pe_cal A.less hr rfl pass0 (pa_cons (pe_ix ix_tup (pv 0) pe_int (fun _ _ => rfl)) (pa_cons (pe_ix ix_tup (pv 1) pe_int (fun _ _ => rfl)) pa_nil)))
      (pa_cons (pe_cal A.less hr rfl pass0 (pa_cons (pe_ix ix_tup (pv 0) pe_int (fun _ _ => rfl)) (pa_cons (pe_ix ix_tup (pv 1) pe_int (fun _ _ => rfl)) pa_nil))) pa_nil)))), ?_⟩
    refine ⟨_, rfl, _, _, _, _, rfl, rfl, za, at0, _, rfl, _, _, _, _, rfl, rfl, yb, at0, _, _, _, _, rfl, z1, y1, bz.1.sz hn, by_.1.sz hn, trivial, fun H1 p1 s1 h1 => ?_⟩
    refine ⟨_, rfl, _, _, _, _, rfl, rfl, same_tup s1 za, at1, _, rfl, _, _, _, _, rfl, rfl, same_tup s1 yb, at1, _, _, _, _, rfl, z2.same s1, y2.same s1, bz.2.sz hn, by_.2.sz hn, trivial, fun H2 p2 s2 h2 => ?_⟩
    exact ⟨two_le, fun p hp => k _ p ((s1.trans s2).trans (same_new hp)) (ar_new hp (h1.same s2) h2)⟩
theorem ok_mate (F : FnP K "mate" smate f fd) (A : Arith P w K mg base) (T : Cons K mg) : FnOk P w K mg base CX0 43 f fd ["one"] (spA1 K (fun n => n + 1) mt) := by
  refine F.ok sc_mate (fun vs H Q E h => ?_) (fun cdv A' outer s H vs Q E hr h => ?_)
  · obtain ⟨a, z, n, rfl, _⟩ := h
    rfl
  · obtain ⟨a, z, n, rfl, hz, bz, hn, k⟩ := h
    obtain ⟨a1, a2, za, z1, z2⟩ := id hz
    obtain ⟨az, gz, hzz⟩ := T.zero
    have hn : n + 1 ≤ LIM := hn
    refine ⟨_, PSs.nox <| pss_one (ps_ret (pe_tup (pa_cons (pe_ix ix_tup (pv 0) pe_int (fun _ _ => rfl)) (pa_cons (pe_cal A.less hr rfl pass0 (pa_cons (pe_glob (v := .ref az) rfl gz rfl) (pa_cons (pe_ix ix_tup (pv 0) pe_int (fun _ _ => rfl)) pa_nil))) pa_nil)))), ?_⟩
    refine ⟨_, rfl, _, _, _, _, rfl, rfl, za, at0, _, rfl, _, _, _, _, rfl, rfl, za, at1, _, _, _, _, rfl, hzz _, z2, Bt.zero.sz (by omega), bz.2.sz (by omega), trivial, fun H1 p1 s1 h1 => ?_⟩
    exact ⟨two_le, fun p hp => k _ p (s1.trans (same_new hp)) (ar_new (z := mt z) hp (z1.same s1) h1)⟩
theorem ok_often (F : FnP K "often" soften f fd) (A : Arith P w K mg base) : FnOk P w K mg base CX0 43 f fd ["one", "many"] (spOf K) := by
  refine F.ok sc_often (fun vs H Q E h => ?_) (fun cdv A' outer s H vs Q E hr h => ?_)
  · obtain ⟨a, b, z, q, n, m, rfl, _⟩ := h
    rfl
  · obtain ⟨a, b, z, q, n, m, rfl, hz, hq, bz, bq, hn, hm, k⟩ := h
    obtain ⟨a1, a2, za, z1, z2⟩ := id hz
    refine ⟨_, PSs.nox <| pss_one (ps_ret (pe_tup (pa_cons (pe_cal A.times hr rfl pass0 (pa_cons (pe_ix ix_tup (pv 0) pe_int (fun _ _ => rfl)) (pa_cons (pv 1) pa_nil)))
      (pa_cons (pe_cal A.times hr rfl pass0 (pa_cons (pe_ix ix_tup (pv 0) pe_int (fun _ _ => rfl)) (pa_cons (pv 1) pa_nil))) pa_nil)))), ?_⟩
    refine ⟨_, rfl, _, _, _, _, rfl, rfl, za, at0, _, rfl, _, _, _, _, rfl, z1, hq, bz.1.sz hn, bq.sz hm, trivial, fun H1 p1 s1 h1 => ?_⟩
    refine ⟨_, rfl, _, _, _, _, rfl, rfl, same_tup s1 za, at1, _, rfl, _, _, _, _, rfl, z2.same s1, hq.same s1, bz.2.sz hn, bq.sz hm, trivial, fun H2 p2 s2 h2 => ?_⟩
    exact ⟨two_le, fun p hp => k _ p ((s1.trans s2).trans (same_new hp)) (ar_new (z := ot z q) hp (h1.same s2) h2)⟩
theorem ok_weight (F : FnP K "weight" sweight f fd) (A : Arith P w K mg base) : FnOk P w K mg base CX0 43 f fd ["one"] (spW K) := by
  refine F.ok sc_weight (fun vs H Q E h => ?_) (fun cdv A' outer s H vs Q E hr h => ?_)
  · obtain ⟨a, z, n, rfl, _⟩ := h
    rfl
  · obtain ⟨a, z, n, rfl, hz, bz, hn, k⟩ := h
    obtain ⟨a1, a2, za, z1, z2⟩ := id hz
    refine ⟨_, PSs.nox <| pss_one (ps_ret (pe_cal A.plus hr rfl pass0 (pa_cons (pe_cal A.times hr rfl pass0 (pa_cons (pe_ix ix_tup (pv 0) pe_int (fun _ _ => rfl)) (pa_cons (pe_ix ix_tup (pv 0) pe_int (fun _ _ => rfl)) pa_nil)))
      (pa_cons (pe_cal A.times hr rfl pass0 (pa_cons (pe_ix ix_tup (pv 0) pe_int (fun _ _ => rfl)) (pa_cons (pe_ix ix_tup (pv 0) pe_int (fun _ _ => rfl)) pa_nil))) pa_nil)))), ?_⟩
    refine ⟨_, rfl, _, _, _, _, rfl, rfl, za, at0, _, rfl, _, _, _, _, rfl, rfl, za, at0, _, _, _, _, rfl, z1, z1, bz.1.sz (by omega), bz.1.sz (by omega), trivial, fun H1 p1 s1 h1 => ?_⟩
    refine ⟨_, rfl, _, _, _, _, rfl, rfl, same_tup s1 za, at1, _, rfl, _, _, _, _, rfl, rfl, same_tup s1 za, at1, _, _, _, _, rfl, z2.same s1, z2.same s1, bz.2.sz (by omega), bz.2.sz (by omega), trivial, fun H2 p2 s2 h2 => ?_⟩
    exact ⟨_, _, _, _, rfl, h1.same s2, h2, (bz.1.mul bz.1).sz (by omega), (bz.2.mul bz.2).sz (by omega), trivial, fun H3 p3 s3 h3 => k H3 p3 ((s1.trans s2).trans s3) h3⟩
theorem ok_made (F : FnP K "made" smade f fd) (A : Arith P w K mg base) : FnOk P w K mg base CX0 43 f fd two (spA2 K (Fit fun n => 2 * n) md) := by
  refine F.ok sc_made (fun vs H Q E h => ?_) (fun cdv A' outer s H vs Q E hr h => ?_)
  · obtain ⟨a, b, z, y, rfl, _⟩ := h
    rfl
  · obtain ⟨a, b, z, y, rfl, hz, hy, ⟨n, bz, by_, hn⟩, k⟩ := h
    obtain ⟨a1, a2, za, z1, z2⟩ := id hz
    obtain ⟨b1, b2, yb, y1, y2⟩ := id hy
    have hn : 2 * n ≤ LIM := hn
    have hn1 : n ≤ LIM := by omega
    have hn2 : n + n ≤ LIM := by omega
    refine ⟨_, PSs.nox <| pss_cons (ps_asg (pv 0) (pg_tup (by rfl) (pgs_cons (pg_name (i := 2) sc_made.nd rfl (.inl rfl)) (pgs_cons (pg_name (i := 3) sc_made.nd rfl (.inl rfl)) pgs_nil)))) <|
      pss_cons (ps_asg (pv 1) (pg_tup (by rfl) (pgs_cons (pg_name (i := 4) sc_made.nd rfl (.inl rfl)) (pgs_cons (pg_name (i := 5) sc_made.nd rfl (.inl rfl)) pgs_nil)))) <|
      pss_one (ps_ret (pe_tup (pa_cons (pe_cal A.less hr rfl pass0 (pa_cons (pe_cal A.times hr rfl pass0 (pa_cons (pv 2) (pa_cons (pv 4) pa_nil))) (pa_cons (pe_cal A.times hr rfl pass0 (pa_cons (pv 3) (pa_cons (pv 5) pa_nil))) pa_nil)))
        (pa_cons (pe_cal A.plus hr rfl pass0 (pa_cons (pe_cal A.times hr rfl pass0 (pa_cons (pv 2) (pa_cons (pv 5) pa_nil))) (pa_cons (pe_cal A.times hr rfl pass0 (pa_cons (pv 3) (pa_cons (pv 4) pa_nil))) pa_nil))) pa_nil)))), ?_⟩
    refine ⟨_, rfl, _, _, rfl, za, rfl, _, _, rfl, _, _, rfl, rfl, ?_⟩
    refine ⟨_, rfl, _, _, rfl, yb, rfl, _, _, rfl, _, _, rfl, rfl, ?_⟩
    refine ⟨_, rfl, _, rfl, _, _, _, _, rfl, z1, y1, bz.1.sz hn1, by_.1.sz hn1, trivial, fun H1 p1 s1 h1 => ?_⟩
    refine ⟨_, rfl, _, rfl, _, _, _, _, rfl, z2.same s1, y2.same s1, bz.2.sz hn1, by_.2.sz hn1, trivial, fun H2 p2 s2 h2 => ?_⟩
    refine ⟨_, _, _, _, rfl, h1.same s2, h2, (bz.1.mul by_.1).sz hn2, (bz.2.mul by_.2).sz hn2, trivial, fun H3 p3 s3 h3 => ?_⟩
    have t3 := (s1.trans s2).trans s3
    refine ⟨_, rfl, _, rfl, _, _, _, _, rfl, z1.same t3, y2.same t3, bz.1.sz hn1, by_.2.sz hn1, trivial, fun H4 p4 s4 h4 => ?_⟩
    have t4 := t3.trans s4
    refine ⟨_, rfl, _, rfl, _, _, _, _, rfl, z2.same t4, y1.same t4, bz.2.sz hn1, by_.1.sz hn1, trivial, fun H5 p5 s5 h5 => ?_⟩
    refine ⟨_, _, _, _, rfl, h4.same s5, h5, (bz.1.mul by_.2).sz hn2, (bz.2.mul by_.1).sz hn2, trivial, fun H6 p6 s6 h6 => ?_⟩
    exact ⟨two_le, fun p hp => k _ p (((t4.trans s5).trans s6).trans (same_new hp)) (ar_new (z := md z y) hp (h3.same ((s4.trans s5).trans s6)) h6)⟩
theorem ok_copied (F : FnP K "copied" scopied f fd) (gT : mg "tuple" = none) : FnOk P w K mg base CX0 1 f fd ["one"] (spCopied K) := by
  refine F.ok sc_copied (fun vs H Q E h => ?_) (fun cdv A' outer s H vs Q E hr h => ?_)
  · obtain ⟨a, z, rfl, _⟩ := h
    rfl
  · obtain ⟨a, z, rfl, hz, k⟩ := h
    obtain ⟨a1, a2, za, z1, z2⟩ := id hz
    refine ⟨_, PSs.nox <| pss_cons (ps_asg (pv 0) (pg_tup (by rfl) (pgs_cons (pg_name (i := 1) sc_copied.nd rfl (.inl rfl)) (pgs_cons (pg_name (i := 2) sc_copied.nd rfl (.inl rfl)) pgs_nil)))) <|
      pss_one (ps_ret (pe_tup (pa_cons (pe_callTy call_tuple_of (by rfl) gT (by decide +kernel) (pa_cons (pv 1) pa_nil)) (pa_cons (pe_callTy call_tuple_of (by rfl) gT (by decide +kernel) (pa_cons (pv 2) pa_nil)) pa_nil)))), ?_⟩
    refine ⟨_, rfl, _, _, rfl, za, rfl, _, _, rfl, _, _, rfl, rfl, ?_⟩
    refine ⟨_, rfl, _, _, rfl, .inr ⟨z1, ?_⟩⟩
    refine ⟨_, rfl, _, _, rfl, .inr ⟨z2, ?_⟩⟩
    exact ⟨two_le, fun p hp => k _ p (same_new hp) (ar_new hp z1 z2)⟩
end
end CT

/-! W4: == of arrows, parted, exchanged, rods_traded. -/
namespace CT
open PySem PySem.Spec PyProof.Rows L2
/-! ### as data -/
def dP (q : Rat) : PyData := .tuple [.int q.num, .int (q.den : Int)]
def dA (z : Ar) : PyData := .tuple [dP z.1, dP z.2]
theorem PartAt.dp {K : PySem.W.Frag} {H : Hp} {p : Addr} {q : Rat} (h : PartAt K H p q) : Dp K H (.ref p) (dP q) := .tup h (.cons (.int _) (.cons (.int _) .nil))
theorem ArAt.dp {K : PySem.W.Frag} {H : Hp} {p : Addr} {z : Ar} (h : ArAt K H p z) : Dp K H (.ref p) (dA z) := by
  obtain ⟨a, b, h1, h2, h3⟩ := h
  exact .tup h1 (.cons h2.dp (.cons h3.dp .nil))
theorem eqv_dP (q r : Rat) : PyData.eqv (dP q) (dP r) = decide (q = r) := by
  unfold dP
  simp only [PyData.eqv, PyData.eqvAll, Bool.and_true]
  rw [Bool.eq_iff_iff, Bool.and_eq_true, beq_iff_eq, beq_iff_eq, decide_eq_true_eq]
  constructor
  · rintro ⟨h1, h2⟩
    exact Rat.ext h1 (by omega)
  · rintro rfl
    exact ⟨rfl, rfl⟩
theorem eqv_dA (z y : Ar) : PyData.eqv (dA z) (dA y) = decide (z = y) := by
  unfold dA
  simp only [PyData.eqv, PyData.eqvAll, Bool.and_true]
  rw [eqv_dP, eqv_dP, Bool.eq_iff_iff, Bool.and_eq_true, decide_eq_true_eq, decide_eq_true_eq, decide_eq_true_eq]
  constructor
  · rintro ⟨h1, h2⟩
    exact ar_ext h1 h2
  · rintro rfl
    exact ⟨rfl, rfl⟩
theorem sh_dP (q : Rat) : SeqAt.shaped (dP q) = true := rfl
theorem sh_dA (z : Ar) : SeqAt.shaped (dA z) = true := rfl
/-! ### bits -/
theorem Ba.mt {n : Nat} {z : Ar} (h : Ba n z) : Ba n (mt z) := ⟨h.1, by
  have e : (CT.mt z).2 = -z.2 := by simp only [CT.mt]; grind
  rw [e]
  exact h.2.neg⟩
theorem Ba.md {n : Nat} {z y : Ar} (h : Ba n z) (k : Ba n y) : Ba (4 * n + 1) (md z y) :=
  ⟨((h.1.mul k.1).sub (h.2.mul k.2)).mono (by omega), ((h.1.mul k.2).add (h.2.mul k.1)).mono (by omega)⟩
theorem Ba.wt {n : Nat} {z : Ar} (h : Ba n z) : Bt (4 * n + 1) (wt z) := ((h.1.mul h.1).add (h.2.mul h.2)).mono (by omega)
theorem Ba.pd {n : Nat} {z y : Ar} (h : Ba n z) (k : Ba n y) (hy : y ≠ aZ) : Ba (8 * n + 2) (pd z y) := ((h.md k.mt).ot (k.wt.inv (wt_ne hy))).mono (by omega)
/-! ### promises -/
structure Arrs (P : Program) (w : World) (K : PySem.W.Frag) (mg : Str → Option Value) (base : Heap) : Prop where
  summed : Cal P w K mg base CX0 "summed" 43 two (spA2 K (Fit fun n => n) sm)
  off : Cal P w K mg base CX0 "off" 43 two (spA2 K (Fit fun n => n) df)
  mate : Cal P w K mg base CX0 "mate" 43 ["one"] (spA1 K (fun n => n + 1) mt)
  often : Cal P w K mg base CX0 "often" 43 ["one", "many"] (spOf K)
  weight : Cal P w K mg base CX0 "weight" 43 ["one"] (spW K)
  made : Cal P w K mg base CX0 "made" 43 two (spA2 K (Fit fun n => 2 * n) md)
  copied : Cal P w K mg base CX0 "copied" 1 ["one"] (spCopied K)
def PairAt (K : PySem.W.Frag) (H : Hp) (p : Addr) (c d : Ar) : Prop := ∃ a b : Addr, SqT K H p [.ref a, .ref b] ∧ ArAt K H a c ∧ ArAt K H b d
/-- what exchanged, rods_traded hand back -/
def giveEx (K : PySem.W.Frag) (H : Hp) (z y : Ar) (Q : VK) : Prop := (ex z y = none → ∀ H', Same H H' → Q .non H') ∧ ∀ c d, ex z y = some (c, d) → ∀ (H' : Hp) (p : Addr), Same H H' → PairAt K H' p c d → Q (.ref p) H'
def spEx (K : PySem.W.Frag) : Sp := fun vs H Q _ => ∃ (a b : Addr) (z y : Ar), vs = [.ref a, .ref b] ∧ ArAt K H a z ∧ ArAt K H b y ∧ Fit (fun n => 32 * n + 20) z y ∧ giveEx K H z y Q
section
variable {P : Program} {w : World} {K : PySem.W.Frag} {mg : Str → Option Value} {base : Heap} {f : Addr} {fd : FuncData}
theorem sc_parted : FnScope two two (defScope sparted) := ⟨rfl, rfl, rfl, by decide +kernel, rfl, by decide +kernel, by decide +kernel⟩
theorem ok_parted (F : FnP K "parted" sparted f fd) (A : Arith P w K mg base) (R : Arrs P w K mg base) (T : Cons K mg) : FnOk P w K mg base CX0 44 f fd two (spA2 K (fun z y => y ≠ aZ ∧ Fit (fun n => 4 * n + 2) z y) pd) := by
  refine F.ok sc_parted (fun vs H Q E h => ?_) (fun cdv A' outer s H vs Q E hr h => ?_)
  · obtain ⟨a, b, z, y, rfl, _⟩ := h
    rfl
  · obtain ⟨a, b, z, y, rfl, hz, hy, ⟨ny, n, bz, by_, hn⟩, k⟩ := h
    have hn : 4 * n + 2 ≤ LIM := hn
    obtain ⟨ao, go, hoo⟩ := T.origin
    obtain ⟨a1, g1, h11⟩ := T.one
    refine ⟨_, PSs.nox <| pss_cons (ps_if (pt_cmpR (op_eqD hr.units) (pv 1) (pe_glob (v := .ref ao) rfl go rfl) (nomark _)) pss_never pss_nil) <|
      pss_one (ps_ret (pe_cal R.often hr rfl pass0 (pa_cons (pe_cal R.made hr rfl pass0 (pa_cons (pv 0) (pa_cons (pe_cal R.mate hr rfl pass0 (pa_cons (pv 1) pa_nil)) pa_nil)))
        (pa_cons (pe_cal A.over (hr.mono (by decide)) rfl pass0 (pa_cons (pe_glob (v := .ref a1) rfl g1 rfl) (pa_cons (pe_cal R.weight hr rfl pass0 (pa_cons (pv 1) pa_nil)) pa_nil))) pa_nil)))), ?_⟩
    refine ⟨_, rfl, _, _, hy.dp, (hoo _).dp, sh_dA _, sh_dA _, _, rfl, ?_⟩
    rw [eqv_dA]
    refine ite2 (fun q => absurd (of_decide_eq_true q) ny) (fun _ => ?_)
    refine ⟨_, rfl, _, rfl, _, _, _, rfl, hy, by_, by show n + 1 ≤ LIM; omega, fun H1 p1 s1 h1 => ?_⟩
    refine ⟨_, _, _, _, rfl, hz.same s1, h1, ⟨n, bz, by_.mt, by show 2 * n ≤ LIM; omega⟩, fun H2 p2 s2 h2 => ?_⟩
    refine ⟨_, rfl, _, _, _, rfl, hy.same (s1.trans s2), by_, by omega, fun H3 p3 s3 h3 => ?_⟩
    refine ⟨_, _, _, _, rfl, h11 _, h3, Bt.one.sz (by omega), by_.wt.sz (by omega), wt_ne ny, fun H4 p4 s4 h4 => ?_⟩
    refine ⟨_, _, _, _, _, _, rfl, h2.same (s3.trans s4), h4, bz.md by_.mt, by_.wt.inv (wt_ne ny), by omega, by omega, fun H5 p5 s5 h5 => ?_⟩
    exact k H5 p5 ((((s1.trans s2).trans s3).trans s4).trans s5) h5
theorem sc_exchanged : FnScope ["one", "other", "both", "low"] two (defScope sexchanged) := ⟨rfl, rfl, rfl, by decide +kernel, rfl, by decide +kernel, by decide +kernel⟩
theorem ok_exchanged (F : FnP K "exchanged" sexchanged f fd) (R : Arrs P w K mg base) (T : Cons K mg) (Cp : Cal P w K mg base CX0 "parted" 44 two (spA2 K (fun z y => y ≠ aZ ∧ Fit (fun n => 4 * n + 2) z y) pd)) : FnOk P w K mg base CX0 45 f fd two (spEx K) := by
  refine F.ok sc_exchanged (fun vs H Q E h => ?_) (fun cdv A' outer s H vs Q E hr h => ?_)
  · obtain ⟨a, b, z, y, rfl, _⟩ := h
    rfl
  · obtain ⟨a, b, z, y, rfl, hz, hy, ⟨n, bz, by_, hn⟩, k0, k1⟩ := h
    have hn : 32 * n + 20 ≤ LIM := hn
    have hr1 : Room 43 _ := hr.mono (by decide)
    obtain ⟨ao, go, hoo⟩ := T.origin
    refine ⟨_, PSs.nox <| pss_cons (ps_set (i := 2) sc_exchanged.nd rfl (.inl rfl) (pe_cal R.summed hr1 rfl pass0 (pa_cons (pv 0) (pa_cons (pv 1) pa_nil)))) <|
      pss_cons (ps_if (pt_cmpR (op_eqD hr.units) (pv 2) (pe_glob (v := .ref ao) rfl go rfl) (nomark _)) (pss_one (ps_ret pe_non)) pss_nil) <|
      pss_cons (ps_set (i := 3) sc_exchanged.nd rfl (.inl rfl) (pe_cal Cp hr rfl pass0 (pa_cons (pv 2) (pa_cons (pe_cal R.mate hr1 rfl pass0 (pa_cons (pv 2) pa_nil)) pa_nil)))) <|
      pss_one (ps_ret (pe_tup (pa_cons (pe_cal R.made hr1 rfl pass0 (pa_cons (pv 3) (pa_cons (pe_cal R.mate hr1 rfl pass0 (pa_cons (pv 1) pa_nil)) pa_nil))) (pa_cons (pe_cal R.made hr1 rfl pass0 (pa_cons (pv 3) (pa_cons (pe_cal R.mate hr1 rfl pass0 (pa_cons (pv 0) pa_nil)) pa_nil))) pa_nil)))), ?_⟩
    refine ⟨_, rfl, _, rfl, _, _, _, _, rfl, hz, hy, ⟨n, bz, by_, by show n ≤ LIM; omega⟩, fun H1 p1 s1 h1 => ?_⟩
    refine ⟨_, rfl, _, _, h1.dp, (hoo _).dp, sh_dA _, sh_dA _, _, rfl, ?_⟩
    rw [eqv_dA]
    have bs : Ba (2 * n + 1) (sm z y) := (bz.sm by_).mono (by omega)
    refine ite2 (fun q => ?_) (fun q => ?_)
    · exact k0 (if_pos (of_decide_eq_true q)) H1 s1
    · have nz : sm z y ≠ aZ := fun e => q (decide_eq_true e)
      have nm : mt (sm z y) ≠ aZ := fun e => nz (mt_zero.mp e)
      refine ⟨_, rfl, _, rfl, _, _, _, rfl, h1, bs, by show 2 * n + 1 + 1 ≤ LIM; omega, fun H2 p2 s2 h2 => ?_⟩
      refine ⟨_, _, _, _, rfl, h1.same s2, h2, ⟨nm, 2 * n + 1, bs, bs.mt, by show 4 * (2 * n + 1) + 2 ≤ LIM; omega⟩, fun H3 p3 s3 h3 => ?_⟩
      have bl : Ba (16 * n + 10) (low z y) := (bs.pd bs.mt nm).mono (by omega)
      have t3 := (s1.trans s2).trans s3
      refine ⟨_, rfl, _, rfl, _, _, _, rfl, hy.same t3, by_, by show n + 1 ≤ LIM; omega, fun H4 p4 s4 h4 => ?_⟩
      refine ⟨_, _, _, _, rfl, h3.same s4, h4, ⟨16 * n + 10, bl, by_.mt.mono (by omega), by show 2 * (16 * n + 10) ≤ LIM; omega⟩, fun H5 p5 s5 h5 => ?_⟩
      have t5 := (t3.trans s4).trans s5
      refine ⟨_, rfl, _, rfl, _, _, _, rfl, hz.same t5, bz, by show n + 1 ≤ LIM; omega, fun H6 p6 s6 h6 => ?_⟩
      refine ⟨_, _, _, _, rfl, h3.same ((s4.trans s5).trans s6), h6, ⟨16 * n + 10, bl, bz.mt.mono (by omega), by show 2 * (16 * n + 10) ≤ LIM; omega⟩, fun H7 p7 s7 h7 => ?_⟩
      refine ⟨two_le, fun p hp => k1 _ _ (if_neg nz) _ p (((t5.trans s6).trans s7).trans (same_new hp)) ⟨p5, p7, tup_new, (h5.same (s6.trans s7)).same (same_new hp), h7.same (same_new hp)⟩⟩
end
/-! ### lists of things at addresses -/
def Each {α : Type} (R : Addr → α → Prop) : List Addr → List α → Prop
  | [], [] => True
  | p :: ps, x :: xs => R p x ∧ Each R ps xs
  | _, _ => False
section
variable {α : Type} {R S : Addr → α → Prop}
theorem Each.len : ∀ {ps : List Addr} {xs : List α}, Each R ps xs → ps.length = xs.length
  | [], [], _ => rfl
  | _ :: _, _ :: _, h => by rw [List.length_cons, List.length_cons, Each.len h.2]
  | [], _ :: _, h => h.elim
  | _ :: _, [], h => h.elim
theorem Each.imp (f : ∀ p x, R p x → S p x) : ∀ {ps : List Addr} {xs : List α}, Each R ps xs → Each S ps xs
  | [], [], _ => trivial
  | _ :: _, _ :: _, h => ⟨f _ _ h.1, Each.imp f h.2⟩
  | [], _ :: _, h => h.elim
  | _ :: _, [], h => h.elim
theorem Each.get : ∀ {ps : List Addr} {xs : List α} {i : Nat} {x : α}, Each R ps xs → xs[i]? = some x → ∃ p, ps[i]? = some p ∧ R p x
  | [], [], _, _, _, e => by simp at e
  | p :: ps, y :: ys, 0, x, h, e => by
    have e' : y = x := by simpa using e
    subst e'
    exact ⟨p, rfl, h.1⟩
  | p :: ps, y :: ys, i + 1, x, h, e => by
    obtain ⟨q, h1, h2⟩ := Each.get (i := i) (x := x) h.2 (by simpa using e)
    exact ⟨q, by simpa using h1, h2⟩
  | [], _ :: _, _, _, h, _ => h.elim
  | _ :: _, [], _, _, h, _ => h.elim
theorem Each.app : ∀ {ps qs : List Addr} {xs ys : List α}, Each R ps xs → Each R qs ys → Each R (ps ++ qs) (xs ++ ys)
  | [], _, [], _, _, k => k
  | _ :: _, _, _ :: _, _, h, k => ⟨h.1, Each.app h.2 k⟩
  | [], _, _ :: _, _, h, _ => h.elim
  | _ :: _, _, [], _, h, _ => h.elim
theorem Each.take (n : Nat) : ∀ {ps : List Addr} {xs : List α}, Each R ps xs → Each R (ps.take n) (xs.take n) := by
  induction n with
  | zero => intro ps xs _; exact trivial
  | succ n ih =>
    intro ps xs h
    match ps, xs, h with
    | [], [], _ => exact trivial
    | _ :: _, _ :: _, h => exact ⟨h.1, ih h.2⟩
theorem Each.drop (n : Nat) : ∀ {ps : List Addr} {xs : List α}, Each R ps xs → Each R (ps.drop n) (xs.drop n) := by
  induction n with
  | zero => intro ps xs h; exact h
  | succ n ih =>
    intro ps xs h
    match ps, xs, h with
    | [], [], _ => exact trivial
    | _ :: _, _ :: _, h => exact ih h.2
theorem Each.erase : ∀ (n : Nat) {ps : List Addr} {xs : List α}, Each R ps xs → Each R (ps.eraseIdx n) (xs.eraseIdx n)
  | _, [], [], _ => trivial
  | 0, _ :: _, _ :: _, h => h.2
  | n + 1, _ :: _, _ :: _, h => ⟨h.1, Each.erase n h.2⟩
  | _, [], _ :: _, h => h.elim
  | _, _ :: _, [], h => h.elim
end
theorem map_at {ps : List Addr} {i : Nat} {p : Addr} (h : ps[i]? = some p) : (ps.map V.ref)[i]? = some (.ref p) := by rw [List.getElem?_map, h]; rfl
/-! ### rods -/
abbrev Rod : Type := Str × Ar
def RodAt (K : PySem.W.Frag) (H : Hp) (p : Addr) (r : Rod) : Prop := ∃ a : Addr, SqT K H p [.str r.1, .ref a] ∧ ArAt K H a r.2
theorem RodAt.same {K : PySem.W.Frag} {H H' : Hp} {p : Addr} {r : Rod} (h : RodAt K H p r) (s : Same H H') : RodAt K H' p r := by
  obtain ⟨a, h1, h2⟩ := h
  exact ⟨a, same_tup s h1, h2.same s⟩
def RodsAt (K : PySem.W.Frag) (H : Hp) (l : Addr) (rs : List Rod) : Prop := ∃ ps : List Addr, SqL K H l (ps.map V.ref) ∧ Each (RodAt K H) ps rs
theorem RodsAt.same {K : PySem.W.Frag} {H H' : Hp} {l : Addr} {rs : List Rod} (h : RodsAt K H l rs) (s : Same H H') : RodsAt K H' l rs := by
  obtain ⟨ps, h1, h2⟩ := h
  exact ⟨ps, s.seq h1, h2.imp fun _ _ q => q.same s⟩
abbrev ars (rs : List Rod) : List Ar := rs.map (·.2)
/-- the rods at k and k + 1 traded -/
def trd (rs : List Rod) (k : Nat) : Option (List Rod) := match rs[k]?, rs[k + 1]? with
  | some a, some b => (ex a.2 b.2).map fun cd => rs.take k ++ [(b.1, cd.1), (a.1, cd.2)] ++ rs.drop (k + 2)
  | _, _ => none
def spTrd (K : PySem.W.Frag) : Sp := fun vs H Q _ => ∃ (l : Addr) (k : Nat) (rs : List Rod) (n : Nat), vs = [.ref l, .int (k : Int)] ∧ RodsAt K H l rs ∧ k + 1 < rs.length ∧ rs.length ≤ 100 ∧ (∀ z ∈ ars rs, Ba n z) ∧ 32 * n + 20 ≤ LIM ∧
  (trd rs k = none → ∀ H', Same H H' → Q .non H') ∧ ∀ rs', trd rs k = some rs' → ∀ (H' : Hp) (p : Addr), Same H H' → RodsAt K H' p rs' → Q (.ref p) H'
section
variable {P : Program} {w : World} {K : PySem.W.Frag} {mg : Str → Option Value} {base : Heap} {f : Addr} {fd : FuncData}
theorem cut_take {xs : List V} {k : Nat} (h : k ≤ xs.length) : cutV xs none (some (k : Int)) = xs.take k := by
  unfold cutV
  rw [HT.sIx_none, HT.sIx_nat, List.drop_zero, Nat.min_eq_left h, Nat.sub_zero]
theorem cut_drop {xs : List V} {k : Nat} (h : k ≤ xs.length) : cutV xs (some (k : Int)) none = xs.drop k := by
  unfold cutV
  rw [HT.sIx_none, HT.sIx_nat, Nat.min_eq_left h, List.take_of_length_le]
  rw [List.length_drop]
  exact Nat.le_refl _
theorem sc_trd : FnScope ["rods", "at", "ahead", "behind", "arrows"] ["rods", "at"] (defScope srods_traded) := ⟨rfl, rfl, rfl, by decide +kernel, rfl, by decide +kernel, by decide +kernel⟩
theorem ok_trd (F : FnP K "rods_traded" srods_traded f fd) (Ce : Cal P w K mg base CX0 "exchanged" 45 two (spEx K)) : FnOk P w K mg base CX0 46 f fd ["rods", "at"] (spTrd K) := by
  refine F.ok sc_trd (fun vs H Q E h => ?_) (fun cdv A' outer s H vs Q E hr h => ?_)
  · obtain ⟨l, k, rs, n, rfl, _⟩ := h
    rfl
  · obtain ⟨l, k, rs, n, rfl, ⟨ps, hl, he⟩, hk, h100, hb, hn, k0, k1⟩ := h
    have hlen := he.len
    have ea : rs[k]? = some rs[k] := List.getElem?_eq_getElem (by omega)
    have eb : rs[k + 1]? = some rs[k + 1] := List.getElem?_eq_getElem hk
    generalize rs[k] = ra at ea
    generalize rs[k + 1] = rb at eb
    obtain ⟨pa, ia, aa, ta, za⟩ := he.get ea
    obtain ⟨pb, ib, ab, tb, zb⟩ := he.get eb
    have ma : ra.2 ∈ ars rs := List.mem_map.mpr ⟨ra, List.mem_of_getElem? ea, rfl⟩
    have mb : rb.2 ∈ ars rs := List.mem_map.mpr ⟨rb, List.mem_of_getElem? eb, rfl⟩
    have et : trd rs k = (ex ra.2 rb.2).map fun cd => rs.take k ++ [(rb.1, cd.1), (ra.1, cd.2)] ++ rs.drop (k + 2) := by unfold trd; rw [ea, eb]
    refine ⟨_, PSs.nox <| pss_cons (ps_par (i := 2) (j := 3) (by rfl) sc_trd.nd rfl rfl (by decide) rfl rfl (pa_cons (pe_ix ix_list (pv 0) (pv 1) (fun _ _ => rfl)) (pa_cons (pe_ix ix_list (pv 0) (pe_op op_add (pv 1) pe_int) (fun _ _ => rfl)) pa_nil)) (by rfl)) <|
      pss_cons (ps_set (i := 4) sc_trd.nd rfl (.inl rfl) (pe_cal Ce hr rfl pass0 (pa_cons (pe_ix ix_tup (pv 2) pe_int (fun _ _ => rfl)) (pa_cons (pe_ix ix_tup (pv 3) pe_int (fun _ _ => rfl)) pa_nil)))) <|
      pss_cons (ps_if (pt_cmpR op_isN (pv 4) pe_non (nomark _)) (pss_one (ps_ret pe_non)) pss_nil) <|
      pss_one (ps_ret (pe_op op_cat (pe_op op_cat (pe_slice sl_list (pv 0) po_none (po_some (pv 1))) (pe_lst (pa_cons (pe_tup (pa_cons (pe_ix ix_tup (pv 3) pe_int (fun _ _ => rfl)) (pa_cons (pe_ix ix_tup (pv 4) pe_int (fun _ _ => rfl)) pa_nil))) (pa_cons (pe_tup (pa_cons (pe_ix ix_tup (pv 2) pe_int (fun _ _ => rfl)) (pa_cons (pe_ix ix_tup (pv 4) pe_int (fun _ _ => rfl)) pa_nil))) pa_nil))))
        (pe_slice sl_list (pv 0) (po_some (pe_op op_add (pv 1) pe_int)) po_none))), ?_⟩
    have e1 : ((k : Int) + 1) = ((k + 1 : Nat) : Int) := rfl
    refine ⟨_, rfl, _, rfl, _, _, _, _, rfl, rfl, hl, atI_nat (map_at ia), _, rfl, _, rfl, _, _, rfl, rfl, _, _, _, _, rfl, rfl, hl, at_of e1 (map_at ib), _, _, rfl, ?_⟩
    refine ⟨_, rfl, _, _, _, _, rfl, rfl, ta, at1, _, rfl, _, _, _, _, rfl, rfl, tb, at1, _, _, _, _, rfl, za, zb, ⟨n, hb _ ma, hb _ mb, hn⟩, fun hx H1 s1 => ?_, fun c d hx H1 p1 s1 h1 => ?_⟩
    · refine ⟨_, rfl, rfl, _, rfl, ?_⟩
      refine ite2 (fun _ => ?_) (fun q => absurd (by decide) q)
      exact k0 (by rw [et, hx]; rfl) H1 s1
    · obtain ⟨c1, d1, hc, zc, zd⟩ := h1
      refine ⟨_, rfl, rfl, _, rfl, ?_⟩
      refine ite2 (fun q => absurd (of_decide_eq_true q) (fun z => by cases z)) (fun _ => ?_)
      refine ⟨_, rfl, _, rfl, _, rfl, _, _, rfl, s1.seq hl, fun q1 n1 => ?_⟩
      have s2 := s1.trans (same_new (o := .lst (cutV (ps.map V.ref) none (some (k : Int)))) n1)
      refine ⟨_, rfl, _, _, _, _, rfl, rfl, same_tup s2 tb, at0, _, rfl, _, _, _, _, rfl, rfl, same_tup (same_new n1) hc, at0, two_le, fun q2 n2 => ?_⟩
      refine ⟨_, rfl, _, _, _, _, rfl, rfl, same_tup (s2.trans (same_new n2)) ta, at0, _, rfl, _, _, _, _, rfl, rfl, same_tup (same_new n2) (same_tup (same_new n1) hc), at1, two_le, fun q3 n3 => ?_⟩
      refine ⟨two_le, fun q4 n4 => ?_⟩
      have hlm : (ps.map V.ref).length = rs.length := by rw [List.length_map, hlen]
      have hz : ∀ m : Nat, m ≤ 1000 → m ≤ sizeLine := fun m hm => Nat.le_of_lt (small1000 hm)
      refine ⟨_, _, _, _, rfl, rfl, same_new n4 _ _ (same_new n3 _ _ (same_new n2 _ _ upd_same)), upd_same, ?_, fun q5 n5 => ?_⟩
      · have := cutV_length (ps.map V.ref) none (some (k : Int))
        exact hz _ (by rw [List.length_cons, List.length_singleton]; omega)
      have s5 := (((s2.trans (same_new (o := .tup [V.str rb.1, V.ref c1]) n2)).trans (same_new (o := .tup [V.str ra.1, V.ref d1]) n3)).trans (same_new (o := .lst [V.ref q2, V.ref q3]) n4)).trans (same_new (o := .lst (cutV (ps.map V.ref) none (some (k : Int)) ++ [V.ref q2, V.ref q3])) n5)
      have e2 : ((k : Int) + 2) = ((k + 2 : Nat) : Int) := rfl
      refine ⟨_, rfl, _, rfl, _, _, rfl, rfl, _, rfl, _, _, rfl, s5.seq hl, fun q6 n6 => ?_⟩
      refine ⟨_, _, _, _, rfl, rfl, same_new n6 _ _ upd_same, upd_same, ?_, fun q7 n7 => ?_⟩
      · have := cutV_length (ps.map V.ref) none (some (k : Int))
        have := cutV_length (ps.map V.ref) (some ((k : Int) + 2)) none
        exact hz _ (by rw [List.length_append, List.length_cons, List.length_singleton]; omega)
      have b6 := same_new (o := .lst (cutV (ps.map V.ref) (some ((k : Int) + 2)) none)) n6
      have b7 := same_new (o := .lst (cutV (ps.map V.ref) none (some (k : Int)) ++ [V.ref q2, V.ref q3] ++ cutV (ps.map V.ref) (some ((k : Int) + 2)) none)) n7
      have sF := (s5.trans b6).trans b7
      refine k1 _ (by rw [et, hx]; rfl) _ q7 sF ⟨ps.take k ++ [q2, q3] ++ ps.drop (k + 2), ?_, ?_⟩
      · refine .of ?_
        rw [upd_same, cut_take (by omega), e2, cut_drop (by omega), List.map_append, List.map_append, List.map_take, List.map_drop]
        rfl
      · have b3 := same_new (o := .tup [V.str ra.1, V.ref d1]) n3
        have b4 := same_new (o := .lst [V.ref q2, V.ref q3]) n4
        have b5 := same_new (o := .lst (cutV (ps.map V.ref) none (some (k : Int)) ++ [V.ref q2, V.ref q3])) n5
        have c2 := (((b3.trans b4).trans b5).trans b6).trans b7
        have c3 := ((b4.trans b5).trans b6).trans b7
        have c1' := (same_new (o := .lst (cutV (ps.map V.ref) none (some (k : Int)))) n1).trans (same_new (o := .tup [V.str rb.1, V.ref c1]) n2)
        have c0 := c1'.trans c2
        refine Each.app (Each.app ((he.take k).imp fun _ _ q => q.same sF) ⟨?_, ?_, trivial⟩) ((he.drop (k + 2)).imp fun _ _ q => q.same sF)
        · exact ⟨c1, same_tup c2 (.of upd_same), zc.same c0⟩
        · exact ⟨d1, same_tup c3 (.of upd_same), zd.same c0⟩
end
end CT

/-! W5: lists that are built; entry, grown_by, whole_of. -/
namespace CT
open PySem PySem.Spec PyProof.Rows L2
/-! ### a list is written, the rest stays -/
theorem sqT_put {K : PySem.W.Frag} {H : Hp} {D a : Addr} {xs ts : List V} {o : HO} (h : SqT K H a ts) (hD : H D = some (.lst xs)) : SqT K (upd H D o) a ts := by
  rcases h with (h | ⟨u, h⟩) | h
  · exact .inl (.inl (by rw [upd_ne (ne_of h hD (by intro z; cases z))]; exact h))
  · exact .inl (.inr ⟨u, by rw [upd_ne (ne_of h hD (by intro z; cases z))]; exact h⟩)
  · exact .inr h
theorem same_put {H0 H : Hp} {D : Addr} {o : HO} (s : Same H0 H) (n : H0 D = none) : Same H0 (upd H D o) := fun b u e => by rw [upd_ne (ne_of_none e n)]; exact s b u e
/-- what stays when the heap grows and when a list is written -/
structure Stab {α : Type} (R : Hp → Addr → α → Prop) : Prop where
  same : ∀ {H H' : Hp} {p : Addr} {x : α}, R H p x → Same H H' → R H' p x
  put : ∀ {H : Hp} {D p : Addr} {x : α} {xs : List V} {o : HO}, R H p x → H D = some (.lst xs) → R (upd H D o) p x
theorem stP (K : PySem.W.Frag) : Stab (PartAt K) := ⟨fun h s => h.same s, fun h d => sqT_put h d⟩
theorem stA (K : PySem.W.Frag) : Stab (ArAt K) := ⟨fun h s => h.same s, fun ⟨a, b, h1, h2, h3⟩ d => ⟨a, b, sqT_put h1 d, (stP K).put h2 d, (stP K).put h3 d⟩⟩
theorem stR (K : PySem.W.Frag) : Stab (RodAt K) := ⟨fun h s => h.same s, fun ⟨a, h1, h2⟩ d => ⟨a, sqT_put h1 d, (stA K).put h2 d⟩⟩
section
variable {α : Type} {R : Hp → Addr → α → Prop}
theorem each_same (S : Stab R) {H H' : Hp} {ps : List Addr} {xs : List α} (h : Each (R H) ps xs) (s : Same H H') : Each (R H') ps xs := h.imp fun _ _ q => S.same q s
theorem each_put (S : Stab R) {H : Hp} {D : Addr} {o : HO} {ys : List V} {ps : List Addr} {xs : List α} (h : Each (R H) ps xs) (d : H D = some (.lst ys)) : Each (R (upd H D o)) ps xs := h.imp fun _ _ q => S.put q d
/-- at l a list of xs -/
def Lst (K : PySem.W.Frag) (R : Hp → Addr → α → Prop) (H : Hp) (l : Addr) (xs : List α) : Prop := ∃ ps : List Addr, SqL K H l (ps.map V.ref) ∧ Each (R H) ps xs
theorem Lst.same {K : PySem.W.Frag} (S : Stab R) {H H' : Hp} {l : Addr} {xs : List α} (h : Lst K R H l xs) (s : Same H H') : Lst K R H' l xs := by
  obtain ⟨ps, h1, h2⟩ := h
  exact ⟨ps, s.seq h1, each_same S h2 s⟩
/-- a new list at D that has got xs; behind H0 -/
structure Bld (R : Hp → Addr → α → Prop) (H0 : Hp) (D : Addr) (H : Hp) (xs : List α) : Prop where
  same : Same H0 H
  new : H0 D = none
  ex : ∃ qs : List Addr, H D = some (.lst (qs.map V.ref)) ∧ Each (R H) qs xs
theorem Bld.start {H0 : Hp} {D : Addr} (n : H0 D = none) : Bld R H0 D (upd H0 D (.lst [])) [] := ⟨same_new n, n, [], upd_same, trivial⟩
theorem Bld.grow (S : Stab R) {H0 H H' : Hp} {D : Addr} {xs : List α} (b : Bld R H0 D H xs) (s : Same H H') : Bld R H0 D H' xs := by
  obtain ⟨qs, h1, h2⟩ := b.ex
  exact ⟨b.same.trans s, b.new, qs, s _ _ h1, each_same S h2 s⟩
theorem Bld.step (S : Stab R) {H0 H H' : Hp} {D p : Addr} {xs : List α} {x : α} (b : Bld R H0 D H xs) (s : Same H H') (hx : R H' p x) (hl : xs.length < 1000) :
    ∃ acc, H' D = some (.lst acc) ∧ acc.length < sizeLine ∧ Bld R H0 D (upd H' D (.lst (acc ++ [.ref p]))) (xs ++ [x]) := by
  obtain ⟨qs, h1, h2⟩ := (b.grow S s).ex
  refine ⟨_, h1, ?_, same_put (b.same.trans s) b.new, b.new, qs ++ [p], ?_, ?_⟩
  · rw [List.length_map, h2.len]
    exact small1000 (by omega)
  · rw [upd_same, List.map_append]
    rfl
  · exact (each_put S h2 h1).app ⟨S.put hx h1, trivial⟩
theorem Bld.done {K : PySem.W.Frag} {H0 H : Hp} {D : Addr} {xs : List α} (b : Bld R H0 D H xs) : Lst K R H D xs := by
  obtain ⟨qs, h1, h2⟩ := b.ex
  exact ⟨qs, .of h1, h2⟩
end
abbrev ArsAt (K : PySem.W.Frag) : Hp → Addr → List Ar → Prop := Lst K (ArAt K)
abbrev PtsAt (K : PySem.W.Frag) : Hp → Addr → List Rat → Prop := Lst K (PartAt K)
/-- a whole at p -/
def WhAt (K : PySem.W.Frag) (H : Hp) (p : Addr) (x : Wh) : Prop := ∃ l m : Addr, SqT K H p [.ref l, .ref m] ∧ ArsAt K H l x.1 ∧ ArsAt K H m x.2
theorem WhAt.same {K : PySem.W.Frag} {H H' : Hp} {p : Addr} {x : Wh} (h : WhAt K H p x) (s : Same H H') : WhAt K H' p x := by
  obtain ⟨l, m, h1, h2, h3⟩ := h
  exact ⟨l, m, same_tup s h1, h2.same (stA K) s, h3.same (stA K) s⟩
/-! ### promises -/
def spEntry (K : PySem.W.Frag) : Sp := fun vs H Q _ => ∃ (l : Addr) (k : Int) (zs : List Ar), vs = [.ref l, .int k] ∧ ArsAt K H l zs ∧ ∀ p, ArAt K H p (en zs k) → Q (.ref p) H
def spGr (K : PySem.W.Frag) : Sp := fun vs H Q _ => ∃ (a b : Addr) (x : Wh) (z : Ar) (n : Nat), vs = [.ref a, .ref b] ∧ WhAt K H a x ∧ ArAt K H b z ∧ x.1.length ≤ 100 ∧ x.2.length ≤ 100 ∧ (∀ y ∈ x.1, Ba n y) ∧ (∀ y ∈ x.2, Ba n y) ∧ Ba n z ∧ 4 * n + 8 ≤ LIM ∧
  ∀ (H' : Hp) (p : Addr), Same H H' → WhAt K H' p (gr x z) → Q (.ref p) H'
def spWh (K : PySem.W.Frag) : Sp := fun vs H Q _ => ∃ (a : Addr) (rs : List Rod) (l : Nat), vs = [.ref a] ∧ RodsAt K H a rs ∧ rs.length ≤ 8 ∧ RowB l (ars rs) ∧ 4 * (8 * (l + 5) + 1) + 8 ≤ LIM ∧
  ∀ (H' : Hp) (p : Addr), Same H H' → WhAt K H' p (wh (ars rs)) → Q (.ref p) H'
theorem en_ba {n : Nat} {zs : List Ar} (h : ∀ z ∈ zs, Ba n z) (hn : 1 ≤ n) (k : Int) : Ba n (en zs k) := by
  unfold en
  by_cases hk : 0 ≤ k ∧ k < zs.length
  · rw [if_pos hk]
    have hi : k.toNat < zs.length := by omega
    rw [List.getD_eq_getElem?_getD, List.getElem?_eq_getElem hi]
    exact h _ (List.getElem_mem hi)
  · rw [if_neg hk]
    exact Ba.zero.mono hn
section
variable {P : Program} {w : World} {K : PySem.W.Frag} {mg : Str → Option Value} {base : Heap} {f : Addr} {fd : FuncData}
theorem sc_entry : FnScope ["row", "at"] ["row", "at"] (defScope sentry) := ⟨rfl, rfl, rfl, by decide +kernel, rfl, by decide +kernel, by decide +kernel⟩
theorem ok_entry (F : FnP K "entry" sentry f fd) (T : Cons K mg) (gL : mg "len" = none) : FnOk P w K mg base CX0 1 f fd ["row", "at"] (spEntry K) := by
  refine F.ok sc_entry (fun vs H Q E h => ?_) (fun cdv A' outer s H vs Q E hr h => ?_)
  · obtain ⟨l, k, zs, rfl, _⟩ := h
    rfl
  · obtain ⟨l, k, zs, rfl, ⟨ps, hl, he⟩, q⟩ := h
    obtain ⟨ao, go, hoo⟩ := T.origin
    have hlen := he.len
    refine ⟨_, PSs.nox <| pss_one (ps_ret (pe_ifExp (pt_chain op_le op_lt pe_int (pv 1) (pe_callB call_len_seq (by rfl) gL PySem.boot_len (pa_cons (pv 0) pa_nil))) (pe_ix ix_list (pv 0) (pv 1) (fun _ _ => rfl)) (pe_glob (v := .ref ao) rfl go rfl))), ?_⟩
    refine ⟨_, rfl, _, _, rfl, rfl, _, rfl, ?_⟩
    have no : ¬ (0 ≤ k ∧ k < zs.length) → Q (.ref ao) H := fun c => q ao (by
      unfold en
      rw [if_neg c]
      exact hoo _)
    refine ite2 (fun z => ?_) (fun z => ?_)
    · have h0 : 0 ≤ k := of_decide_eq_true z
      refine ⟨_, rfl, _, _, rfl, .inl hl, _, _, rfl, rfl, _, rfl, ?_⟩
      refine ite2 (fun z => ?_) (fun z => ?_)
      · have h1 := of_decide_eq_true z
        rw [List.length_map, hlen] at h1
        have hi : k.toNat < zs.length := by omega
        obtain ⟨p, ip, hp⟩ := he.get (List.getElem?_eq_getElem hi)
        refine ⟨_, rfl, _, rfl, _, _, _, _, rfl, rfl, hl, at_of (j := k.toNat) (by omega) (map_at ip), ?_⟩
        refine q p ?_
        unfold en
        rw [if_pos ⟨h0, h1⟩, List.getD_eq_getElem?_getD, List.getElem?_eq_getElem hi]
        exact hp
      · refine no fun c => z (decide_eq_true ?_)
        rw [List.length_map, hlen]
        exact c.2
    · exact ⟨_, rfl, no fun c => z (decide_eq_true c.1)⟩
theorem sc_gr : FnScope ["whole", "z", "p", "q", "low", "high", "at"] ["whole", "z"] (defScope sgrown_by) := ⟨rfl, rfl, rfl, by decide +kernel, rfl, by decide +kernel, by decide +kernel⟩
theorem range_snoc {α : Type} (f : Nat → α) (i : Nat) : (List.range (i + 1)).map f = (List.range i).map f ++ [f i] := by rw [List.range_succ, List.map_append]; rfl
theorem ok_gr (F : FnP K "grown_by" sgrown_by f fd) (R : Arrs P w K mg base) (Ce : Cal P w K mg base CX0 "entry" 1 ["row", "at"] (spEntry K)) (gL : mg "len" = none) (gR : mg "range" = none) : FnOk P w K mg base CX0 44 f fd ["whole", "z"] (spGr K) := by
  refine F.ok sc_gr (fun vs H Q E h => ?_) (fun cdv A' outer s H vs Q E hr h => ?_)
  · obtain ⟨a, b, x, z, n, rfl, _⟩ := h
    rfl
  · obtain ⟨a, b, x, z, n, rfl, ⟨l, m, hx, hl, hm⟩, hz, l1, l2, b1, b2, bz, hn, k⟩ := h
    have hr1 : Room 1 _ := hr.mono (by decide)
    have bz1 : Ba (n + 1) z := bz.mono (by omega)
    have e1 : ∀ i : Int, Ba (n + 1) (en x.1 i) := en_ba (fun y hy => (b1 y hy).mono (by omega)) (by omega)
    have e2 : ∀ i : Int, Ba (n + 1) (en x.2 i) := en_ba (fun y hy => (b2 y hy).mono (by omega)) (by omega)
    have lt1 : x.1.length < 1000 := by omega
    have hz62 : ∀ m : Nat, m ≤ 100 → -(2 ^ 62) ≤ ((m : Int) + 1) ∧ ((m : Int) + 1) < 2 ^ 62 := fun m hm => ⟨by omega, by omega⟩
    refine ⟨_, PSs.nox <| pss_cons (ps_asg (pv 0) (pg_tup (by rfl) (pgs_cons (pg_name (i := 2) sc_gr.nd rfl (.inr rfl)) (pgs_cons (pg_name (i := 3) sc_gr.nd rfl (.inr rfl)) pgs_nil)))) <|
      pss_cons (ps_setLc (i := 4) (own := [("at", 6)]) (g := gName 6) (tt := tYes) (by rfl) sc_gr.nd rfl rfl (sw_true rfl rfl rfl (by decide +kernel))
        (pi_range1 rfl gR (pa_cons (pe_op op_add (pe_callB call_len_seq (by rfl) gL PySem.boot_len (pa_cons (pv 2) pa_nil)) pe_int) pa_nil))
        (blkOk_by (N := ["whole", "z", "p", "q", "low", "high", "at"]) (sc := defScope sgrown_by) (by decide +kernel)) (fun _ _ _ _ _ => pg_name (i := 6) sc_gr.nd rfl (.inl rfl)) (fun _ _ _ _ _ => pts_nil)
        (fun _ _ _ _ _ => pe_cal R.off hr rfl pass0 (pa_cons (pe_cal Ce hr1 rfl pass0 (pa_cons (pv 2) (pa_cons (pe_op op_sub (pv 6) pe_int) pa_nil))) (pa_cons (pe_cal R.made hr rfl pass0 (pa_cons (pe_cal Ce hr1 rfl pass0 (pa_cons (pv 3) (pa_cons (pv 6) pa_nil))) (pa_cons (pe_cal R.mate hr rfl pass0 (pa_cons (pv 1) pa_nil)) pa_nil))) pa_nil)))) <|
      pss_cons (ps_setLc (i := 5) (own := [("at", 6)]) (g := gName 6) (tt := tYes) (by rfl) sc_gr.nd rfl rfl (sw_true rfl rfl rfl (by decide +kernel))
        (pi_range1 rfl gR (pa_cons (pe_op op_add (pe_callB call_len_seq (by rfl) gL PySem.boot_len (pa_cons (pv 3) pa_nil)) pe_int) pa_nil))
        (blkOk_by (N := ["whole", "z", "p", "q", "low", "high", "at"]) (sc := defScope sgrown_by) (by decide +kernel)) (fun _ _ _ _ _ => pg_name (i := 6) sc_gr.nd rfl (.inl rfl)) (fun _ _ _ _ _ => pts_nil)
        (fun _ _ _ _ _ => pe_cal R.summed hr rfl pass0 (pa_cons (pe_cal R.made hr rfl pass0 (pa_cons (pe_cal Ce hr1 rfl pass0 (pa_cons (pv 2) (pa_cons (pv 6) pa_nil))) (pa_cons (pv 1) pa_nil))) (pa_cons (pe_cal Ce hr1 rfl pass0 (pa_cons (pv 3) (pa_cons (pe_op op_sub (pv 6) pe_int) pa_nil))) pa_nil)))) <|
      pss_one (ps_ret (pe_tup (pa_cons (pv 4) (pa_cons (pv 5) pa_nil)))), ?_⟩
    obtain ⟨ps, hps, eps⟩ := id hl
    obtain ⟨qs, hqs, eqs⟩ := id hm
    have lp : (ps.map V.ref).length = x.1.length := by rw [List.length_map, eps.len]
    have lq : (qs.map V.ref).length = x.2.length := by rw [List.length_map, eqs.len]
    refine ⟨_, rfl, _, _, rfl, hx, rfl, _, _, rfl, _, _, rfl, rfl, ?_⟩
    refine ⟨_, rfl, _, _, rfl, .inl hps, _, _, rfl, rfl, _, rfl, by rw [lp]; exact (hz62 _ l1).1, by rw [lp]; exact (hz62 _ l1).2, fun D nD => ?_⟩
    have en1 : (((ps.map V.ref).length : Int) + 1).toNat = x.1.length + 1 := by rw [lp]; omega
    rw [en1]
    refine lc_range (fun i H' => Bld (ArAt K) H D H' ((List.range i).map fun (k : Nat) => df (en x.1 ((k : Int) - 1)) (md (en x.2 (k : Int)) (mt z)))) (Bld.start nD) (fun i Hi hi B => ?_) (fun H2 B => ?_)
    · rw [Int.zero_add]
      have s0 := B.same
      refine ⟨rfl, ?_⟩
      refine ⟨_, rfl, _, rfl, _, _, rfl, rfl, _, _, _, rfl, hl.same (stA K) s0, fun p1 h1 => ?_⟩
      refine ⟨_, rfl, _, rfl, _, _, _, rfl, hm.same (stA K) s0, fun p2 h2 => ?_⟩
      refine ⟨_, rfl, _, _, _, rfl, hz.same s0, bz1, by show n + 1 + 1 ≤ LIM; omega, fun H3 p3 s3 h3 => ?_⟩
      refine ⟨_, _, _, _, rfl, h2.same s3, h3, ⟨n + 1, e2 _, bz1.mt, by show 2 * (n + 1) ≤ LIM; omega⟩, fun H4 p4 s4 h4 => ?_⟩
      refine ⟨_, _, _, _, rfl, h1.same (s3.trans s4), h4, ⟨4 * (n + 1) + 1, (e1 _).mono (by omega), (e2 _).md bz1.mt, by show 4 * (n + 1) + 1 ≤ LIM; omega⟩, fun H5 p5 s5 h5 => ?_⟩
      rw [range_snoc]
      exact B.step (stA K) ((s3.trans s4).trans s5) h5 (by simp; omega)
    · have t2 := B.same
      have hps2 := t2.seq hqs
      refine ⟨_, rfl, _, _, rfl, .inl hps2, _, _, rfl, rfl, _, rfl, by rw [lq]; exact (hz62 _ l2).1, by rw [lq]; exact (hz62 _ l2).2, fun D' nD' => ?_⟩
      have en2 : (((qs.map V.ref).length : Int) + 1).toNat = x.2.length + 1 := by rw [lq]; omega
      rw [en2]
      refine lc_range (fun i H' => Bld (ArAt K) H2 D' H' ((List.range i).map fun (k : Nat) => sm (md (en x.1 (k : Int)) z) (en x.2 ((k : Int) - 1)))) (Bld.start nD') (fun i Hi hi B' => ?_) (fun H3 B' => ?_)
      · rw [Int.zero_add]
        have s0 := t2.trans B'.same
        refine ⟨rfl, ?_⟩
        refine ⟨_, rfl, _, rfl, _, _, _, rfl, hl.same (stA K) s0, fun p1 h1 => ?_⟩
        refine ⟨_, rfl, _, _, _, _, rfl, h1, hz.same s0, ⟨n + 1, e1 _, bz1, by show 2 * (n + 1) ≤ LIM; omega⟩, fun H4 p4 s4 h4 => ?_⟩
        refine ⟨_, rfl, _, rfl, _, _, rfl, rfl, _, _, _, rfl, hm.same (stA K) (s0.trans s4), fun p2 h2 => ?_⟩
        refine ⟨_, _, _, _, rfl, h4, h2, ⟨4 * (n + 1) + 1, (e1 _).md bz1, (e2 _).mono (by omega), by show 4 * (n + 1) + 1 ≤ LIM; omega⟩, fun H5 p5 s5 h5 => ?_⟩
        rw [range_snoc]
        exact B'.step (stA K) (s4.trans s5) h5 (by simp; omega)
      · have t3 := B'.same
        refine ⟨_, rfl, _, rfl, two_le, fun p hp => ?_⟩
        have s4 := same_new (o := .tup [V.ref D, V.ref D']) hp
        exact k _ p ((t2.trans t3).trans s4) ⟨D, D', tup_new, (B.done.same (stA K) t3).same (stA K) s4, B'.done.same (stA K) s4⟩
end
end CT

/-! W6: whole_of, rest_by, is_folded, least_at, rising. -/
namespace CT
open PySem PySem.Spec PyProof.Rows L2
/-! ### promises -/
def spRest (K : PySem.W.Frag) : Sp := fun vs H Q _ => ∃ (a b : Addr) (zs : List Ar) (w : Rat) (n v : Nat), vs = [.ref a, .ref b] ∧ ArsAt K H a zs ∧ PartAt K H b w ∧ zs.length ≤ 9 ∧ (∀ z ∈ zs, Ba n z) ∧ Bt v w ∧ 6 * (n + 4 * v + 3) ≤ LIM ∧
  ∀ (H' : Hp) (p q0 q1 : Addr), Same H H' → H' p = some (.lst [.ref q0, .ref q1]) → ArAt K H' q0 (rs w zs).1 → ArAt K H' q1 (rs w zs).2 → Q (.ref p) H'
def spIsF (K : PySem.W.Frag) : Sp := fun vs H Q _ => ∃ (a b : Addr) (x : Wh) (w : Rat) (n v : Nat), vs = [.ref a, .ref b] ∧ WhAt K H a x ∧ PartAt K H b w ∧ x.1.length ≤ 9 ∧ x.2.length ≤ 9 ∧ (∀ z, z ∈ x.1 ∨ z ∈ x.2 → Ba n z) ∧ Bt v w ∧ 6 * (n + 4 * v + 3) ≤ LIM ∧
  ∀ (H' : Hp) (c : Bool), Same H H' → (c = true ↔ isF x w) → Q (.bl c) H'
def spLeast (K : PySem.W.Frag) : Sp := fun vs H Q _ => ∃ (a : Addr) (ws : List Rat), vs = [.ref a] ∧ PtsAt K H a ws ∧ 0 < ws.length ∧ (∀ q ∈ ws, Sz q) ∧ ∀ (H' : Hp) (k : Nat), Same H H' → laS ws ws.length k → Q (.int (k : Int)) H'
def spRis (K : PySem.W.Frag) : Sp := fun vs H Q _ => ∃ (a : Addr) (ws : List Rat), vs = [.ref a] ∧ PtsAt K H a ws ∧ ws.length ≤ 100 ∧ (∀ q ∈ ws, Sz q) ∧ ∀ (H' : Hp) (p : Addr) (fs : List Rat), Same H H' → PtsAt K H' p fs → Ris ws [] fs → Q (.ref p) H'
theorem sh_list {ds : List PyData} (h1 : ∀ d ∈ ds, d.canLay0 = true) (h2 : ∀ d ∈ ds, d.depth ≤ 50) : SeqAt.shaped (.list ds) = true := by
  have c : ∀ es : List PyData, (∀ d ∈ es, d.canLay0 = true) → PyData.canLayAll0 es = true := fun es => by
    induction es with
    | nil => intro _; rfl
    | cons e es ih =>
      intro h
      simp only [PyData.canLayAll0, Bool.and_eq_true]
      exact ⟨h e List.mem_cons_self, ih fun d hd => h d (List.mem_cons_of_mem _ hd)⟩
  have e : ∀ es : List PyData, (∀ d ∈ es, d.depth ≤ 50) → PyData.depthAll es ≤ 50 := fun es => by
    induction es with
    | nil => intro _; simp [PyData.depthAll]
    | cons e es ih =>
      intro h
      simp only [PyData.depthAll]
      have q1 := h e List.mem_cons_self
      have q2 := ih fun d hd => h d (List.mem_cons_of_mem _ hd)
      omega
  unfold SeqAt.shaped
  rw [Bool.and_eq_true, decide_eq_true_eq]
  refine ⟨?_, ?_⟩
  · simp only [PyData.canLay0]
    exact c ds h1
  · simp only [PyData.depth]
    have := e ds h2
    omega
theorem sh_pts (ws : List Rat) : SeqAt.shaped (.list (ws.map dP)) = true := by
  refine sh_list (fun d hd => ?_) (fun d hd => ?_)
  · obtain ⟨q, _, rfl⟩ := List.mem_map.mp hd
    rfl
  · obtain ⟨q, _, rfl⟩ := List.mem_map.mp hd
    show (PyData.tuple [PyData.int _, PyData.int _]).depth ≤ 50
    simp [PyData.depth, PyData.depthAll]
theorem dp_all {α : Type} {K : PySem.W.Frag} {H : Hp} {R : Addr → α → Prop} {f : α → PyData} (g : ∀ p x, R p x → Dp K H (.ref p) (f x)) : ∀ {ps : List Addr} {xs : List α}, Each R ps xs → DpAll K H (ps.map V.ref) (xs.map f)
  | [], [], _ => .nil
  | _ :: _, _ :: _, h => .cons (g _ _ h.1) (dp_all g h.2)
  | [], _ :: _, h => h.elim
  | _ :: _, [], h => h.elim
section
variable {P : Program} {w : World} {K : PySem.W.Frag} {mg : Str → Option Value} {base : Heap} {f : Addr} {fd : FuncData}
theorem sc_wh : FnScope ["rods", "found", "name", "arrow"] ["rods"] (defScope swhole_of) := ⟨rfl, rfl, rfl, by decide +kernel, rfl, by decide +kernel, by decide +kernel⟩
theorem ok_wh (F : FnP K "whole_of" swhole_of f fd) (T : Cons K mg) (Cg : Cal P w K mg base CX0 "grown_by" 44 ["whole", "z"] (spGr K)) : FnOk P w K mg base CX0 45 f fd ["rods"] (spWh K) := by
  refine F.ok sc_wh (fun vs H Q E h => ?_) (fun cdv A' outer s H vs Q E hr h => ?_)
  · obtain ⟨a, rs, l, rfl, _⟩ := h
    rfl
  · obtain ⟨a, rs, l, rfl, hrs, h8, hB, hn, k⟩ := h
    obtain ⟨al, gl, hll⟩ := T.lone
    obtain ⟨ps, hps, eps⟩ := id hrs
    refine ⟨_, PSs.nox <| pss_cons (ps_set (i := 1) sc_wh.nd rfl (.inl rfl) (pe_tup (pa_cons (pe_lst (pa_cons (pe_glob (v := .ref al) rfl gl rfl) pa_nil)) (pa_cons (pe_lst pa_nil) pa_nil)))) <|
      pss_cons (ps_for PassesOwn.never rfl (pi_list (pv 0)) (pg_tup (by rfl) (pgs_cons (pg_name (i := 2) sc_wh.nd rfl (.inl rfl)) (pgs_cons (pg_name (i := 3) sc_wh.nd rfl (.inl rfl)) pgs_nil)))
        (pss_one (ps_set (i := 1) sc_wh.nd rfl (.inl rfl) (pe_cal Cg hr rfl pass0 (pa_cons (pv 1) (pa_cons (pv 3) pa_nil)))))) <|
      pss_one (ps_ret (pv 1)), ?_⟩
    refine ⟨by show 1 ≤ sizeLine; have := two_le; omega, fun l1 n1 => ⟨Nat.zero_le _, fun l2 n2 => ⟨two_le, fun t nt => ?_⟩⟩⟩
    have s1 := same_new (o := .lst [V.ref al]) n1
    have s2 := same_new (o := .lst []) n2
    have s3 := same_new (o := .tup [V.ref l1, V.ref l2]) nt
    have s0 := (s1.trans s2).trans s3
    have len : (ps.map V.ref).length = rs.length := by rw [List.length_map, eps.len]
    refine ⟨_, rfl, a, rfl, ⟨_, s0.seq hps⟩, for_list (xs := ps.map V.ref) (fun i σ H' => ∃ (p : Addr) (x2 x3 : Option V), σ = [some (.ref a), some (.ref p), x2, x3] ∧ Same H H' ∧ WhAt K H' p (wh ((ars rs).take i)))
      ⟨t, none, none, rfl, s0, l1, l2, tup_new, ⟨[al], .of (s3 _ _ (s2 _ _ upd_same)), hll _, trivial⟩, ⟨[], .of (s3 _ _ upd_same), trivial⟩⟩ ?_ ?_ ?_⟩
    · rintro i σ H' hi ⟨p, x2, x3, rfl, sm', _⟩
      exact sm'.seq hps
    · rintro i x σ H' hx ⟨p, x2, x3, rfl, s', hw⟩
      have hi : i < rs.length := by
        have := (List.getElem?_eq_some_iff.mp hx).1
        omega
      obtain ⟨q, iq, hq⟩ := eps.get (List.getElem?_eq_getElem hi)
      rw [map_at iq] at hx
      cases hx
      obtain ⟨c, tc, zc⟩ := hq.same s'
      have hz : (ars rs)[i]? = some (rs[i]).2 := by rw [List.getElem?_map, List.getElem?_eq_getElem hi]; rfl
      have hm : (rs[i]).2 ∈ ars rs := List.mem_of_getElem? hz
      generalize (rs[i]).2 = z at tc zc hz hm
      have hT := hB.sub (ys := (ars rs).take i) fun y hy => List.mem_of_mem_take hy
      have hlt : ((ars rs).take i).length ≤ 7 := by rw [List.length_take]; omega
      have hle : ((ars rs).take i).length * (l + 5) ≤ 7 * (l + 5) := Nat.mul_le_mul_right _ hlt
      have bx : ∀ y, y ∈ (wh ((ars rs).take i)).1 ∨ y ∈ (wh ((ars rs).take i)).2 → Ba (8 * (l + 5) + 1) y := fun y hy => (hT.wh hy).mono (by omega)
      have wl := wh_len ((ars rs).take i)
      refine ⟨_, _, rfl, tc, rfl, _, _, rfl, _, _, rfl, rfl, ?_⟩
      refine ⟨_, rfl, _, rfl, _, _, _, _, 8 * (l + 5) + 1, rfl, hw, zc, by omega, by omega, fun y hy => bx y (.inl hy), fun y hy => bx y (.inr hy), (hB.ba hm).mono (by omega), hn, fun H2 p2 s2' h2 => ?_⟩
      refine ⟨p2, _, _, rfl, s'.trans s2', ?_⟩
      rw [List.take_succ, hz]
      show WhAt K H2 p2 (wh ((ars rs).take i ++ [z]))
      rw [wh_snoc]
      exact h2
    · rintro σ H' ⟨p, x2, x3, rfl, s', hw⟩
      rw [len, List.take_of_length_le (by rw [List.length_map]; omega)] at hw
      exact ⟨_, rfl, k H' p s' hw⟩
theorem sc_rest : FnScope ["row", "heavy", "found", "worth", "at", "one"] ["row", "heavy"] (defScope srest_by) := ⟨rfl, rfl, rfl, by decide +kernel, rfl, by decide +kernel, by decide +kernel⟩
theorem ok_rest (F : FnP K "rest_by" srest_by f fd) (T : Cons K mg) (A : Arith P w K mg base) (R : Arrs P w K mg base) (gE : mg "enumerate" = none) : FnOk P w K mg base CX0 44 f fd ["row", "heavy"] (spRest K) := by
  refine F.ok sc_rest (fun vs H Q E h => ?_) (fun cdv A' outer s H vs Q E hr h => ?_)
  · obtain ⟨a, b, zs, wv, n, v, rfl, _⟩ := h
    rfl
  · obtain ⟨a, b, zs, wv, n, v, rfl, hzs, hw, h9, hb, bw, hn, k⟩ := h
    obtain ⟨ao, go, hoo⟩ := T.origin
    obtain ⟨a1, g1, h11⟩ := T.one
    obtain ⟨az, gz, hzz⟩ := T.zero
    obtain ⟨ps, hps, eps⟩ := id hzs
    have hrA : Room 42 _ := hr.mono (by decide)
    refine ⟨_, PSs.nox <| pss_cons (ps_set (i := 2) sc_rest.nd rfl (.inl rfl) (pe_lst (pa_cons (pe_glob (v := .ref ao) rfl go rfl) (pa_cons (pe_glob (v := .ref ao) rfl go rfl) pa_nil)))) <|
      pss_cons (ps_set (i := 3) sc_rest.nd rfl (.inl rfl) (pe_glob (v := .ref a1) rfl g1 rfl)) <|
      pss_cons (ps_for PassesOwn.never rfl (pi_enum (by rfl) gE (pa_cons (pv 0) pa_nil)) (pg_tup (by rfl) (pgs_cons (pg_name (i := 4) sc_rest.nd rfl (.inl rfl)) (pgs_cons (pg_name (i := 5) sc_rest.nd rfl (.inl rfl)) pgs_nil)))
        (pss_cons (ps_asg (pe_cal R.summed hr rfl pass0 (pa_cons (pe_ix ix_list (pv 2) (pe_op op_mod (pv 4) pe_int) (fun _ _ => rfl)) (pa_cons (pe_cal R.often hr rfl pass0 (pa_cons (pv 5) (pa_cons (pv 3) pa_nil))) pa_nil)))
          (pg_sub (pv 2) (pe_op op_mod (pv 4) pe_int) set_list)) <|
        pss_one (ps_if (pt_cmpR op_eq (pe_op op_mod (pv 4) pe_int) pe_int (nomark _)) (pss_one (ps_set (i := 3) sc_rest.nd rfl (.inl rfl) (pe_cal A.less hrA rfl pass0 (pa_cons (pe_glob (v := .ref az) rfl gz rfl) (pa_cons (pe_cal A.times hrA rfl pass0 (pa_cons (pv 3) (pa_cons (pv 1) pa_nil))) pa_nil))))) pss_nil))) <|
      pss_one (ps_ret (pv 2)), ?_⟩
    have len : (ps.map V.ref).length = zs.length := by rw [List.length_map, eps.len]
    refine ⟨two_le, fun D nD => ?_⟩
    have sD := same_new (o := .lst [V.ref ao, V.ref ao]) nD
    refine ⟨_, rfl, a, _, rfl, sD.seq hps, for_it (walk_enum (xs := ps.map V.ref)) (fun i σ H' => ∃ (q0 q1 pu : Addr) (f0 f1 : Ar) (u : Rat) (x4 x5 : Option V) (e : Nat), σ = [some (.ref a), some (.ref b), some (.ref D), some (.ref pu), x4, x5] ∧ Same H H' ∧
        H' D = some (.lst [.ref q0, .ref q1]) ∧ ArAt K H' q0 f0 ∧ ArAt K H' q1 f1 ∧ PartAt K H' pu u ∧ ((i = 2 * e ∧ rbE wv zs i f0 f1 u ∧ RbB v (n + 4 * v + 3) e e e f0 f1 u) ∨ (i = 2 * e + 1 ∧ rbO wv zs i f0 f1 u ∧ RbB v (n + 4 * v + 3) (e + 1) e e f0 f1 u)))
      ⟨ao, ao, a1, aZ, aZ, 1, none, none, 0, rfl, sD, upd_same, hoo _, hoo _, h11 _, .inl ⟨rfl, rb_start _ _, RbB.start _ _⟩⟩ ?_ ?_ ?_⟩
    · rintro i σ H' hi ⟨q0, q1, pu, f0, f1, u, x4, x5, e, rfl, s', _⟩
      exact s'.seq hps
    · rintro i xx σ H' H'' hi ⟨q0, q1, pu, f0, f1, u, x4, x5, e, rfl, s', hD, h0, h1, hu, hc⟩ ⟨t, y1, y2, rfl, nt, rfl, e1, e2⟩
      rw [len] at hi
      cases e1
      obtain ⟨q, iq, hq⟩ := eps.get (List.getElem?_eq_getElem hi)
      have e3 : some (V.ref q) = some y2 := (map_at iq).symm.trans e2
      cases e3
      have hz : zs[i]? = some zs[i] := List.getElem?_eq_getElem hi
      have bz := hb _ (List.getElem_mem hi)
      generalize zs[i] = z at hq hz bz
      have st := same_new (o := .tup [V.int (i : Nat), V.ref q]) nt
      have e4 : e ≤ 4 := by omega
      have q4 : e * v ≤ 4 * v := Nat.mul_le_mul_right v e4
      have t4 : e * (n + 4 * v + 3) ≤ 4 * (n + 4 * v + 3) := Nat.mul_le_mul_right _ e4
      have t5 : (e + 1) * (n + 4 * v + 3) = e * (n + 4 * v + 3) + (n + 4 * v + 3) := Nat.succ_mul ..
      have bu : Bt (e * v + 1) u := by rcases hc with ⟨_, _, c⟩ | ⟨_, _, c⟩ <;> exact c.u
      have hq2 : ArAt K (upd H' t (.tup [V.int (i : Nat), V.ref q])) q z := hq.same (s'.trans st)
      have hu2 := hu.same st
      refine ⟨_, _, rfl, tup_new, rfl, _, _, rfl, _, _, rfl, rfl, ?_⟩
      rcases hc with ⟨ei, hE, hB⟩ | ⟨ei, hO, hB⟩
      · have em : ((i : Nat) : Int) % 2 = 0 := by omega
        have i0 : atI [V.ref q0, V.ref q1] (((i : Nat) : Int) % 2) = some (V.ref q0) := by rw [em]; exact at0
        refine ⟨_, rfl, _, rfl, _, _, rfl, rfl, (show (0 : Int) < 2 by decide), _, _, _, _, rfl, rfl, .of (st _ _ hD), i0, ?_⟩
        refine ⟨_, rfl, _, rfl, _, _, _, _, _, _, rfl, hq2, hu2, bz, bu, by omega, by omega, fun H2 p2 s2 h2 => ?_⟩
        refine ⟨_, _, _, _, rfl, h0.same (st.trans s2), h2, ⟨5 * (n + 4 * v + 3) + 1, hB.f0.mono (by omega), (bz.ot bu).mono (by omega), by show 5 * (n + 4 * v + 3) + 1 ≤ LIM; omega⟩, fun H3 p3 s3 h3 => ?_⟩
        have sA := (st.trans s2).trans s3
        have hD3 := sA _ _ hD
        refine ⟨_, rfl, _, rfl, _, _, rfl, rfl, (show (0 : Int) < 2 by decide), _, _, _, 0, rfl, rfl, hD3, by rw [em]; rfl, ?_⟩
        refine ⟨_, rfl, _, _, rfl, rfl, (show (0 : Int) < 2 by decide), rfl, _, rfl, ?_⟩
        refine ite2 (fun c => ?_) (fun _ => ?_)
        · have c' : decide (V.int (((i : Nat) : Int) % 2) = V.int 1) = true := c
          rw [em] at c'
          exact absurd c' (by decide)
        · exact ⟨p3, q1, pu, _, f1, u, _, _, e, rfl, same_put (s'.trans sA) nD, upd_same, (stA K).put h3 hD3, (stA K).put (h1.same sA) hD3, (stP K).put (hu.same sA) hD3, .inr ⟨by omega, rb_even hE hz, hB.even bz (Nat.le_refl _) e4⟩⟩
      · have em : ((i : Nat) : Int) % 2 = 1 := by omega
        have i1 : atI [V.ref q0, V.ref q1] (((i : Nat) : Int) % 2) = some (V.ref q1) := by rw [em]; exact at1
        refine ⟨_, rfl, _, rfl, _, _, rfl, rfl, (show (0 : Int) < 2 by decide), _, _, _, _, rfl, rfl, .of (st _ _ hD), i1, ?_⟩
        refine ⟨_, rfl, _, rfl, _, _, _, _, _, _, rfl, hq2, hu2, bz, bu, by omega, by omega, fun H2 p2 s2 h2 => ?_⟩
        refine ⟨_, _, _, _, rfl, h1.same (st.trans s2), h2, ⟨5 * (n + 4 * v + 3) + 1, hB.f1.mono (by omega), (bz.ot bu).mono (by omega), by show 5 * (n + 4 * v + 3) + 1 ≤ LIM; omega⟩, fun H3 p3 s3 h3 => ?_⟩
        have sA := (st.trans s2).trans s3
        have hD3 := sA _ _ hD
        refine ⟨_, rfl, _, rfl, _, _, rfl, rfl, (show (0 : Int) < 2 by decide), _, _, _, 1, rfl, rfl, hD3, by rw [em]; rfl, ?_⟩
        refine ⟨_, rfl, _, _, rfl, rfl, (show (0 : Int) < 2 by decide), rfl, _, rfl, ?_⟩
        have hu3 := (stP K).put (o := .lst [V.ref q0, V.ref p3]) (hu.same sA) hD3
        have sB := same_put (o := .lst [V.ref q0, V.ref p3]) (s'.trans sA) nD
        refine ite2 (fun _ => ?_) (fun c => ?_)
        · refine ⟨_, rfl, _, rfl, _, _, _, _, rfl, hu3, hw.same sB, bu.sz (by omega), bw.sz (by omega), trivial, fun H4 p4 s4 h4 => ?_⟩
          refine ⟨_, _, _, _, rfl, hzz _, h4, Bt.zero.sz (by omega), (bu.mul bw).sz (by omega), trivial, fun H5 p5 s5 h5 => ?_⟩
          have s45 := s4.trans s5
          exact ⟨q0, p3, p5, f0, _, _, _, _, e + 1, rfl, sB.trans s45, s45 _ _ upd_same, ((stA K).put (h0.same sA) hD3).same s45, ((stA K).put h3 hD3).same s45, h5, .inl ⟨by omega, rb_odd hO hz, hB.odd bz bw (Nat.le_refl _) e4⟩⟩
        · have c' : ¬ decide (V.int (((i : Nat) : Int) % 2) = V.int 1) = true := c
          rw [em] at c'
          exact absurd (by decide) c'
    · rintro σ H' ⟨q0, q1, pu, f0, f1, u, x4, x5, e, rfl, s', hD, h0, h1, hu, hc⟩
      rw [len] at hc
      have ef : (f0, f1) = rs wv zs := by
        rcases hc with ⟨_, c, _⟩ | ⟨_, c, _⟩
        · exact rb_doneE c
        · exact rb_doneO c
      rw [← (congrArg Prod.fst ef : f0 = _)] at k
      rw [← (congrArg Prod.snd ef : f1 = _)] at k
      exact ⟨_, rfl, k H' D q0 q1 s' hD h0 h1⟩
theorem sc_isf : FnScope ["told", "heavy", "p", "q"] ["told", "heavy"] (defScope sis_folded) := ⟨rfl, rfl, rfl, by decide +kernel, rfl, by decide +kernel, by decide +kernel⟩
theorem ok_isf (F : FnP K "is_folded" sis_folded f fd) (T : Cons K mg) (Cr : Cal P w K mg base CX0 "rest_by" 44 ["row", "heavy"] (spRest K)) : FnOk P w K mg base CX0 45 f fd ["told", "heavy"] (spIsF K) := by
  refine F.ok sc_isf (fun vs H Q E h => ?_) (fun cdv A' outer s H vs Q E hr h => ?_)
  · obtain ⟨a, b, x, wv, n, v, rfl, _⟩ := h
    rfl
  · obtain ⟨a, b, x, wv, n, v, rfl, ⟨l, m, hx, hl, hm⟩, hw, l1, l2, hb, bw, hn, k⟩ := h
    obtain ⟨ao, go, hoo⟩ := T.origin
    refine ⟨_, PSs.nox <| pss_cons (ps_asg (pv 0) (pg_tup (by rfl) (pgs_cons (pg_name (i := 2) sc_isf.nd rfl (.inl rfl)) (pgs_cons (pg_name (i := 3) sc_isf.nd rfl (.inl rfl)) pgs_nil)))) <|
      pss_one (ps_ret (pe_cmpR (op_eqD hr.units) (pe_op op_cat (pe_cal Cr hr rfl pass0 (pa_cons (pv 2) (pa_cons (pv 1) pa_nil))) (pe_cal Cr hr rfl pass0 (pa_cons (pv 3) (pa_cons (pv 1) pa_nil))))
        (pe_op op_rep (pe_lst (pa_cons (pe_glob (v := .ref ao) rfl go rfl) pa_nil)) pe_int) (nomark _))), ?_⟩
    refine ⟨_, rfl, _, _, rfl, hx, rfl, _, _, rfl, _, _, rfl, rfl, ?_⟩
    refine ⟨_, rfl, _, rfl, _, _, _, _, _, _, rfl, hl, hw, l1, fun z hz => hb z (.inl hz), bw, hn, fun H1 p1 q0 q1 s1 d1 a0 a1 => ?_⟩
    refine ⟨_, rfl, _, rfl, _, _, _, _, _, _, rfl, hm.same (stA K) s1, hw.same s1, l2, fun z hz => hb z (.inr hz), bw, hn, fun H2 p2 r0 r1 s2 d2 b0 b1 => ?_⟩
    refine ⟨_, _, _, _, rfl, rfl, s2 _ _ d1, d2, by show 4 ≤ sizeLine; rw [sizeLine_eq]; decide, fun p3 n3 => ?_⟩
    refine ⟨by show 1 ≤ sizeLine; have := two_le; omega, fun p4 n4 => ?_⟩
    refine ⟨_, _, _, rfl, rfl, upd_same, by decide, by decide, by show 4 ≤ sizeLine; rw [sizeLine_eq]; decide, fun p5 n5 => ?_⟩
    have s3 := same_new (o := .lst [V.ref q0, V.ref q1, V.ref r0, V.ref r1]) n3
    have s4 := same_new (o := .lst [V.ref ao]) n4
    have s5 := same_new (o := .lst [V.ref ao, V.ref ao, V.ref ao, V.ref ao]) n5
    have t := (s3.trans s4).trans s5
    refine ⟨.list [dA (rs wv x.1).1, dA (rs wv x.1).2, dA (rs wv x.2).1, dA (rs wv x.2).2], .list [dA aZ, dA aZ, dA aZ, dA aZ],
      .lst (.of ((s4.trans s5) _ _ upd_same)) (.cons (a0.same (s2.trans t)).dp (.cons (a1.same (s2.trans t)).dp (.cons (b0.same t).dp (.cons (b1.same t).dp .nil)))),
      .lst (.of upd_same) (.cons (hoo _).dp (.cons (hoo _).dp (.cons (hoo _).dp (.cons (hoo _).dp .nil)))), rfl, rfl, ?_⟩
    refine k _ _ ((s1.trans s2).trans t) ?_
    simp only [PyData.eqv, PyData.eqvAll, Bool.and_true, eqv_dA, Bool.and_eq_true, decide_eq_true_eq]
    unfold isF
    generalize rs wv x.1 = y1
    generalize rs wv x.2 = y2
    obtain ⟨y11, y12⟩ := y1
    obtain ⟨y21, y22⟩ := y2
    simp only [Prod.mk.injEq]
    constructor
    · rintro ⟨h1, h2, h3, h4⟩
      exact ⟨⟨h1, h2⟩, h3, h4⟩
    · rintro ⟨⟨h1, h2⟩, h3, h4⟩
      exact ⟨h1, h2, h3, h4⟩
end
end CT

/-! W7: least_at, rising. -/
namespace CT
open PySem PySem.Spec PyProof.Rows L2
section
variable {P : Program} {w : World} {K : PySem.W.Frag} {mg : Str → Option Value} {base : Heap} {f : Addr} {fd : FuncData}
theorem sc_least : FnScope ["row", "found", "at", "one"] ["row"] (defScope sleast_at) := ⟨rfl, rfl, rfl, by decide +kernel, rfl, by decide +kernel, by decide +kernel⟩
theorem ok_least (F : FnP K "least_at" sleast_at f fd) (Cb : Cal P w K mg base CX0 "below" 1 two (spBelow K)) (gE : mg "enumerate" = none) : FnOk P w K mg base CX0 2 f fd ["row"] (spLeast K) := by
  refine F.ok sc_least (fun vs H Q E h => ?_) (fun cdv A' outer s H vs Q E hr h => ?_)
  · obtain ⟨a, ws, rfl, _⟩ := h
    rfl
  · obtain ⟨a, ws, rfl, hws, hp, hsz, k⟩ := h
    obtain ⟨ps, hps, eps⟩ := id hws
    refine ⟨_, PSs.nox <| pss_cons (ps_set (i := 1) sc_least.nd rfl (.inl rfl) pe_int) <|
      pss_cons (ps_for PassesOwn.never rfl (pi_enum (by rfl) gE (pa_cons (pv 0) pa_nil)) (pg_tup (by rfl) (pgs_cons (pg_name (i := 2) sc_least.nd rfl (.inl rfl)) (pgs_cons (pg_name (i := 3) sc_least.nd rfl (.inl rfl)) pgs_nil)))
        (pss_one (ps_if (pt_val (pe_cal Cb hr rfl pass0 (pa_cons (pv 3) (pa_cons (pe_ix ix_list (pv 0) (pv 1) (fun _ _ => rfl)) pa_nil)))) (pss_one (ps_set (i := 1) sc_least.nd rfl (.inl rfl) (pv 2))) pss_nil))) <|
      pss_one (ps_ret (pv 1)), ?_⟩
    have len : (ps.map V.ref).length = ws.length := by rw [List.length_map, eps.len]
    refine ⟨_, rfl, a, _, rfl, hps, for_it (walk_enum (xs := ps.map V.ref)) (fun i σ H' => ∃ (k : Nat) (x2 x3 : Option V), σ = [some (.ref a), some (.int (k : Int)), x2, x3] ∧ Same H H' ∧ laS ws i k)
      ⟨0, none, none, rfl, fun _ _ e => e, laS.zero hp⟩ ?_ ?_ ?_⟩
    · rintro i σ H' hi ⟨k, x2, x3, rfl, s', _⟩
      exact s'.seq hps
    · rintro i xx σ H' H'' hi ⟨c, x2, x3, rfl, s', hc⟩ ⟨t, y1, y2, rfl, nt, rfl, e1, e2⟩
      rw [len] at hi
      cases e1
      have hx : ws[i]? = some ws[i] := List.getElem?_eq_getElem hi
      have hy : ws[c]? = some (ws[c]'hc.1) := List.getElem?_eq_getElem hc.1
      obtain ⟨q, iq, hq⟩ := eps.get hx
      obtain ⟨r, ir, hr'⟩ := eps.get hy
      have e3 : some (V.ref q) = some y2 := (map_at iq).symm.trans e2
      cases e3
      have sx := hsz _ (List.getElem_mem hi)
      have sy := hsz _ (List.getElem_mem hc.1)
      have st := same_new (o := .tup [V.int (i : Nat), V.ref q]) nt
      have s2 := s'.trans st
      refine ⟨_, _, rfl, tup_new, rfl, _, _, rfl, _, _, rfl, rfl, ?_⟩
      refine ⟨_, rfl, _, rfl, _, rfl, _, _, _, _, rfl, rfl, s2.seq hps, atI_nat (map_at ir), ?_⟩
      refine ⟨_, _, _, _, rfl, hq.same s2, hr'.same s2, sx, sy, _, rfl, ?_⟩
      refine ite2 (fun d => ?_) (fun d => ?_)
      · exact ⟨_, rfl, i, _, _, rfl, s2, hc.new hx hy (of_decide_eq_true d)⟩
      · exact ⟨c, _, _, rfl, s2, hc.keep hx hy fun q => d (decide_eq_true q)⟩
    · rintro σ H' ⟨c, x2, x3, rfl, s', hc⟩
      rw [len] at hc
      exact ⟨_, rfl, k H' c s' hc⟩
theorem sc_ris : FnScope ["row", "left", "found"] ["row"] (defScope srising) := ⟨rfl, rfl, rfl, by decide +kernel, rfl, by decide +kernel, by decide +kernel⟩
theorem list_ne_nil {ws : List Rat} : (!PyData.eqv (.list (ws.map dP)) (.list [])) = true ↔ ws ≠ [] := by
  cases ws with
  | nil => simp [PyData.eqv, PyData.eqvAll]
  | cons a l => simp [PyData.eqv, PyData.eqvAll]
theorem eraseIdx_map {ps : List Addr} {k : Nat} : (ps.map V.ref).eraseIdx k = (ps.eraseIdx k).map V.ref := by
  induction ps generalizing k with
  | nil => rfl
  | cons a l ih => cases k with
    | zero => rfl
    | succ k => simp [ih]
theorem ok_ris (F : FnP K "rising" srising f fd) (Cl : Cal P w K mg base CX0 "least_at" 2 ["row"] (spLeast K)) (gL : mg "list" = none) : FnOk P w K mg base CX0 3 f fd ["row"] (spRis K) := by
  refine F.ok sc_ris (fun vs H Q E h => ?_) (fun cdv A' outer s H vs Q E hr h => ?_)
  · obtain ⟨a, ws, rfl, _⟩ := h
    rfl
  · obtain ⟨a, ws, rfl, hws, h100, hsz, k⟩ := h
    obtain ⟨ps, hps, eps⟩ := id hws
    refine ⟨_, PSs.nox <| pss_cons (ps_set (i := 1) sc_ris.nd rfl (.inl rfl) (pe_callTy call_list_of (by rfl) gL (by decide +kernel) (pa_cons (pv 0) pa_nil))) <|
      pss_cons (ps_set (i := 2) sc_ris.nd rfl (.inl rfl) (pe_lst pa_nil)) <|
      pss_cons (ps_while PassesOwn.never (pt_cmpR (op_neD hr.units) (pv 1) (pe_lst pa_nil) (nomark _))
        (pss_one (ps_expr (pe_bm PySem.F.plainAttrs_list PySem.F.slot_list_append PySem.F.type_list_append mt_append (pv 2) (pa_cons (pe_bm PySem.F.plainAttrs_list PySem.F.slot_list_pop PySem.F.type_list_pop mt_popAt (pv 1) (pa_cons (pe_cal Cl hr rfl pass0 (pa_cons (pv 1) pa_nil)) pa_nil)) pa_nil))))) <|
      pss_one (ps_ret (pv 2)), ?_⟩
    refine ⟨_, rfl, _, _, rfl, .inl hps, fun L nL => ?_⟩
    have sL := same_new (o := .lst (ps.map V.ref)) nL
    refine ⟨Nat.zero_le _, fun D nD => ?_⟩
    have sD := same_new (o := .lst []) nD
    have LD : L ≠ D := fun e => by
      rw [← e, upd_same] at nD
      cases nD
    refine while_by (fun σ H' => ∃ (left found : List Rat) (qs rs : List Addr), σ = [some (.ref a), some (.ref L), some (.ref D)] ∧ Same H H' ∧ H' L = some (.lst (qs.map V.ref)) ∧ Each (PartAt K H') qs left ∧ H' D = some (.lst (rs.map V.ref)) ∧ Each (PartAt K H') rs found ∧ Ris ws left found)
      (fun _ H' => match H' L with | some (.lst xs) => xs.length | _ => 0) ⟨ws, [], ps, [], rfl, sL.trans sD, sD _ _ upd_same, eps.imp fun _ _ q => q.same (sL.trans sD), upd_same, trivial, Ris.start ws⟩ ?_ ?_
    · rintro σ H' ⟨left, found, qs, rs, rfl, s', hL, eL, hD, eD, hR⟩
      have lenl := eL.len
      have lenf := eD.len
      have lw : found.length + left.length = ws.length := by rw [← List.length_append]; exact hR.perm.length_eq
      refine ⟨_, rfl, Nat.zero_le _, fun N nN => ?_⟩
      have sN := same_new (o := .lst []) nN
      refine ⟨_, _, .lst (.of (sN _ _ hL)) (dp_all (f := dP) (fun p x h => (PartAt.same h sN).dp) eL), .lst (.of upd_same) .nil, sh_pts _, rfl, _, rfl, ?_⟩
      refine ite2 (fun c => ?_) (fun c => ?_)
      · have ne := list_ne_nil.mp c
        have pos : 0 < left.length := List.length_pos_iff.mpr ne
        have LN := sN _ _ hL
        have DN := sN _ _ hD
        refine ⟨_, rfl, .inl ⟨rfl, _, .of DN⟩, _, rfl, .inl ⟨rfl, _, .of LN⟩, _, rfl, _, left, rfl, ⟨qs, .of LN, eL.imp fun _ _ q => q.same sN⟩, pos, fun q hq => hsz q (hR.perm.subset (List.mem_append_right _ hq)), fun H2 j s2 hj => ?_⟩
        obtain ⟨y, hy⟩ : ∃ y, left[j]? = some y := ⟨left[j]'hj.1, List.getElem?_eq_getElem hj.1⟩
        obtain ⟨q, iq, hq⟩ := eL.get hy
        have jl : j < left.length := hj.1
        refine ⟨L, _, (j : Int), j, _, rfl, rfl, s2 _ _ LN, by omega, by omega, ?_, map_at iq, ?_⟩
        · unfold seqIndex?
          have e1 : ¬ ((j : Int) < 0) := by omega
          have e2 : (0 : Int) ≤ (j : Int) := by omega
          have e3 : (j : Int) < (((qs.map V.ref).length : Nat) : Int) := by rw [List.length_map]; omega
          simp only [if_neg e1, decide_eq_true e2, decide_eq_true e3, Bool.and_self, if_true]
          rfl
        have L2' := s2 _ _ LN
        have D2 := s2 _ _ DN
        have D3 : (upd H2 L (.lst ((qs.map V.ref).eraseIdx j))) D = some (.lst (rs.map V.ref)) := by rw [upd_ne (fun e => LD e.symm)]; exact D2
        refine ⟨D, _, _, rfl, rfl, D3, ?_, ?_⟩
        · rw [List.length_map]
          exact small1000 (by omega)
        have e2 : Each (PartAt K H2) (qs.eraseIdx j) (left.eraseIdx j) := (eL.erase j).imp fun _ _ q => q.same (sN.trans s2)
        have e3 : Each (PartAt K H2) (rs ++ [q]) (found ++ [y]) := (eD.imp fun _ _ q => q.same (sN.trans s2)).app ⟨hq.same (sN.trans s2), trivial⟩
        refine ⟨⟨left.eraseIdx j, found ++ [y], qs.eraseIdx j, rs ++ [q], rfl, ?_, ?_, ?_, ?_, ?_, hR.step hj hy⟩, ?_⟩
        · refine same_put (same_put ((s'.trans sN).trans s2) nL) ?_
          cases hd : H D with
          | none => rfl
          | some o => rw [sL _ _ hd] at nD; cases nD
        · rw [upd_ne LD, upd_same, eraseIdx_map]
        · exact each_put (stP K) (each_put (stP K) e2 L2') D3
        · rw [upd_same, List.map_append]
          rfl
        · exact each_put (stP K) (each_put (stP K) e3 L2') D3
        · show (match upd (upd H2 L _) D _ L with | some (HO.lst xs) => xs.length | _ => 0) < (match H' L with | some (HO.lst xs) => xs.length | _ => 0)
          rw [upd_ne LD, upd_same, hL]
          show ((qs.map V.ref).eraseIdx j).length < (qs.map V.ref).length
          rw [List.length_eraseIdx, List.length_map, if_pos (by omega)]
          omega
      · have e : left = [] := Classical.not_not.mp fun z => c (list_ne_nil.mpr z)
        subst e
        exact ⟨_, rfl, k _ D found (s'.trans sN) ⟨rs, .of (sN _ _ hD), eD.imp fun _ _ q => q.same sN⟩ hR⟩
    · rintro σ H' Q1 Q2 hQ ⟨v, e, hz, hk⟩
      refine ⟨v, e, hz, fun N nN => ?_⟩
      obtain ⟨d, e, d1, d2, s1, s2, b, eb, q⟩ := hk N nN
      exact ⟨d, e, d1, d2, s1, s2, b, eb, hQ _ _ q⟩
end
end CT

/-! S1: {e for x in xs}, e a tuple of whole numbers. -/
namespace CT
open PySem PySem.Spec PyProof.Rows L2
/-! ### set.add -/
theorem tset_add {P : Program} {w : World} {A : Around} {E : Value → Shared → Prop} {s : Shared} {a x : Addr} {L : List (Addr × List Int)} {es : Array (Int × Value)} {ep : Nat} {t : SetTable} {k : List Int} {Q : Value → Shared → Prop}
    (R : SetTR P w s.heap a L es ep t) (hx : IsT P w s.heap k x) (hu : A.units + 64 < cLine) (few : L.length + 1 < 64)
    (h : ∀ h' L' tk, Heap.SameBut a s.heap h' → SetT0 P w h' a L' → (k ∈ L.map (·.2) → L' = L) → (k ∉ L.map (·.2) → L'.Perm ((x, k) :: L)) → Q .none { s with heap := h', toks := tk }) :
    wpAny (model P w) A (call (.builtin "set.add") [.ref a, .ref x]) Q E s := by
  have ty : s.TypeIs (.ref a) "set" := by
    obtain ⟨o, ho, hex, _⟩ := R.ob
    exact ⟨o, ho, hex.1⟩
  refine wpAny_call_entry F.slot_set_add ty F.entry_set_add ?_ (F.args_set_add_2 _ _)
  unfold Builtin.«set.add» Builtin.Frozenset.oneOther Builtin.Frozenset.addrOf setAdd
  simp only [List.isEmpty_nil, bind_assoc]
  refine wpAny_bind (wpAny_pure ?_)
  refine wpAny_bind (wpAny_pure ?_)
  have hu' : A.in1.units < cLine := by
    unfold Around.in1
    simp
    omega
  refine wpAny_bind (wpAny_holding (wpAny_bind (wpAny_pyHash_tuple hu' hx ?_)))
  refine add_at (s := { s with toks := s.toks + (k.length + 1) }) R hx hu' few fun b h' L' es' ep' t' sb R' c1 c2 => ?_
  exact wpAny_pure ⟨_, rfl, h h' L' _ sb R'.t0 c1 c2⟩
/-! ### the block -/
/-- a new set of nothing -/
abbrev zset (w : World) : Obj := { cls := .type "set", data := .set #[] 0 (.fresh 0 0 (!w.params.followText "set-order")), dict := none }
section
variable {X : Cx}
/-- {e for x in it}: the set begins as O D; Rd: e's value y may come in, N is to be reached -/
def tSt (O : Addr → HO) (Rd : Addr → Hp → V → (Hp → Prop) → Prop) (wi : TI) (g : TG) (te : TE) (vs : List Nat) : TE := fun σ H Q => wi σ H fun J H1 => ∀ D, H1 D = none →
  ∃ W : Nat → Nat → Hp → Prop, (∃ m, W 0 m (upd H1 D (O D))) ∧ ∀ i m H, W i m H → (J.stop i H ∧ Q (.ref D) H) ∨
    (J.go i H ∧ ∃ N : Hp → Prop, (∀ H', N H' → ∃ m', m' < m ∧ W (i + 1) m' H') ∧ ∀ x H', J.yld i H x H' → g x (wipe σ vs) H' fun σ2 H2 => wipe σ2 vs = wipe σ vs ∧ te σ2 H2 fun y H4 => Rd D H4 y N)
/-- what set.add does to such a set -/
def Adds (P : Program) (w : World) (K : PySem.W.Frag) (A : Around) (Rd : Addr → Hp → V → (Hp → Prop) → Prop) : Prop :=
  ∀ (Y : Cx), Y.prog = P → Y.w = w → Y.K = K → Y.A = A → ∀ (pn : List (Addr × Obj)) (s : Shared) (σ : L2.St) (H : Hp) (D : Addr) (y : V) (v : Value) (N : Hp → Prop) (Q : Value → Shared → Prop) (E : Value → Shared → Prop),
    Inv Y pn σ H s → RelV y v → Rd D H y N → (∀ s' H', Inv Y pn σ H' s' → N H' → Q .none s') → wpAny (model P w) A (call (.builtin "set.add") [.ref D, v]) Q E s
theorem pe_st {elt tg iter : Expr} {scope : Scope} {own : List (PySem.Str × Nat)} {pos : Pos} {wi : TI} {g : TG} {te : TE} {O : Addr → HO} {Rd : Addr → Hp → V → (Hp → Prop) → Prop} (calm : X.calm = true) (nd : X.N.Nodup) (walk : PI X tg iter wi) (blk : BlkOk X.N X.env.scope scope own)
    (pg : ∀ (s : Shared) (H : Hp) (C : Addr) (cl : List (PySem.Str × Addr)) (fp : List Addr), PG (X.blk s H scope (compEnvC scope cl C X.env) fp) tg g)
    (pe : ∀ (s : Shared) (H : Hp) (C : Addr) (cl : List (PySem.Str × Addr)) (fp : List Addr), PE (X.blk s H scope (compEnvC scope cl C X.env) fp) elt te)
    (new : ∀ (H : Hp) (h : Heap), h.get? h.objs.size = none → ObjOk X.prog X.w (upd H h.objs.size (O h.objs.size)) (h.push (zset X.w)) h.objs.size (O h.objs.size)) (adds : Adds X.prog X.w X.K X.A Rd) (fold : ∀ x, foldedSetIterable iter X.env x = pure x := by intro _; rfl) :
    PE X (.SetComp elt [⟨tg, iter, [], 0⟩] scope pos) (tSt O Rd wi g te (own.map (·.2))) := by
  refine ⟨fun pn s σ H Q I want => ?_⟩
  rw [PpSet.eval_SetComp]
  have caught : ∀ y ∈ scope.names, y.2 = .free → ∃ c, X.env.cells.lookup y.1 = some c := fun y hy e => (blk.free y hy e).elim (fun k => I.ok.has _ (.inl k)) (fun k => I.ok.has _ (.inr k))
  refine wpAny_comprehension_free (use := none) rfl fold (closure_ok caught) blk.kind (fun y hy e => by rw [blk.uniq y hy, e]) (thn (walk.run pn s σ H _ I want) fun _ s1 k1 => thn k1 fun _ s2 ⟨it, fp, tn, J, H2, eit, I2, T, st2, f2, q⟩ => ?_)
  subst eit
  refine PpSet.newSet_ok (newEnv_comp ?_)
  obtain ⟨D, eD⟩ : ∃ D, s2.heap.objs.size = D := ⟨_, rfl⟩
  have freeD : H2 D = none := I2.hok.fresh (Nat.le_of_eq eD)
  obtain ⟨W, ⟨m0, w0⟩, turn⟩ := q D freeD
  obtain ⟨s3, e3⟩ : ∃ s3 : Shared, s3 = { s2 with heap := s2.heap.push (zset X.w) } := ⟨_, rfl⟩
  obtain ⟨H3, eH⟩ : ∃ H3, upd H2 D (O D) = H3 := ⟨_, rfl⟩
  have I3 : Inv X pn σ H3 s3 := by
    rw [e3, ← eH]
    refine I2.laid (t' := s2.toks) (fun b o e => Heap.get?_push_of_some _ e) (Nat.le_of_eq eD) ?_
    have z := new H2 s2.heap (by
      cases c : s2.heap.get? s2.heap.objs.size with
      | none => rfl
      | some o => exact absurd (Heap.lt_size c) (Nat.lt_irrefl _))
    rw [eD] at z
    exact z
  have hp3 : s3.heap = s2.heap.push (zset X.w) := by rw [e3]
  have young : ∀ b ∈ fp, b < s2.heap.objs.size := fun b hb => (T.obj _ _ st2 b hb).elim fun o e => Heap.lt_size e.1
  have f3 : ∀ b ∈ fp, FpOk X pn H3 b ∧ b < s3.heap.objs.size := fun b hb => by
    have lt := young b hb
    refine ⟨⟨?_, (f2 b hb).2⟩, ?_⟩
    · rw [← eH, upd_ne (Nat.ne_of_lt (eD ▸ lt))]
      exact (f2 b hb).1
    · rw [hp3, Heap.size_push]
      exact Nat.lt_succ_of_lt lt
  have st3 : tn 0 s3.heap := T.keep _ _ _ st2 fun b _ o e => by rw [hp3]; exact Heap.get?_push_of_some _ e
  have I4 := block_start I3 blk nd f3
  obtain ⟨cl, ecl⟩ : ∃ cl, cellsFrom (s3.heap.objs.size + 1) scope.names (cloFrom X.env.cells scope.names []) = cl := ⟨_, rfl⟩
  rw [ecl] at I4
  have pg' := pg s3 H3 s3.heap.objs.size cl fp
  have pe' := pe s3 H3 s3.heap.objs.size cl fp
  have shown : codeAny (model X.prog X.w) X.A (.compStart (.SetComp elt [⟨tg, iter, [], 0⟩] scope pos) 0 (.ref it) (.ref D) (compEnvC scope cl s3.heap.objs.size X.env)) (compPost (model X.prog X.w) X.A X.xe none (fun v s' => ∃ x H', Inv X pn σ H' s' ∧ RelV x v ∧ Q x H') (.ref D) s3.heap.objs.size) { s3 with heap := pushCells (s3.heap.push { cls := .type "dict", data := .dict #[] }) scope.names } := by
    have lc : (compEnvC scope cl s3.heap.objs.size X.env).locals = s3.heap.objs.size := rfl
    revert I4 pg' pe' lc
    generalize compEnvC scope cl s3.heap.objs.size X.env = ce
    intro I4 pg' pe' lc
    obtain ⟨s4, e4⟩ : ∃ s4 : Shared, ({ s3 with heap := pushCells (s3.heap.push { cls := .type "dict", data := .dict #[] }) scope.names } : Shared) = s4 := ⟨_, rfl⟩
    rw [e4] at I4 ⊢
    have st4 : tn 0 s4.heap := T.keep _ _ _ st3 fun b _ o e => by rw [← e4]; exact pushCells_keeps _ _ _ _ (Heap.get?_push_of_some _ e)
    have still : ∀ {σ' : L2.St} {H' : Hp} {s' : Shared}, Inv (X.blk s3 H3 scope ce fp) [] σ' H' s' → (∀ b ∈ fp, H' b = none) → ∀ b ∈ fp, FpOk (X.blk s3 H3 scope ce fp) [] H' b := fun {σ' H' s'} J' no b hb =>
      ⟨no b hb, (J'.ok.exf b hb).1, J'.ok.exfs b hb, Or.inl hb, fun x c e => (J'.ok.exf b hb).2 x c e, fun p hp => nomatch (show p ∈ ([] : List (Addr × Obj)) ++ [] from hp)⟩
    have loop : codeAny (model X.prog X.w) X.A (.compLoop (.SetComp elt [⟨tg, iter, [], 0⟩] scope pos) 0 (.ref it) (.ref D) ce) (compPost (model X.prog X.w) X.A X.xe none (fun v s' => ∃ x H', Inv X pn σ H' s' ∧ RelV x v ∧ Q x H') (.ref D) s3.heap.objs.size) s4 := by
      refine PpSet.compLoopS_any (fun n s' => ∃ i H', Inv (X.blk s3 H3 scope ce fp) [] (wipe σ (own.map (·.2))) H' s' ∧ tn i s'.heap ∧ (∀ b ∈ fp, H' b = none) ∧ W i n H') ?_ m0 ⟨0, H3, I4, st4, fun b hb => (f3 b hb).1.1, by rw [← eH]; exact w0⟩
      rintro n s5 ⟨i, H5, I5, st5, no5, w5⟩
      rcases turn i n H5 w5 with ⟨stop, out⟩ | ⟨go, N, reach, step⟩
      · -- the walk's end
        refine thnF (T.done (X.blk s3 H3 scope ce fp) rfl rfl rfl calm i [] s5 _ H5 (fun _ _ => False) I5 (still I5 no5) st5 stop) fun r s6 ⟨er, I6⟩ => ?_
        subst er
        have I7 : Inv X pn σ H5 s6 := I3.call' (ch := fp) I6.os I6.base I6.hok I6.bare fun b hb => (f3 b hb).1.2.elim fun a1 a2 => ⟨a2.2.1, a1, a2.2.2.1, a2.2.2.2⟩
        obtain ⟨m, hn, _⟩ := I6.loc
        have hn' : s6.heap.Ns s3.heap.objs.size m := lc ▸ (show s6.heap.Ns ce.locals m from hn)
        have f0 : H5 s3.heap.objs.size = none := lc ▸ (show H5 ce.locals = none from I6.free)
        obtain ⟨g0, g1, g2, g3, g4, g5⟩ := I3.fpOk (Nat.le_refl _) f0
        exact ⟨m, hn', fun h'' sb => ⟨.ref D, H5, I7.turned (t' := s6.toks) (fun b o hb e => (sb.2 b hb).trans e) g0 g1 g3 g4 g5, rfl, out⟩⟩
      · -- one turn
        refine thnF (T.item (X.blk s3 H3 scope ce fp) rfl rfl rfl calm i [] s5 _ H5 (fun _ _ => False) I5 (still I5 no5) st5 go) fun r s6 ⟨u, er, k6⟩ => ?_
        subst er
        refine thnF k6 fun _ s7 ⟨x, H7, I7, r7, y7, st7, no7⟩ => ?_
        refine thnF (pg'.run _ s7 _ H7 x u _ (I7.pinned (still I7 no7) (T.obj _ _ st7)) r7 (step x H7 y7)) fun _ s8 ⟨σ8, H8, I8, same8, q8⟩ => ?_
        refine wpAny_pure ?_
        rw [if_pos rfl]
        refine thnF (pe'.run _ s8 σ8 H8 _ I8 q8) fun z s10 ⟨yv, H10, I10, r10, rd⟩ => ?_
        refine adds (X.blk s3 H3 scope ce fp) rfl rfl rfl rfl _ s10 σ8 H10 D yv z N _ _ I10 r10 rd fun s' H' I' nx => ?_
        obtain ⟨m', lt, w'⟩ := reach H' nx
        have pinned : ∀ b ∈ fp, ∀ o, s7.heap.get? b = some o → s'.heap.get? b = some o ∧ H' b = none := fun b hb o e =>
          (I'.pin (b, o) (List.mem_append_right _ (List.mem_append_right _ (mem_pinsAt hb e)))).elim fun a1 a2 => ⟨a1, a2.1⟩
        refine ⟨m', lt, i + 1, H', Inv.weak (Inv.unpinned (pins := []) I') ?_ ?_, T.keep _ _ _ st7 fun b hb o e => (pinned b hb o e).1, fun b hb => (T.obj _ _ st7 b hb).elim fun o e => (pinned b hb o e.1).2, w'⟩
        · rw [← same8, wipe_length]
        · intro j v e
          rw [← same8] at e
          exact (wipe_some e).1
    exact PpSet.codeAny_compStart_set loop (T.self X.A 0 _ _ _ st4 loop)
  rw [← ecl, e3] at shown
  rw [← eD] at shown
  exact shown
end
end CT

/-! W8: the set of weights, folds_of. -/
namespace CT
open PySem PySem.Spec PyProof.Rows L2
/-! ### sets of parts -/
def pk (q : Rat) : List Int := [q.num, (q.den : Int)]
theorem pk_inj {q r : Rat} (h : pk q = pk r) : q = r := by
  unfold pk at h
  simp only [List.cons.injEq, and_true] at h
  exact Rat.ext h.1 (by omega)
def rdT (P : Program) (w : World) (K : PySem.W.Frag) : Addr → Hp → V → (Hp → Prop) → Prop := fun D H y N => ∃ (c : Addr) (k : List Int) (L : List (Addr × List Int)), y = .ref c ∧ H D = some (SetTO P w D L) ∧ SqT K H c (k.map V.int) ∧ (∀ p ∈ L, SqT K H p.1 (p.2.map V.int)) ∧ L.length + 1 < 64 ∧
  ∀ L', (k ∈ L.map (·.2) → L' = L) → (k ∉ L.map (·.2) → L'.Perm ((c, k) :: L)) → N (upd H D (SetTO P w D L'))
theorem addsT {P : Program} {w : World} {K : PySem.W.Frag} {A : Around} (hu : A.units + 64 < cLine) : Adds P w K A (rdT P w K) := by
  rintro Y rfl rfl rfl rfl pn s σ H D y v N Q E I r ⟨c, k, L, rfl, hD, hc, hL, few, n⟩ q
  cases r
  obtain ⟨es, ep, t, R⟩ := SetT0.full (show SetT0 Y.prog Y.w s.heap D L from (I.hok D _ hD).1) fun p hp => I.isT (hL p hp)
  refine tset_add R (I.isT hc) hu few fun h' L' tk sb R' c1 c2 => q _ _ (I.write (e := D) (t' := tk) (by rw [hD]; trivial) (.inl rfl) (fun b u hb hu => (sb.2 b hb).trans hu) ?_ (setTO_new R')) (n L' c1 c2)
  obtain ⟨_, _, _, ⟨o, ho, _⟩, _⟩ := R'.ex
  exact ⟨o, ho⟩
theorem newT {P : Program} {w : World} (H : Hp) (h : Heap) (_ : h.get? h.objs.size = none) : ObjOk P w (upd H h.objs.size (SetTO P w h.objs.size [])) (h.push (zset w)) h.objs.size (SetTO P w h.objs.size []) :=
  setTO_new (setTR_fresh (Heap.get?_push_size h rfl)).t0
/-- over a list that stays -/
theorem st_list {O : Addr → HO} {Rd : Addr → Hp → V → (Hp → Prop) → Prop} {K : PySem.W.Frag} {a : Addr} {xs : List V} {g : TG} {te : TE} {vs : List Nat} {σ : L2.St} {H1 : Hp} {D : Addr} {Qd : Hp → Prop} (Pv : Nat → Hp → Prop) (first : Pv 0 (upd H1 D (O D)))
    (stays : ∀ i H, i ≤ xs.length → Pv i H → SqL K H a xs) (turn : ∀ i x H, xs[i]? = some x → Pv i H → g x (wipe σ vs) H fun σ2 H2 => wipe σ2 vs = wipe σ vs ∧ te σ2 H2 fun y H4 => Rd D H4 y (Pv (i + 1))) (last : ∀ H, Pv xs.length H → Qd H) :
    ∃ W : Nat → Nat → Hp → Prop, (∃ m, W 0 m (upd H1 D (O D))) ∧ ∀ i m H, W i m H → ((Itl K a).stop i H ∧ Qd H) ∨
      ((Itl K a).go i H ∧ ∃ N : Hp → Prop, (∀ H', N H' → ∃ m', m' < m ∧ W (i + 1) m' H') ∧ ∀ x H', (Itl K a).yld i H x H' → g x (wipe σ vs) H' fun σ2 H2 => wipe σ2 vs = wipe σ vs ∧ te σ2 H2 fun y H4 => Rd D H4 y N) := by
  refine ⟨fun i m H => i + m = xs.length ∧ Pv i H, ⟨xs.length, Nat.zero_add _, first⟩, fun i m H ⟨e, p⟩ => ?_⟩
  have l := stays i H (by omega) p
  cases m with
  | zero =>
    have e' : i = xs.length := e
    subst e'
    exact .inl ⟨⟨xs, l, Nat.le_refl _⟩, last H p⟩
  | succ m =>
    have hi : i < xs.length := by omega
    refine .inr ⟨⟨xs, xs[i], l, List.getElem?_eq_getElem hi⟩, Pv (i + 1), fun H' p' => ⟨m, Nat.lt_succ_self m, by omega, p'⟩, fun x H' ⟨e1, y⟩ => ?_⟩
    subst e1
    exact turn i x _ (y xs l) p
theorem each_ks {K : PySem.W.Frag} {H : Hp} : ∀ {ps : List Addr} {ws : List Rat}, Each (PartAt K H) ps ws → ∃ ks : List (Addr × List Int), ks.map (fun p => V.ref p.1) = ps.map V.ref ∧ (∀ p ∈ ks, ∃ q ∈ ws, p.2 = pk q ∧ PartAt K H p.1 q) ∧ (∀ q ∈ ws, ∃ p ∈ ks, p.2 = pk q)
  | [], [], _ => ⟨[], rfl, (fun p h => by cases h), (fun q h => by cases h)⟩
  | p :: ps, q :: ws, h => by
    obtain ⟨ks, h1, h2, h3⟩ := each_ks h.2
    refine ⟨(p, pk q) :: ks, by rw [List.map_cons, List.map_cons, h1], fun x hx => ?_, fun r hr => ?_⟩
    · rcases List.mem_cons.mp hx with e | e
      · subst e
        exact ⟨q, List.mem_cons_self, rfl, h.1⟩
      · obtain ⟨r, m, z⟩ := h2 x e
        exact ⟨r, List.mem_cons_of_mem _ m, z⟩
    · rcases List.mem_cons.mp hr with e | e
      · subst e
        exact ⟨_, List.mem_cons_self, rfl⟩
      · obtain ⟨x, m, z⟩ := h3 r e
        exact ⟨x, List.mem_cons_of_mem _ m, z⟩
  | [], _ :: _, h => h.elim
  | _ :: _, [], h => h.elim
theorem ks_each {K : PySem.W.Frag} {H : Hp} : ∀ {L : List (Addr × List Int)}, (∀ p ∈ L, ∃ q, p.2 = pk q ∧ PartAt K H p.1 q) → ∃ vs : List Rat, vs.map pk = L.map (·.2) ∧ Each (PartAt K H) (L.map (·.1)) vs
  | [], _ => ⟨[], rfl, trivial⟩
  | p :: L, h => by
    obtain ⟨vs, h1, h2⟩ := ks_each (L := L) fun x hx => h x (List.mem_cons_of_mem _ hx)
    obtain ⟨q, e, hq⟩ := h p List.mem_cons_self
    exact ⟨q :: vs, by rw [List.map_cons, List.map_cons, h1, e], hq, h2⟩
theorem part_ints {K : PySem.W.Frag} {H : Hp} {p : Addr} {q : Rat} (h : PartAt K H p q) : SqT K H p ((pk q).map V.int) := h
theorem bd_pk {q : Rat} (h0 : 0 ≤ q) (h : Sz q) : TS.Bd (2 ^ LIM) (pk q) := by
  intro m hm
  have hn : 0 ≤ q.num := Rat.num_nonneg.mpr h0
  have e : ((2 : Int) ^ LIM) = ((2 ^ LIM : Nat) : Int) := by rw [Int.natCast_pow]; rfl
  rw [e]
  obtain ⟨h1, h2⟩ := h
  generalize 2 ^ LIM = B at h1 h2
  unfold pk at hm
  rcases List.mem_cons.mp hm with z | z
  · subst z
    omega
  · rw [List.mem_singleton.mp z]
    omega
theorem LIM_eq : LIM = 60000000 := rfl
def spFof (K : PySem.W.Frag) : Sp := fun vs H Q _ => ∃ (a : Addr) (rs : List Rod) (l : Nat), vs = [.ref a] ∧ RodsAt K H a rs ∧ rs.length ≤ 8 ∧ RowB l (ars rs) ∧ l ≤ 442863 ∧ ∀ (H' : Hp) (p : Addr) (fs : List Rat), Same H H' → PtsAt K H' p fs → Folds (ars rs) fs → Q (.ref p) H'
section
variable {P : Program} {w : World} {K : PySem.W.Frag} {mg : Str → Option Value} {base : Heap} {f : Addr} {fd : FuncData}
theorem sc_fof : FnScope ["rods", "weights", "told", "name", "arrow", "one"] ["rods"] (defScope sfolds_of) := ⟨rfl, rfl, rfl, by decide +kernel, rfl, by decide +kernel, by decide +kernel⟩
theorem ok_fof (F : FnP K "folds_of" sfolds_of f fd) (R : Arrs P w K mg base) (Cw : Cal P w K mg base CX0 "whole_of" 45 ["rods"] (spWh K)) (Ci : Cal P w K mg base CX0 "is_folded" 45 ["told", "heavy"] (spIsF K)) (Cr : Cal P w K mg base CX0 "rising" 3 ["row"] (spRis K)) (gS : mg "sorted" = none) :
    FnOk P w K mg base CX0 46 f fd ["rods"] (spFof K) := by
  refine F.ok sc_fof (fun vs H Q E h => ?_) (fun cdv A' outer s H vs Q E hr h => ?_)
  · obtain ⟨a, rs, l, rfl, _⟩ := h
    rfl
  · obtain ⟨a, rs, l, rfl, hrs, h8, hB, hl, k⟩ := h
    have eL := LIM_eq
    have hr3 : Room 3 _ := hr.mono (by decide)
    have hr43 : Room 43 _ := hr.mono (by decide)
    refine ⟨_, PSs.nox <| pss_cons (ps_setLc (i := 1) (own := [("name", 3), ("arrow", 4)]) (g := gTup K 2 (gCons (gName 3) (gCons (gName 4) gNil))) (tt := tYes) (by rfl) sc_fof.nd rfl rfl (sw_true rfl rfl rfl (by decide +kernel))
        (pi_list (pv 0)) (blkOk_by (N := ["rods", "weights", "told", "name", "arrow", "one"]) (sc := defScope sfolds_of) (by decide +kernel)) (fun _ _ _ _ _ => pg_tup (by rfl) (pgs_cons (pg_name (i := 3) sc_fof.nd rfl (.inl rfl)) (pgs_cons (pg_name (i := 4) sc_fof.nd rfl (.inl rfl)) pgs_nil))) (fun _ _ _ _ _ => pts_nil)
        (fun _ _ _ _ _ => pe_cal R.weight hr43 rfl pass0 (pa_cons (pv 4) pa_nil))) <|
      pss_cons (ps_set (i := 2) sc_fof.nd rfl (.inr rfl) (pe_cal Cw hr rfl pass0 (pa_cons (pv 0) pa_nil))) <|
      pss_one (ps_ret (pe_cal Cr hr3 rfl pass0 (pa_cons (pe_lc (own := [("one", 5)]) (g := gName 5) (by rfl) sc_fof.nd
        (pi_list (pe_callB (cr_sortedT (by rfl)) (by rfl) gS (by decide +kernel) (pa_cons (pe_st (O := fun D => SetTO P w D []) (Rd := rdT P w K) (own := [("one", 5)]) (g := gName 5) (by rfl) sc_fof.nd (pi_list (pv 1)) (blkOk_by (N := ["rods", "weights", "told", "name", "arrow", "one"]) (sc := defScope sfolds_of) (by decide +kernel)) (fun _ _ _ _ _ => pg_name (i := 5) sc_fof.nd rfl (.inl rfl)) (fun _ _ _ _ _ => pv 5) (fun H h n => newT H h n) (addsT hr.units)) pa_nil)))
        (blkOk_by (N := ["rods", "weights", "told", "name", "arrow", "one"]) (sc := defScope sfolds_of) (by decide +kernel)) (fun _ _ _ _ _ => pg_name (i := 5) sc_fof.nd rfl (.inl rfl)) (fun _ _ _ _ _ => pts_one (pt_val (pe_cal Ci hr rfl pass0 (pa_cons (pv 2) (pa_cons (pv 5) pa_nil)))))
        (fun _ _ _ _ _ => pv 5)) pa_nil))), ?_⟩
    obtain ⟨ps, hps, eps⟩ := id hrs
    have len : (ps.map V.ref).length = rs.length := by rw [List.length_map, eps.len]
    have ba : ∀ z ∈ ars rs, Ba (l + 4) z := fun z hz => hB.ba hz
    refine ⟨_, rfl, a, rfl, ⟨_, hps⟩, fun D nD => ?_⟩
    refine lc_list (K := K) (a := a) (xs := ps.map V.ref) (fun i H' => Bld (PartAt K) H D H' (((ars rs).map wt).take i)) (Bld.start nD) (fun i H' _ B => B.same.seq hps) (fun i x H' hx B => ?_) (fun H2 B => ?_)
    · have hi : i < rs.length := by
        have := (List.getElem?_eq_some_iff.mp hx).1
        omega
      obtain ⟨q, iq, hq⟩ := eps.get (List.getElem?_eq_getElem hi)
      rw [map_at iq] at hx
      cases hx
      obtain ⟨c, tc, zc⟩ := hq.same B.same
      have hz : (ars rs)[i]? = some (rs[i]).2 := by rw [List.getElem?_map, List.getElem?_eq_getElem hi]; rfl
      have hm : (rs[i]).2 ∈ ars rs := List.mem_of_getElem? hz
      generalize (rs[i]).2 = z at tc zc hz hm
      refine ⟨_, _, rfl, tc, rfl, _, _, rfl, _, _, rfl, rfl, rfl, ?_⟩
      refine ⟨_, rfl, _, _, _, rfl, zc, ba z hm, by omega, fun H3 p3 s3 h3 => ?_⟩
      have e : ((ars rs).map wt).take (i + 1) = ((ars rs).map wt).take i ++ [wt z] := by
        rw [List.take_succ, List.getElem?_map, hz]
        rfl
      rw [e]
      exact B.step (stP K) s3 h3 (by rw [List.length_take]; omega)
    · rw [len, List.take_of_length_le (by rw [List.length_map, List.length_map]; omega)] at B
      have s2 := B.same
      obtain ⟨qs, hD, eqs⟩ := B.ex
      have ws8 : ((ars rs).map wt).length ≤ 8 := by rw [List.length_map, List.length_map]; exact h8
      have wsB : ∀ q ∈ (ars rs).map wt, Bt (2 * l + 7) q ∧ 0 ≤ q := fun q hq => by
        obtain ⟨z, hz, rfl⟩ := List.mem_map.mp hq
        exact ⟨hB.wt hz, wt_nonneg z⟩
      generalize ews : (ars rs).map wt = ws at eqs ws8 wsB
      refine ⟨_, rfl, _, _, l, rfl, hrs.same s2, h8, hB, by omega, fun H3 t s3 ht => ?_⟩
      obtain ⟨ks, k1, k2, k3⟩ := each_ks eqs
      have qlen : (qs.map V.ref).length = ws.length := by rw [List.length_map, eqs.len]
      have klen : ks.length = ws.length := by rw [← qlen, ← k1, List.length_map]
      refine ⟨_, rfl, D, rfl, ⟨_, .of (s3 _ _ hD)⟩, fun S nS => ?_⟩
      have s23 := s2.trans s3
      refine st_list (O := fun D => SetTO P w D []) (Rd := rdT P w K) (K := K) (a := D) (xs := ks.map fun p => V.ref p.1) (fun i H' => Same H3 H' ∧ ∃ L, H' S = some (SetTO P w S L) ∧ Got ks i L) ⟨same_new nS, [], upd_same, Got.zero ks⟩ (fun i H' _ p => .of (p.1 _ _ (by rw [k1]; exact s3 _ _ hD))) (fun i x H' hx ⟨s4, L, hS, g⟩ => ?_) (fun H4 ⟨s4, L, hS, g⟩ => ?_)
      · rw [List.getElem?_map] at hx
        obtain ⟨p, hp, ex⟩ := Option.map_eq_some_iff.mp hx
        subst ex
        have at4 : ∀ r ∈ ks, SqT K H' r.1 (r.2.map V.int) := fun r hr => by
          obtain ⟨q, _, e, hq⟩ := k2 r hr
          rw [e]
          exact part_ints ((hq.same s3).same s4)
        have hi := (List.getElem?_eq_some_iff.mp hp).1
        refine ⟨rfl, _, rfl, p.1, p.2, L, rfl, hS, at4 p (List.mem_of_getElem? hp), fun r hr => at4 r (List.mem_of_mem_take (g.sub r hr)), ?_, fun L' c1 c2 => ?_⟩
        · have := g.len
          omega
        · refine ⟨same_put s4 nS, L', upd_same, ?_⟩
          by_cases c : p.2 ∈ L.map (·.2)
          · rw [c1 c]
            exact g.same hp c
          · exact g.more hp (c2 c)
      · rw [List.length_map] at g
        have inL : ∀ p ∈ L, ∃ q ∈ ws, p.2 = pk q ∧ PartAt K H4 p.1 q := fun p hp => by
          obtain ⟨q, m, e, hq⟩ := k2 p (List.mem_of_mem_take (g.sub p hp))
          exact ⟨q, m, e, (hq.same s3).same s4⟩
        refine ⟨S, L, 2, 2 ^ LIM, rfl, hS, fun p hp => ?_, by decide, fun p hp => ?_, fun L' p pm nd l64 _ np => ?_⟩
        · obtain ⟨q, _, e, hq⟩ := inL p hp
          rw [e]
          exact part_ints hq
        · obtain ⟨q, m, e, hq⟩ := inL p hp
          rw [e]
          exact ⟨rfl, bd_pk (wsB q m).2 ((wsB q m).1.sz (by omega))⟩
        have s5 := same_new (o := .lst (L'.map fun q => V.ref q.1)) np
        have s35 := s4.trans s5
        obtain ⟨vs, ev, eachv⟩ := ks_each (K := K) (H := upd H4 p (.lst (L'.map fun q => V.ref q.1))) (L := L') fun r hr => by
          obtain ⟨q, _, e, hq⟩ := inL r (pm.mem_iff.mp hr)
          exact ⟨q, e, hq.same s5⟩
        have vnd : vs.Nodup := by
          rw [← ev] at nd
          exact nodup_of_map nd
        have vmem : ∀ q, q ∈ vs ↔ q ∈ ws := fun q => by
          have e1 : q ∈ vs ↔ pk q ∈ L'.map (·.2) := by
            rw [← ev]
            refine ⟨fun h => List.mem_map.mpr ⟨q, h, rfl⟩, fun h => ?_⟩
            obtain ⟨r, m, e⟩ := List.mem_map.mp h
            rw [← pk_inj e]
            exact m
          rw [e1, (pm.map _).mem_iff]
          constructor
          · intro h
            obtain ⟨r, m, e⟩ := List.mem_map.mp h
            obtain ⟨q', m', e', _⟩ := inL r m
            rw [e'] at e
            rw [← pk_inj e]
            exact m'
          · intro h
            obtain ⟨r, m, e⟩ := k3 q h
            rw [← e]
            exact g.all r (by rw [List.take_length]; exact m)
        refine ⟨p, rfl, ⟨_, .of upd_same⟩, fun D2 nD2 => ?_⟩
        have vlen : vs.length ≤ 8 := by
          have e1 := congrArg List.length ev
          rw [List.length_map, List.length_map] at e1
          have e2 := g.len
          have e3 := pm.length_eq
          omega
        have elen : (L'.map fun q => V.ref q.1).length = vs.length := by
          have e1 := congrArg List.length ev
          rw [List.length_map, List.length_map] at e1
          rw [List.length_map, e1]
        have wl := wh_len (ars rs)
        have rl : (ars rs).length = rs.length := by rw [List.length_map]
        have rle : (ars rs).length * (l + 5) ≤ 8 * (l + 5) := Nat.mul_le_mul_right _ (by omega)
        refine lc_list (K := K) (a := p) (xs := L'.map fun q => V.ref q.1) (fun i H' => Bld (PartAt K) (upd H4 p (.lst (L'.map fun q => V.ref q.1))) D2 H' ((vs.take i).filter fun q => decide (isF (wh (ars rs)) q))) (Bld.start nD2)
          (fun i H' _ B => .of (B.same _ _ upd_same)) (fun i x H' hx B => ?_) (fun H5 B => ?_)
        · have hi : i < vs.length := by
            have := (List.getElem?_eq_some_iff.mp hx).1
            omega
          have hv : vs[i]? = some vs[i] := List.getElem?_eq_getElem hi
          obtain ⟨c, ic, hc⟩ := eachv.get hv
          have vm := wsB _ ((vmem _).mp (List.getElem_mem hi))
          generalize vs[i] = v at hv hc vm
          have ex : some (V.ref c) = some x := by
            rw [← hx, ← map_at ic, List.map_map]
            rfl
          cases ex
          have sB := B.same
          refine ⟨rfl, ?_⟩
          refine ⟨_, rfl, _, rfl, _, _, wh (ars rs), v, 8 * (l + 5) + 1, 2 * l + 7, rfl, ht.same (s35.trans sB), hc.same sB, by omega, by omega, fun z hz => (hB.wh hz).mono (by omega), vm.1, by omega, fun H6 b s6 hb => ?_⟩
          have et : (vs.take (i + 1)).filter (fun q => decide (isF (wh (ars rs)) q)) = (vs.take i).filter (fun q => decide (isF (wh (ars rs)) q)) ++ (if isF (wh (ars rs)) v then [v] else []) := by
            rw [List.take_succ, hv, List.filter_append]
            by_cases z : isF (wh (ars rs)) v
            · rw [if_pos z]
              simp [z]
            · rw [if_neg z]
              simp [z]
          refine ⟨_, rfl, ?_⟩
          refine ite2 (fun z => ?_) (fun z => ?_)
          · rw [et, if_pos (hb.mp z)]
            refine ⟨_, rfl, B.step (stP K) s6 ((hc.same sB).same s6) ?_⟩
            have := List.length_filter_le (fun q => decide (isF (wh (ars rs)) q)) (vs.take i)
            rw [List.length_take] at this
            omega
          · rw [et, if_neg (fun q => z (hb.mpr q)), List.append_nil]
            exact B.grow (stP K) s6
        · rw [elen, List.take_length] at B
          have flen := List.length_filter_le (fun q => decide (isF (wh (ars rs)) q)) vs
          refine ⟨D2, _, rfl, B.done, by omega, fun q hq => (wsB q ((vmem q).mp (List.mem_filter.mp hq).1)).1.sz (by omega), fun H6 r fs s6 hf ris => ?_⟩
          refine k H6 r fs (((s23.trans s35).trans B.same).trans s6) hf ?_
          obtain ⟨d1, d2⟩ := ris.done (vnd.filter _)
          refine ⟨d1, fun q => ?_⟩
          rw [d2 q, List.mem_filter, vmem q, decide_eq_true_eq, ← ews]
end
end CT

/-! W9: is_name, need_rods. -/
namespace CT
open PySem PySem.Spec PyProof.Rows L2
def letters : Str := "abcdefghijklmnopqrstuvwxyz"
/-- a name -/
structure Nm (x : Str) : Prop where
  low : 1 ≤ x.cps.size
  up : x.cps.size ≤ 6
  all : ∀ c ∈ x.cps.toList, c ∈ letters.cps.toList
def spName : Sp := fun vs H Q _ => ∃ x : Str, vs = [.str x] ∧ Nm x ∧ ∀ H', Same H H' → Q (.bl true) H'
structure NamesOk (rs : List Rod) : Prop where
  nm : ∀ r ∈ rs, Nm r.1
  nd : (rs.map (·.1)).Nodup
def spNeed (K : PySem.W.Frag) : Sp := fun vs H Q _ => ∃ (a : Addr) (rs : List Rod), vs = [.ref a] ∧ RodsAt K H a rs ∧ rs.length ≤ 8 ∧ NamesOk rs ∧ (∀ z ∈ ars rs, z ≠ aZ) ∧ ∀ H', Same H H' → Q .non H'
section
variable {P : Program} {w : World} {K : PySem.W.Frag} {mg : Str → Option Value} {base : Heap} {f : Addr} {fd : FuncData}
structure Tops (mg : Str → Option Value) : Prop where
  most : ∃ t, mg "MOST_NAME" = some (.int 6 t)
  rods : ∃ t, mg "MOST_RODS" = some (.int 8 t)
  let_ : ∃ t, mg "LETTERS" = some (.str letters t)
  len : mg "len" = none
  all : mg "all" = none
  enumerate : mg "enumerate" = none
  list : mg "list" = none
  range : mg "range" = none
  sorted : mg "sorted" = none
  abs : mg "abs" = none
  tuple : mg "tuple" = none
  max : mg "max" = none
  isinstance : mg "isinstance" = none
  bool : mg "bool" = none
  int : mg "int" = none
  str : mg "str" = none
theorem sc_name : FnScope ["text", "sign"] ["text"] (defScope sis_name) := ⟨rfl, rfl, rfl, by decide +kernel, rfl, by decide +kernel, by decide +kernel⟩
theorem ok_name (F : FnP K "is_name" sis_name f fd) (G : Tops mg) : FnOk P w K mg base CX0 1 f fd ["text"] spName := by
  refine F.ok sc_name (fun vs H Q E h => ?_) (fun cdv A' outer s H vs Q E hr h => ?_)
  · obtain ⟨x, rfl, _⟩ := h
    rfl
  · obtain ⟨x, rfl, hx, k⟩ := h
    obtain ⟨t6, g6⟩ := G.most
    obtain ⟨tL, gL⟩ := G.let_
    refine ⟨_, PSs.nox <| pss_one (ps_ret (pe_and (pe_chain op_le op_le pe_int (pe_callB call_len_str (by rfl) G.len PySem.boot_len (pa_cons (pv 0) pa_nil)) (pe_glob (v := .int 6) rfl g6 ⟨_, rfl⟩))
      (pe_one (pe_callB (cr_all (by rfl)) (by rfl) G.all (by decide +kernel) (pa_cons (pe_lc (own := [("sign", 1)]) (g := gName 1) (tt := tYes) (by rfl) sc_name.nd (pi_str (pv 0)) (blkOk_by (N := ["text", "sign"]) (sc := defScope sis_name) (by decide +kernel))
        (fun _ _ _ _ _ => pg_name (i := 1) sc_name.nd rfl (.inl rfl)) (fun _ _ _ _ _ => pts_nil) (fun _ _ _ _ _ => pe_cmpR op_in_sign (pv 1) (pe_glob (v := .str letters) rfl gL ⟨_, rfl⟩) rfl)) pa_nil))))), ?_⟩
    have hxl : x.length = x.cps.size := rfl
    have l1 : (1 : Int) ≤ (x.length : Int) := by have := hx.low; omega
    have l6 : (x.length : Int) ≤ 6 := by have := hx.up; omega
    have hs : x.length ≤ sizeLine := by have := hx.up; have := small1000 (n := x.length) (by omega); omega
    refine ⟨_, rfl, x, rfl, hs, _, _, rfl, rfl, _, rfl, ?_⟩
    refine ite2 (fun _ => ?_) (fun c => absurd (decide_eq_true l1) c)
    refine ⟨_, _, rfl, rfl, _, rfl, ?_⟩
    refine ite2 (fun _ => ?_) (fun c => absurd (decide_eq_true l6) c)
    refine ⟨_, rfl, x, rfl, fun D nD => ?_⟩
    refine lc_it walk_str (fun i H' => Same H H' ∧ H' D = some (.lst ((List.replicate i true).map V.bl))) ⟨same_new nD, upd_same⟩ (fun _ _ _ _ => trivial) (fun i y H1 H1' hi p hy => ?_) (fun H2 p => ?_)
    · obtain ⟨e, c, hc, rfl⟩ := hy
      subst e
      have mc : c ∈ letters.cps.toList := hx.all c (by rw [← Array.getElem?_toList] at hc; exact List.mem_of_getElem? hc)
      have up := hx.up
      refine ⟨rfl, _, rfl, c, letters, rfl, rfl, _, p.2, ?_, ?_⟩
      · rw [List.length_map, List.length_replicate]
        exact small1000 (by omega)
      · refine ⟨same_put p.1 nD, ?_⟩
        rw [upd_same, decide_eq_true mc, List.replicate_succ', List.map_append]
        rfl
    · refine ⟨D, _, rfl, .of p.2, ?_⟩
      have e : (List.replicate x.cps.size true).all id = true := by simp
      rw [e]
      exact k H2 p.1
theorem sc_need : FnScope ["rods", "at", "name", "arrow", "names"] ["rods"] (defScope sneed_rods) := ⟨rfl, rfl, rfl, by decide +kernel, rfl, by decide +kernel, by decide +kernel⟩
theorem ok_need (F : FnP K "need_rods" sneed_rods f fd) (G : Tops mg) (T : Cons K mg) (Cn : Cal P w K mg base CX0 "is_name" 1 ["text"] spName) (Cc : Cal P w K mg base CX0 "copied" 1 ["one"] (spCopied K)) : FnOk P w K mg base CX0 2 f fd ["rods"] (spNeed K) := by
  refine F.ok sc_need (fun vs H Q E h => ?_) (fun cdv A' outer s H vs Q E hr h => ?_)
  · obtain ⟨a, rs, rfl, _⟩ := h
    rfl
  · obtain ⟨a, rs, rfl, hrs, h8, hN, hz, k⟩ := h
    obtain ⟨ao, go, hoo⟩ := T.origin
    refine ⟨_, PSs.nox <| pss_cons (ps_for PassesOwn.never rfl (pi_enum (by rfl) G.enumerate (pa_cons (pv 0) pa_nil)) (pg_tup (by rfl) (pgs_cons (pg_name (i := 1) sc_need.nd rfl (.inl rfl)) (pgs_cons (pg_tup (by rfl) (pgs_cons (pg_name (i := 2) sc_need.nd rfl (.inl rfl)) (pgs_cons (pg_name (i := 3) sc_need.nd rfl (.inl rfl)) pgs_nil))) pgs_nil)))
        (pss_cons (ps_if (pt_not (pt_val (pe_cal Cn hr rfl pass0 (pa_cons (pv 2) pa_nil)))) pss_never pss_nil) <|
        pss_one (ps_if (pt_cmpR (op_eqD hr.units) (pe_cal Cc hr rfl pass0 (pa_cons (pv 3) pa_nil)) (pe_glob (v := .ref ao) rfl go rfl) (nomark _)) pss_never pss_nil))) <|
      pss_cons (ps_set (i := 4) sc_need.nd rfl (.inl rfl) (pe_lst pa_nil)) <|
      pss_one (ps_for PassesOwn.never rfl (pi_list (pv 0)) (pg_tup (by rfl) (pgs_cons (pg_name (i := 2) sc_need.nd rfl (.inl rfl)) (pgs_cons (pg_name (i := 3) sc_need.nd rfl (.inl rfl)) pgs_nil)))
        (pss_cons (ps_if (pt_cmpR op_in_seq (pv 2) (pv 4) (by rfl)) pss_never pss_nil) <|
        pss_one (ps_expr (pe_bm PySem.F.plainAttrs_list PySem.F.slot_list_append PySem.F.type_list_append mt_append (pv 4) (pa_cons (pv 2) pa_nil))))), ?_⟩
    obtain ⟨ps, hps, eps⟩ := id hrs
    have len : (ps.map V.ref).length = rs.length := by rw [List.length_map, eps.len]
    refine ⟨_, rfl, a, _, rfl, hps, for_it (walk_enum (xs := ps.map V.ref)) (fun i σ H' => ∃ (x1 x2 x3 : Option V), σ = [some (.ref a), x1, x2, x3, none] ∧ Same H H') ⟨none, none, none, rfl, fun _ _ e => e⟩ ?_ ?_ ?_⟩
    · rintro i σ H' hi ⟨x1, x2, x3, rfl, s'⟩
      exact s'.seq hps
    · rintro i xx σ H' H'' hi ⟨x1, x2, x3, rfl, s'⟩ ⟨t, y1, y2, rfl, nt, rfl, e1, e2⟩
      rw [len] at hi
      cases e1
      obtain ⟨q, iq, hq⟩ := eps.get (List.getElem?_eq_getElem hi)
      have e3 : some (V.ref q) = some y2 := (map_at iq).symm.trans e2
      cases e3
      have mr : rs[i] ∈ rs := List.getElem_mem hi
      generalize rs[i] = r at hq mr
      have st := s'.trans (same_new (o := .tup [V.int (i : Nat), V.ref q]) nt)
      obtain ⟨c, tc, zc⟩ := hq.same st
      have nz := hz r.2 (List.mem_map.mpr ⟨r, mr, rfl⟩)
      refine ⟨_, _, rfl, tup_new, rfl, _, _, rfl, _, _, rfl, ⟨_, _, rfl, tc, rfl, _, _, rfl, _, _, rfl, rfl, rfl, ?_⟩⟩
      refine ⟨_, rfl, r.1, rfl, hN.nm r mr, fun H1 s1 => ?_⟩
      refine ⟨_, rfl, ?_⟩
      refine ite2 (fun z => absurd z (by decide)) (fun _ => ?_)
      refine ⟨_, rfl, _, _, rfl, zc.same s1, fun H2 p2 s2 h2 => ?_⟩
      refine ⟨_, _, h2.dp, (hoo _).dp, sh_dA _, sh_dA _, _, rfl, ?_⟩
      rw [eqv_dA]
      refine ite2 (fun z => absurd (of_decide_eq_true z) nz) (fun _ => ?_)
      exact ⟨_, _, _, rfl, (st.trans s1).trans s2⟩
    · rintro σ H' ⟨x1, x2, x3, rfl, s'⟩
      refine ⟨Nat.zero_le _, fun D nD => ?_⟩
      have sD := s'.trans (same_new (o := .lst []) nD)
      refine ⟨_, rfl, a, rfl, ⟨_, sD.seq hps⟩, for_list (xs := ps.map V.ref) (fun i σ H2 => ∃ (x1 x2 x3 : Option V), σ = [some (.ref a), x1, x2, x3, some (.ref D)] ∧ Same H' H2 ∧ H2 D = some (.lst (((rs.take i).map (·.1)).map V.str)))
        ⟨x1, x2, x3, rfl, same_new nD, upd_same⟩ ?_ ?_ ?_⟩
      · rintro i σ H2 hi ⟨x1, x2, x3, rfl, s2, _⟩
        exact (s'.trans s2).seq hps
      · rintro i x σ H2 hx ⟨x1, x2, x3, rfl, s2, hD⟩
        have hi : i < rs.length := by
          have := (List.getElem?_eq_some_iff.mp hx).1
          omega
        have hr' : rs[i]? = some rs[i] := List.getElem?_eq_getElem hi
        obtain ⟨q, iq, hq⟩ := eps.get hr'
        rw [map_at iq] at hx
        cases hx
        have fresh : rs[i].1 ∉ (rs.take i).map (·.1) := fun z => by
          have nd := hN.nd
          rw [← List.take_append_drop i rs, List.drop_eq_getElem_cons hi, List.map_append, List.map_cons] at nd
          exact (List.nodup_append.mp nd).2.2 _ z _ List.mem_cons_self rfl
        have et : rs.take (i + 1) = rs.take i ++ [rs[i]] := by rw [List.take_succ, hr']; rfl
        generalize rs[i] = r at hq fresh et
        obtain ⟨c, tc, _⟩ := hq.same (s'.trans s2)
        refine ⟨_, _, rfl, tc, rfl, _, _, rfl, _, _, rfl, rfl, ?_⟩
        refine ⟨_, rfl, _, rfl, D, _, rfl, .inl (.of hD), rfl, ?_, _, rfl, ?_⟩
        · rw [List.all_eq_true]
          intro v hv
          obtain ⟨s, _, rfl⟩ := List.mem_map.mp hv
          rfl
        · refine ite2 (fun z => ?_) (fun _ => ?_)
          · refine absurd ?_ fresh
            have z' : inV (.str r.1) (((rs.take i).map (·.1)).map V.str) = true := z
            unfold inV at z'
            obtain ⟨v, hv, ev⟩ := List.any_eq_true.mp z'
            obtain ⟨s, hs, rfl⟩ := List.mem_map.mp hv
            have e : s = r.1 := eq_of_beq ev
            rw [← e]
            exact hs
          · refine ⟨_, rfl, .inl ⟨rfl, _, .of hD⟩, _, rfl, D, _, _, rfl, rfl, hD, ?_, ?_⟩
            · rw [List.length_map, List.length_map, List.length_take]
              exact small1000 (by omega)
            · refine ⟨_, _, _, rfl, same_put s2 nD, ?_⟩
              rw [upd_same, et, List.map_append, List.map_append]
              rfl
      · rintro σ H2 ⟨x1, x2, x3, rfl, s2, _⟩
        exact k H2 (s'.trans s2)
end
end CT

/-! W10: the class Row, its methods; Flat. -/
namespace CT
open PySem PySem.Spec PyProof.Rows L2
/-- all but the thing at x stays -/
def But (x : Addr) (H H' : Hp) : Prop := ∀ b o, b ≠ x → H b = some o → H' b = some o
section
variable {K : PySem.W.Frag} {H H' : Hp} {x C dx : Addr} {fs : List (Str × V)}
theorem but_upd {o : HO} : But x H (upd H x o) := fun b u n e => by rw [upd_ne n]; exact e
theorem But.trans {H2 : Hp} (s : But x H H') (t : But x H' H2) : But x H H2 := fun b o n e => t b o n (s b o n e)
theorem but_of (s : Same H H') : But x H H' := fun b o _ e => s b o e
theorem sqT_but {a : Addr} {ts : List V} (h : SqT K H a ts) (hx : H x = some (.ins C dx fs)) (s : But x H H') : SqT K H' a ts := by
  rcases h with (h | ⟨u, h⟩) | h
  · exact .inl (.inl (s _ _ (ne_of h hx (by intro z; cases z)) h))
  · exact .inl (.inr ⟨u, s _ _ (ne_of h hx (by intro z; cases z)) h⟩)
  · exact .inr h
theorem sqL_but {a : Addr} {ts : List V} (h : SqL K H a ts) (hx : H x = some (.ins C dx fs)) (s : But x H H') : SqL K H' a ts := by
  rcases h with (h | ⟨u, h⟩) | h
  · exact .inl (.inl (s _ _ (ne_of h hx (by intro z; cases z)) h))
  · exact .inl (.inr ⟨u, s _ _ (ne_of h hx (by intro z; cases z)) h⟩)
  · exact .inr h
theorem ar_but {a : Addr} {z : Ar} (h : ArAt K H a z) (hx : H x = some (.ins C dx fs)) (s : But x H H') : ArAt K H' a z := by
  obtain ⟨p, q, h1, h2, h3⟩ := h
  exact ⟨p, q, sqT_but h1 hx s, sqT_but h2 hx s, sqT_but h3 hx s⟩
theorem rods_but {a : Addr} {rs : List Rod} (h : RodsAt K H a rs) (hx : H x = some (.ins C dx fs)) (s : But x H H') : RodsAt K H' a rs := by
  obtain ⟨ps, h1, h2⟩ := h
  refine ⟨ps, sqL_but h1 hx s, h2.imp fun p r h => ?_⟩
  obtain ⟨c, h3, h4⟩ := h
  exact ⟨c, sqT_but h3 hx s, ar_but h4 hx s⟩
end
/-- the class -/
structure RowC (K : PySem.W.Frag) (mg : Str → Option Value) (C fI : Addr) : Prop where
  cls : Cls K C
  lot : NoAttr K C "lot"
  first : NoAttr K C "first"
  mak : Mk K C fI
  mg : mg "Row" = some (.ref C)
def RowAt (K : PySem.W.Frag) (C : Addr) (H : Hp) (x : Addr) (rs : List Rod) : Prop := ∃ (dx l p : Addr) (z : Ar), H x = some (.ins C dx [("lot", .ref l), ("first", .ref p)]) ∧ RodsAt K H l rs ∧ ArAt K H p z
theorem RowAt.same {K : PySem.W.Frag} {C x : Addr} {H H' : Hp} {rs : List Rod} (h : RowAt K C H x rs) (s : Same H H') : RowAt K C H' x rs := by
  obtain ⟨dx, l, p, z, h1, h2, h3⟩ := h
  exact ⟨dx, l, p, z, s _ _ h1, h2.same s, h3.same s⟩
structure RodsOk (rs : List Rod) : Prop where
  low : 1 ≤ rs.length
  up : rs.length ≤ 8
  names : NamesOk rs
  ne : ∀ z ∈ ars rs, z ≠ aZ
def spInit (K : PySem.W.Frag) (C : Addr) : Sp := fun vs H Q _ => ∃ (x dx a b : Addr) (rs : List Rod) (z : Ar), vs = [.ref x, .ref a, .ref b] ∧ H x = some (.ins C dx []) ∧ RodsAt K H a rs ∧ RodsOk rs ∧ ArAt K H b z ∧
  ∀ H', RowAt K C H' x rs → But x H H' → Q .non H'
def spRods (K : PySem.W.Frag) (C : Addr) : Sp := fun vs H Q _ => ∃ (x : Addr) (rs : List Rod), vs = [.ref x] ∧ RowAt K C H x rs ∧ rs.length ≤ 8 ∧ ∀ (H' : Hp) (p : Addr), Same H H' → RodsAt K H' p rs → Q (.ref p) H'
def spLen (K : PySem.W.Frag) (C : Addr) : Sp := fun vs H Q _ => ∃ (x : Addr) (rs : List Rod), vs = [.ref x] ∧ RowAt K C H x rs ∧ Q (.int (rs.length : Nat)) H
section
variable {P : Program} {w : World} {K : PySem.W.Frag} {mg : Str → Option Value} {base : Heap} {f : Addr} {fd : FuncData} {C fI : Addr}
theorem sc_init : FnScope ["self", "rods", "start", "name", "arrow"] ["self", "rods", "start"] (defScope sRow_init) := ⟨rfl, rfl, rfl, by decide +kernel, rfl, by decide +kernel, by decide +kernel⟩
theorem ok_init {vS : V} (F : FunD K "__init__" "Row.__init__" (defArgs sRow_init) (defBody sRow_init) (defScope sRow_init) [] [("start", vS)] f fd) (G : Tops mg) (R : RowC K mg C fI) (Cn : Cal P w K mg base CX0 "need_rods" 2 ["rods"] (spNeed K)) (Cc : Cal P w K mg base CX0 "copied" 1 ["one"] (spCopied K)) :
    FnOk P w K mg base CX0 3 f fd ["self", "rods", "start"] (spInit K C) := by
  refine F.ok sc_init (fun vs H Q E h => ?_) (fun cdv A' outer s H vs Q E hr h => ?_)
  · obtain ⟨x, dx, a, b, rs, z, rfl, _⟩ := h
    rfl
  · obtain ⟨x, dx, a, b, rs, z, rfl, hx, hrs, hok, hb, k⟩ := h
    obtain ⟨t8, g8⟩ := G.rods
    have hr1 : Room 1 _ := hr.mono (by decide)
    refine ⟨_, PSs.nox <| pss_cons (ps_if (pt_not (pt_chain op_le op_le pe_int (pe_callB call_len_seq (by rfl) G.len PySem.boot_len (pa_cons (pv 1) pa_nil)) (pe_glob (v := .int 8) rfl g8 ⟨_, rfl⟩))) pss_never pss_nil) <|
      pss_cons (ps_expr (pe_cal Cn hr rfl pass0 (pa_cons (pv 1) pa_nil))) <|
      pss_cons (ps_fld (pv 0) (pe_lc (own := [("name", 3), ("arrow", 4)]) (g := gTup K 2 (gCons (gName 3) (gCons (gName 4) gNil))) (tt := tYes) (by rfl) sc_init.nd
        (pi_list (pv 1)) (blkOk_by (N := ["self", "rods", "start", "name", "arrow"]) (sc := defScope sRow_init) (by decide +kernel)) (fun _ _ _ _ _ => pg_tup (by rfl) (pgs_cons (pg_name (i := 3) sc_init.nd rfl (.inl rfl)) (pgs_cons (pg_name (i := 4) sc_init.nd rfl (.inl rfl)) pgs_nil))) (fun _ _ _ _ _ => pts_nil)
        (fun _ _ _ _ _ => pe_tup (pa_cons (pv 3) (pa_cons (pe_cal Cc hr1 rfl pass0 (pa_cons (pv 4) pa_nil)) pa_nil)))) rfl) <|
      pss_one (ps_fld (pv 0) (pe_cal Cc hr1 rfl pass0 (pa_cons (pv 2) pa_nil)) rfl), ?_⟩
    obtain ⟨ps, hps, eps⟩ := id hrs
    have len : (ps.map V.ref).length = rs.length := by rw [List.length_map, eps.len]
    have up := hok.up
    have l1 : (1 : Int) ≤ ((ps.map V.ref).length : Int) := by have := hok.low; omega
    have l8 : ((ps.map V.ref).length : Int) ≤ 8 := by omega
    refine ⟨_, rfl, a, _, rfl, .inl hps, _, _, rfl, rfl, _, rfl, ?_⟩
    refine ite2 (fun _ => ?_) (fun c => absurd (decide_eq_true l1) c)
    refine ⟨_, _, rfl, rfl, _, rfl, ?_⟩
    refine ite2 (fun c => ?_) (fun _ => ?_)
    · rw [decide_eq_true l8] at c
      cases c
    refine ⟨_, rfl, _, rs, rfl, hrs, up, hok.names, hok.ne, fun H1 s1 => ?_⟩
    refine ⟨_, rfl, a, rfl, ⟨_, s1.seq hps⟩, fun D nD => ?_⟩
    refine lc_list (K := K) (a := a) (xs := ps.map V.ref) (fun i H' => Bld (RodAt K) H1 D H' (rs.take i)) (Bld.start nD) (fun i H' _ B => B.same.seq (s1.seq hps)) (fun i y H' hy B => ?_) (fun H2 B => ?_)
    · have hi : i < rs.length := by
        have := (List.getElem?_eq_some_iff.mp hy).1
        omega
      have hz : rs[i]? = some rs[i] := List.getElem?_eq_getElem hi
      obtain ⟨q, iq, hq⟩ := eps.get hz
      rw [map_at iq] at hy
      cases hy
      obtain ⟨c, tc, zc⟩ := hq.same (s1.trans B.same)
      have et : rs.take (i + 1) = rs.take i ++ [rs[i]] := by rw [List.take_succ, hz]; rfl
      rw [et]
      generalize rs[i] = r at tc zc
      refine ⟨_, _, rfl, tc, rfl, _, _, rfl, _, _, rfl, rfl, rfl, ?_⟩
      refine ⟨_, rfl, _, rfl, _, _, rfl, zc, fun H3 p3 s3 h3 => ⟨two_le, fun p hp => ?_⟩⟩
      have s4 := same_new (o := .tup [V.str r.1, V.ref p3]) hp
      exact B.step (stR K) (s3.trans s4) ⟨p3, tup_new, h3.same s4⟩ (by rw [List.length_take]; omega)
    · rw [len, List.take_length] at B
      have s2 := B.same
      have x2 := s2 _ _ (s1 _ _ hx)
      have LD : RodsAt K H2 D rs := B.done
      refine ⟨_, rfl, x, C, dx, [], rfl, x2, R.cls, R.lot, by decide, ?_⟩
      have bu : But x H2 (upd H2 x (.ins C dx (putF "lot" (V.ref D) []))) := but_upd
      have hb2 := ar_but (hb.same (s1.trans s2)) x2 bu
      refine ⟨_, rfl, _, _, rfl, hb2, fun H3 p3 s3 h3 => ?_⟩
      have x3 := s3 _ _ (show upd H2 x (.ins C dx (putF "lot" (V.ref D) [])) x = _ from upd_same)
      refine ⟨_, rfl, x, C, dx, _, rfl, x3, R.cls, R.first, by show 1 < 1000; decide, ?_⟩
      have bu3 : But x H3 (upd H3 x (.ins C dx (putF "first" (V.ref p3) (putF "lot" (V.ref D) [])))) := but_upd
      refine k _ ⟨dx, D, p3, z, upd_same, rods_but ((rods_but LD x2 bu).same s3) x3 bu3, ar_but h3 x3 bu3⟩ ?_
      exact (((but_of (s1.trans s2)).trans bu).trans (but_of s3)).trans bu3
theorem sc_rods : FnScope ["self"] ["self"] (defScope sRow_rods) := ⟨rfl, rfl, rfl, by decide +kernel, rfl, by decide +kernel, by decide +kernel⟩
theorem ok_rods (F : FunD K "rods" "Row.rods" (defArgs sRow_rods) (defBody sRow_rods) (defScope sRow_rods) [] [] f fd) (G : Tops mg) (R : RowC K mg C fI) : FnOk P w K mg base CX0 1 f fd ["self"] (spRods K C) := by
  refine F.ok sc_rods (fun vs H Q E h => ?_) (fun cdv A' outer s H vs Q E hr h => ?_)
  · obtain ⟨x, rs, rfl, _⟩ := h
    rfl
  · obtain ⟨x, rs, rfl, ⟨dx, l, p, z, hx, ⟨ps, hps, eps⟩, hp⟩, up, k⟩ := h
    refine ⟨_, PSs.nox <| pss_one (ps_ret (pe_callTy call_list_of (by rfl) G.list (by decide +kernel) (pa_cons (pe_fld (pv 0) rfl) pa_nil))), ?_⟩
    refine ⟨_, rfl, x, C, dx, _, _, rfl, hx, R.cls, R.lot, rfl, l, _, rfl, .inl hps, fun q nq => ?_⟩
    have sq := same_new (o := .lst (ps.map V.ref)) nq
    exact k _ q sq ⟨ps, .of upd_same, eps.imp fun _ _ h => h.same sq⟩
theorem sc_len : FnScope ["self"] ["self"] (defScope sRow_len) := ⟨rfl, rfl, rfl, by decide +kernel, rfl, by decide +kernel, by decide +kernel⟩
theorem ok_len (F : FunD K "__len__" "Row.__len__" (defArgs sRow_len) (defBody sRow_len) (defScope sRow_len) [] [] f fd) (G : Tops mg) (R : RowC K mg C fI) : FnOk P w K mg base CX0 1 f fd ["self"] (spLen K C) := by
  refine F.ok sc_len (fun vs H Q E h => ?_) (fun cdv A' outer s H vs Q E hr h => ?_)
  · obtain ⟨x, rs, rfl, _⟩ := h
    rfl
  · obtain ⟨x, rs, rfl, ⟨dx, l, p, z, hx, ⟨ps, hps, eps⟩, hp⟩, k⟩ := h
    refine ⟨_, PSs.nox <| pss_one (ps_ret (pe_callB call_len_seq (by rfl) G.len PySem.boot_len (pa_cons (pe_fld (pv 0) rfl) pa_nil))), ?_⟩
    refine ⟨_, rfl, x, C, dx, _, _, rfl, hx, R.cls, R.lot, rfl, l, _, rfl, .inl hps, ?_⟩
    rw [List.length_map, eps.len]
    exact k
end
end CT

/-! W11: Flat, traded. -/
namespace CT
open PySem PySem.Spec PyProof.Rows L2
/-! ### what a trade leaves -/
theorem cut_two {rs : List Rod} {k : Nat} {a b : Rod} (ha : rs[k]? = some a) (hb : rs[k + 1]? = some b) : rs = rs.take k ++ a :: b :: rs.drop (k + 2) := by
  obtain ⟨h1, e1⟩ := List.getElem?_eq_some_iff.mp ha
  obtain ⟨h2, e2⟩ := List.getElem?_eq_some_iff.mp hb
  rw [← e1, ← e2, ← List.drop_eq_getElem_cons h2, ← List.drop_eq_getElem_cons h1, List.take_append_drop]
/-- the two that trade -/
theorem trd_some {rs rs' : List Rod} {k : Nat} (h : trd rs k = some rs') : ∃ (pre post : List Rod) (a b : Rod) (c d : Ar), pre.length = k ∧ rs = pre ++ a :: b :: post ∧ rs' = pre ++ (b.1, c) :: (a.1, d) :: post ∧ ex a.2 b.2 = some (c, d) := by
  unfold trd at h
  split at h
  · rename_i a b ha hb
    obtain ⟨cd, e1, e2⟩ := Option.map_eq_some_iff.mp h
    have hk := (List.getElem?_eq_some_iff.mp ha).1
    refine ⟨rs.take k, rs.drop (k + 2), a, b, cd.1, cd.2, by rw [List.length_take]; omega, cut_two ha hb, ?_, e1⟩
    rw [← e2]
    simp
  · cases h
theorem trd_none {rs : List Rod} {k : Nat} (hk : k + 1 < rs.length) (h : trd rs k = none) : ∃ (pre post : List Rod) (a b : Rod), rs = pre ++ a :: b :: post ∧ ex a.2 b.2 = none := by
  have ha : rs[k]? = some rs[k] := List.getElem?_eq_getElem (by omega)
  have hb : rs[k + 1]? = some rs[k + 1] := List.getElem?_eq_getElem hk
  unfold trd at h
  rw [ha, hb] at h
  exact ⟨_, _, _, _, cut_two ha hb, Option.map_eq_none_iff.mp h⟩
theorem trd_ok {rs rs' : List Rod} {k : Nat} (ok : RodsOk rs) (h : trd rs k = some rs') : RodsOk rs' ∧ rs'.length = rs.length := by
  obtain ⟨pre, post, a, b, c, d, _, rfl, rfl, e⟩ := trd_some h
  have T := ex_some e
  have el : (pre ++ (b.1, c) :: (a.1, d) :: post).length = (pre ++ a :: b :: post).length := by simp
  refine ⟨⟨by rw [el]; exact ok.low, by rw [el]; exact ok.up, ⟨fun r hr => ?_, ?_⟩, fun z hz => ?_⟩, el⟩
  · have nm := ok.names.nm
    rcases List.mem_append.mp hr with q | q
    · exact nm r (List.mem_append_left _ q)
    · rcases List.mem_cons.mp q with q | q
      · subst q
        exact nm b (by simp)
      · rcases List.mem_cons.mp q with q | q
        · subst q
          exact nm a (by simp)
        · exact nm r (by simp [q])
  · have nd := ok.names.nd
    have p : ((pre ++ (b.1, c) :: (a.1, d) :: post).map (·.1)).Perm ((pre ++ a :: b :: post).map (·.1)) := by
      rw [List.map_append, List.map_append]
      exact List.Perm.append_left _ (List.Perm.swap _ _ _)
    exact p.nodup_iff.mpr nd
  · have ne := ok.ne
    have hb := ne b.2 (by simp [ars])
    have ha := ne a.2 (by simp [ars])
    have hz' : z ∈ pre.map (·.2) ++ c :: d :: post.map (·.2) := by simpa [ars] using hz
    rcases List.mem_append.mp hz' with q | q
    · exact ne z (by rw [ars, List.map_append]; exact List.mem_append_left _ q)
    · rcases List.mem_cons.mp q with q | q
      · subst q
        intro z
        have w := T.w1
        rw [z, wt_aZ] at w
        exact wt_ne hb w.symm
      · rcases List.mem_cons.mp q with q | q
        · subst q
          intro z
          have w := T.w2
          rw [z, wt_aZ] at w
          exact wt_ne ha w.symm
        · exact ne z (by rw [ars, List.map_append]; exact List.mem_append_right _ (List.mem_cons_of_mem _ (List.mem_cons_of_mem _ q)))
/-! ### promises -/
structure FlatC (K : PySem.W.Frag) (mg : Str → Option Value) (C fI : Addr) : Prop where
  oex : OexC K C
  called : NoAttr K C "called"
  at_ : NoAttr K C "at"
  ini : PySem.W.findIn K (.ref C) "__init__" = some (some (.ref fI))
  ty : PySem.W.typeIn K (.ref fI) = some (.type "function")
  mg : mg "Flat" = some (.ref C)
def flatD (k : Int) : List (Str × V) := [("at", .int k), ("called", .str "Flat")]
def spFlat (C : Addr) : Sp := fun vs H Q _ => ∃ (a : Addr) (k : Int), vs = [.ref a, .int k] ∧ H a = some (exo a C none) ∧
  ∀ (H' : Hp) (d : Addr), H' a = some (exo a C (some d)) → H' d = some (exd d (flatD k)) → H d = none → d ≠ a → But a H H' → Q .non H'
def spTraded (K : PySem.W.Frag) (C CF : Addr) : Sp := fun vs H Q E => ∃ (x : Addr) (k : Nat) (rs : List Rod) (l : Nat), vs = [.ref x, .int ((k + 1 : Nat) : Int)] ∧ RowAt K C H x rs ∧ k + 1 < rs.length ∧ RodsOk rs ∧ RowB l (ars rs) ∧ l ≤ 442863 ∧
  (trd rs k = none → ∀ (H' : Hp) (d : Addr), Same H H' → H' d = some (.xd (flatD ((k + 1 : Nat) : Int))) → E (.ref CF) (some d) H') ∧
  ∀ rs', trd rs k = some rs' → ∀ (H' : Hp) (y : Addr), Same H H' → RowAt K C H' y rs' → Q (.ref y) H'
section
variable {P : Program} {w : World} {K : PySem.W.Frag} {mg : Str → Option Value} {base : Heap} {f : Addr} {fd : FuncData} {C fI CF fF : Addr} {fdI fdF : FuncData}
theorem sc_flat : FnScope ["self", "at"] ["self", "at"] (defScope sFlat_init) := ⟨rfl, rfl, rfl, by decide +kernel, rfl, by decide +kernel, by decide +kernel⟩
theorem ok_flat (F : FunD K "__init__" "Flat.__init__" (defArgs sFlat_init) (defBody sFlat_init) (defScope sFlat_init) [] [] f fd) (R : FlatC K mg CF fF) : FnOk P w K mg base CX0 1 f fd ["self", "at"] (spFlat CF) := by
  refine F.ok sc_flat (fun vs H Q E h => ?_) (fun cdv A' outer s H vs Q E hr h => ?_)
  · obtain ⟨a, k, rfl, _⟩ := h
    rfl
  · obtain ⟨a, k, rfl, ha, q⟩ := h
    refine ⟨_, PSs.nox <| pss_cons (ps_ost (pv 0) pe_str) <| pss_one (ps_ost (pv 0) (pv 1)), ?_⟩
    refine ⟨_, rfl, a, CF, rfl, R.oex, R.called, .inl ⟨ha, fun d nd da => ?_⟩⟩
    refine ⟨_, rfl, _, rfl, a, CF, rfl, R.oex, R.at_, .inr ⟨d, [("called", .str "Flat")], upd_same, ?_, by decide, ?_⟩⟩
    · rw [upd_ne da, upd_same]
    · refine q _ d ?_ upd_same nd da fun b o n e => ?_
      · rw [upd_ne (fun z => da z.symm), upd_same]
      · have bd : b ≠ d := ne_of_none e nd
        rw [upd_ne bd, upd_ne n, upd_ne bd]
        exact e
theorem sc_traded : FnScope ["self", "at", "rods"] ["self", "at"] (defScope sRow_traded) := ⟨rfl, rfl, rfl, by decide +kernel, rfl, by decide +kernel, by decide +kernel⟩
theorem kb_row {vS : V} (F : FunD K "__init__" "Row.__init__" (defArgs sRow_init) (defBody sRow_init) (defScope sRow_init) [] [("start", vS)] fI fdI) :
    ∃ g, KBn K fdI ["self", "rods", "start"] 2 ["start"] g (fun vs zs => vs ++ zs) := by
  obtain ⟨mv, h⟩ := F.kbinds0 (ps := ["self", "rods", "start"]) 2 ["start"] [] (fun us _ ws => us ++ ws) (by intro z; cases z) (fun q h => by cases h) (fun r1 _ r3 => r1.append r3) (fun D doc pm an cdv ct us mv ws l1 l2 l3 => by
    match us, mv, ws, l1, l2, l3 with
    | [a, b], [], [c], _, _, _ => rfl)
  exact ⟨_, h⟩
theorem ok_traded {vS : V} (F : FunD K "traded" "Row.traded" (defArgs sRow_traded) (defBody sRow_traded) (defScope sRow_traded) [] [] f fd) (G : Tops mg) (R : RowC K mg C fI) (FI : FunD K "__init__" "Row.__init__" (defArgs sRow_init) (defBody sRow_init) (defScope sRow_init) [] [("start", vS)] fI fdI)
    (OI : FnOk P w K mg base CX0 3 fI fdI ["self", "rods", "start"] (spInit K C)) (Ct : Cal P w K mg base CX0 "rods_traded" 46 ["rods", "at"] (spTrd K)) (L : FlatC K mg CF fF) (OF : FnOk P w K mg base CX0 1 fF fdF ["self", "at"] (spFlat CF)) (bF : Binds K fdF ["self", "at"] []) :
    FnOk P w K mg base (L2.CX P w) 47 f fd ["self", "at"] (spTraded K C CF) := by
  refine F.ok sc_traded (fun vs H Q E h => ?_) (fun cdv A' outer s H vs Q E hr h => ?_)
  · obtain ⟨x, k, rs, l, rfl, _⟩ := h
    rfl
  · obtain ⟨x, k, rs, l, rfl, hx, hk, hok, hB, hl, q0, q1⟩ := h
    obtain ⟨gg, kb⟩ := kb_row FI
    have eL := LIM_eq
    refine ⟨_, pss_cons (ps_if (pt_not (pt_chain op_le op_lt pe_int (pv 1) (pe_callB call_len_seq (by rfl) G.len PySem.boot_len (pa_cons (pe_fld (pv 0) rfl) pa_nil)))) pss_never pss_nil) <|
      pss_cons (ps_set (i := 2) sc_traded.nd rfl (.inl rfl) (pe_cal Ct hr rfl pass0 (pa_cons (pe_fld (pv 0) rfl) (pa_cons (pe_op op_sub (pv 1) pe_int) pa_nil)))) <|
      pss_cons (ps_if (pt_cmpR op_isN (pv 2) pe_non (nomark _)) (pss_one (ps_raise rfl (takes_of rfl rfl rfl rfl) (pmk_oex L.oex L.ini L.ty OF (hr.mono (by decide)) bF .nil pass0 rfl L.mg (pa_cons (pv 1) pa_nil)))) pss_nil) <|
      pss_one (ps_ret (pe_makeK R.mak OI (hr.mono (by decide)) rfl R.mg kb pass0 (pa_cons (pv 2) pa_nil) (pk_cons (pe_fld (pv 0) rfl) pk_nil))), ?_⟩
    obtain ⟨dx, la, p, z, hi, hrs, hp⟩ := id hx
    obtain ⟨ps, hps, eps⟩ := id hrs
    have len : (ps.map V.ref).length = rs.length := by rw [List.length_map, eps.len]
    have c1 : (1 : Int) ≤ ((k + 1 : Nat) : Int) := by omega
    have c2 : ((k + 1 : Nat) : Int) < ((ps.map V.ref).length : Int) := by omega
    have up := hok.up
    refine ⟨_, rfl, _, _, rfl, rfl, _, rfl, ?_⟩
    refine ite2 (fun _ => ?_) (fun c => absurd (decide_eq_true c1) c)
    refine ⟨_, rfl, x, C, dx, _, _, rfl, hi, R.cls, R.lot, rfl, la, _, rfl, .inl hps, _, _, rfl, rfl, _, rfl, ?_⟩
    refine ite2 (fun c => ?_) (fun _ => ?_)
    · rw [decide_eq_true c2] at c
      cases c
    have ek : (((k + 1 : Nat) : Int) - 1) = ((k : Nat) : Int) := by omega
    refine ⟨_, rfl, x, C, dx, _, _, rfl, hi, R.cls, R.lot, rfl, _, rfl, _, _, rfl, rfl, ?_⟩
    refine ⟨la, k, rs, l + 4, congrArg (fun i => [V.ref la, V.int i]) ek, hrs, hk, by omega, fun z hz => hB.ba hz, by omega, fun hn H1 s1 => ?_, fun rs' hn H1 p1 s1 h1 => ?_⟩
    · refine ⟨_, rfl, rfl, _, rfl, ?_⟩
      refine ite2 (fun _ => ?_) (fun c => absurd (by decide) c)
      refine ⟨_, rfl, by show 1 ≤ 1000; decide, fun a na => ?_⟩
      refine ⟨a, _, rfl, upd_same, fun H2 d h1 h2 nd da bu => ⟨rfl, d, _, h1, h2, ?_, ?_⟩⟩
      · rw [upd_ne da] at nd
        exact nd
      · rw [upd_ne da] at nd
        refine q0 hn _ d (fun b o e => ?_) upd_same
        have e1 := s1 b o e
        have ba : b ≠ a := ne_of_none e1 na
        rw [upd_ne (ne_of_none e1 nd), del_ne ba]
        exact bu b o ba (by rw [upd_ne ba]; exact e1)
    · refine ⟨_, rfl, rfl, _, rfl, ?_⟩
      refine ite2 (fun c => absurd (of_decide_eq_true c) (fun z => by cases z)) (fun _ => ?_)
      have i1 := s1 _ _ hi
      refine ⟨_, rfl, _, rfl, x, C, dx, _, _, rfl, i1, R.cls, R.first, rfl, rfl, rfl, fun y dy ny ndy ne => ?_⟩
      have s2 : Same H1 (upd (upd H1 dy (.own y)) y (.ins C dy [])) := (same_new ndy).trans (same_new (by rw [upd_ne (fun z => ne z.symm)]; exact ny))
      refine ⟨y, dy, p1, p, rs', z, rfl, upd_same, h1.same s2, (trd_ok hok hn).1, (hp.same s1).same s2, fun H2 hy bu => ⟨rfl, ?_⟩⟩
      refine q1 rs' hn H2 y (fun b o e => ?_) hy
      have e1 := s1 b o e
      exact bu b o (ne_of_none e1 ny) (s2 b o e1)
end
end CT

/-! W12: folded; the law's box and draws. -/
namespace CT
open PySem PySem.Spec PyProof.Rows L2
/-- text * 0, text * 1 -/
theorem op_mul_str {X : Cx} : OpR X (binaryOp .Mult) (fun x y H Q => ∃ (z : Str) (n : Int), x = .str z ∧ y = .int n ∧ (n = 0 ∨ n = 1) ∧ Q (.str (if n = 0 then Str.empty else z)) H) := by
  intro pn s σ H x y v u Q I rx ry want
  obtain ⟨z, n, rfl, rfl, hn, q⟩ := want
  obtain ⟨t, rfl⟩ := rx
  obtain ⟨t', rfl⟩ := ry
  have e : Txt.mul z n = if n = 0 then Str.empty else z := by
    unfold Txt.mul
    rcases hn with rfl | rfl
    · rfl
    · rfl
  refine SB.mul ⟨?_, ?_, ?_⟩ fun t'' k => ⟨.str (Txt.mul z n), H, I.tok _, ⟨_, rfl⟩, by rw [e]; exact q⟩
  · rcases hn with rfl | rfl <;> decide
  · rcases hn with rfl | rfl
    · exact fun z => absurd (by decide) z
    · exact fun _ z => nomatch z
  · rcases hn with rfl | rfl
    · exact fun z => absurd (by decide) z
    · exact fun _ z => nomatch z
/-! ### the box -/
abbrev bx (c : Addr) (i n s t : Int) : List V := [.ref c, .int i, .int n, .int s, .int t]
def BoxAt (K : PySem.W.Frag) (H : Hp) (b : Addr) : Prop := ∃ (c : Addr) (ns : List Int) (i n s t : Int), H b = some (.lst (bx c i n s t)) ∧ SqL K H c (ns.map V.int) ∧ 0 ≤ i ∧ 0 ≤ s ∧ s < 2147483629
theorem bx_int {ns : List Int} {c : Addr} {i n s t : Int} : ns.map V.int ≠ bx c i n s t := fun e => by
  cases ns with
  | nil => cases e
  | cons a l => cases e
theorem bx_ref {ps : List Addr} {c : Addr} {i n s t : Int} : ps.map V.ref ≠ bx c i n s t := fun e => by
  match ps with
  | [] => cases e
  | [_] => cases e
  | _ :: _ :: _ => cases e
theorem bx_str {xs : List Str} {c : Addr} {i n s t : Int} : xs.map V.str ≠ bx c i n s t := fun e => by
  cases xs with
  | nil => cases e
  | cons a l => cases e
section
variable {K : PySem.W.Frag} {H H' : Hp} {b : Addr} {ys : List V}
theorem sqT_bl {a : Addr} {ts : List V} (h : SqT K H a ts) (hb : H b = some (.lst ys)) (s : But b H H') : SqT K H' a ts := by
  rcases h with (h | ⟨u, h⟩) | h
  · exact .inl (.inl (s _ _ (ne_of h hb (by intro z; cases z)) h))
  · exact .inl (.inr ⟨u, s _ _ (ne_of h hb (by intro z; cases z)) h⟩)
  · exact .inr h
theorem sqL_bl {a : Addr} {xs : List V} (h : SqL K H a xs) (hb : H b = some (.lst ys)) (d : xs ≠ ys) (s : But b H H') : SqL K H' a xs := by
  rcases h with (h | ⟨u, h⟩) | h
  · refine .inl (.inl (s _ _ (fun z => ?_) h))
    rw [z, hb] at h
    cases h
    exact d rfl
  · exact .inl (.inr ⟨u, s _ _ (ne_of h hb (by intro z; cases z)) h⟩)
  · exact .inr h
theorem BoxAt.same (h : BoxAt K H b) (s : Same H H') : BoxAt K H' b := by
  obtain ⟨c, ns, i, n, s0, t, h1, h2, h3⟩ := h
  exact ⟨c, ns, i, n, s0, t, s _ _ h1, s.seq h2, h3⟩
/-- with the cells at c -/
def BoxC (K : PySem.W.Frag) (H : Hp) (b c : Addr) : Prop := ∃ (ns : List Int) (i n s t : Int), H b = some (.lst (bx c i n s t)) ∧ SqL K H c (ns.map V.int) ∧ 0 ≤ i ∧ 0 ≤ s ∧ s < 2147483629
theorem BoxC.same {c : Addr} (h : BoxC K H b c) (s : Same H H') : BoxC K H' b c := by
  obtain ⟨ns, i, n, s0, t, h1, h2, h3⟩ := h
  exact ⟨ns, i, n, s0, t, s _ _ h1, s.seq h2, h3⟩
theorem BoxC.one {c d : Addr} (h : BoxC K H b c) (k : BoxC K H b d) : c = d := by
  obtain ⟨_, _, _, _, _, h1, _⟩ := h
  obtain ⟨_, _, _, _, _, k1, _⟩ := k
  rw [h1] at k1
  simp only [Option.some.injEq, HO.lst.injEq, List.cons.injEq, V.ref.injEq] at k1
  exact k1.1
/-- what a draw leaves -/
structure Drew (K : PySem.W.Frag) (b : Addr) (H H' : Hp) : Prop where
  ex : ∃ c, BoxC K H b c ∧ BoxC K H' b c
  but : But b H H'
theorem Drew.b0 (d : Drew K b H H') : BoxAt K H b := by
  obtain ⟨c, h, _⟩ := d.ex
  exact ⟨c, h⟩
theorem Drew.b1 (d : Drew K b H H') : BoxAt K H' b := by
  obtain ⟨c, _, h⟩ := d.ex
  exact ⟨c, h⟩
theorem Drew.same (h : BoxAt K H b) (s : Same H H') : Drew K b H H' := by
  obtain ⟨c, h⟩ := h
  exact ⟨⟨c, h, BoxC.same h s⟩, but_of s⟩
theorem Drew.trans {H2 : Hp} (s : Drew K b H H') (t : Drew K b H' H2) : Drew K b H H2 := by
  obtain ⟨c, s0, s1⟩ := s.ex
  obtain ⟨d, t0, t1⟩ := t.ex
  rw [← s1.one t0] at t1
  exact ⟨⟨c, s0, t1⟩, s.but.trans t.but⟩
theorem Drew.grow {H2 : Hp} (s : Drew K b H H') (t : Same H' H2) : Drew K b H H2 := s.trans (Drew.same s.b1 t)
/-- a thing that is new since H is written -/
theorem Drew.put {D : Addr} {o : HO} (d : Drew K b H H') (n : H D = none) : Drew K b H (upd H' D o) := by
  obtain ⟨c, h0, h1⟩ := d.ex
  refine ⟨⟨c, h0, ?_⟩, fun a u na e => ?_⟩
  · obtain ⟨ns0, _, _, _, _, a1, a2, _⟩ := h0
    obtain ⟨ns, i, m, s, t, b1, b2, b3⟩ := h1
    have bD : b ≠ D := ne_of_none a1 n
    refine ⟨ns0, i, m, s, t, by rw [upd_ne bD]; exact b1, ?_, b3⟩
    rcases a2 with (a2 | ⟨u, a2⟩) | a2
    · have cb : c ≠ b := fun z => by
        rw [z, a1] at a2
        exact bx_int (HO.lst.inj (Option.some.inj a2)).symm
      exact .inl (.inl (by rw [upd_ne (ne_of_none a2 n)]; exact d.but _ _ cb a2))
    · have cb : c ≠ b := ne_of a2 a1 (by intro z; cases z)
      exact .inl (.inr ⟨u, by rw [upd_ne (ne_of_none a2 n)]; exact d.but _ _ cb a2⟩)
    · exact .inr a2
  · rw [upd_ne (ne_of_none e n)]
    exact d.but a u na e
theorem Drew.tup {a : Addr} {ts : List V} (d : Drew K b H H') (h : SqT K H a ts) : SqT K H' a ts := by
  obtain ⟨_, _, _, _, _, _, h1, _⟩ := d.b0
  exact sqT_bl h h1 d.but
theorem Drew.refs {a : Addr} {ps : List Addr} (d : Drew K b H H') (h : SqL K H a (ps.map V.ref)) : SqL K H' a (ps.map V.ref) := by
  obtain ⟨_, _, _, _, _, _, h1, _⟩ := d.b0
  exact sqL_bl h h1 bx_ref d.but
theorem Drew.ints {a : Addr} {ps : List Int} (d : Drew K b H H') (h : SqL K H a (ps.map V.int)) : SqL K H' a (ps.map V.int) := by
  obtain ⟨_, _, _, _, _, _, h1, _⟩ := d.b0
  exact sqL_bl h h1 bx_int d.but
theorem Drew.strs {a : Addr} {ps : List Str} (d : Drew K b H H') (h : SqL K H a (ps.map V.str)) : SqL K H' a (ps.map V.str) := by
  obtain ⟨_, _, _, _, _, _, h1, _⟩ := d.b0
  exact sqL_bl h h1 bx_str d.but
theorem Drew.part {a : Addr} {q : Rat} (d : Drew K b H H') (h : PartAt K H a q) : PartAt K H' a q := d.tup h
theorem Drew.arrow {a : Addr} {z : Ar} (d : Drew K b H H') (h : ArAt K H a z) : ArAt K H' a z := by
  obtain ⟨p, q, h1, h2, h3⟩ := h
  exact ⟨p, q, d.tup h1, d.part h2, d.part h3⟩
theorem Drew.rod {a : Addr} {r : Rod} (d : Drew K b H H') (h : RodAt K H a r) : RodAt K H' a r := by
  obtain ⟨c, h1, h2⟩ := h
  exact ⟨c, d.tup h1, d.arrow h2⟩
theorem Drew.rods {a : Addr} {rs : List Rod} (d : Drew K b H H') (h : RodsAt K H a rs) : RodsAt K H' a rs := by
  obtain ⟨ps, h1, h2⟩ := h
  exact ⟨ps, d.refs h1, h2.imp fun _ _ q => d.rod q⟩
theorem Drew.pts {a : Addr} {ws : List Rat} (d : Drew K b H H') (h : PtsAt K H a ws) : PtsAt K H' a ws := by
  obtain ⟨ps, h1, h2⟩ := h
  exact ⟨ps, d.refs h1, h2.imp fun _ _ q => d.part q⟩
theorem Drew.row {C x : Addr} {rs : List Rod} (d : Drew K b H H') (h : RowAt K C H x rs) : RowAt K C H' x rs := by
  obtain ⟨dx, l, p, z, h1, h2, h3⟩ := h
  obtain ⟨_, _, _, _, _, _, hb, _⟩ := d.b0
  exact ⟨dx, l, p, z, d.but _ _ (ne_of h1 hb (by intro z; cases z)) h1, d.rods h2, d.arrow h3⟩
theorem Drew.at_ {a : Addr} {o : HO} (d : Drew K b H H') (h : H a = some o) (ne : a ≠ b) : H' a = some o := d.but _ _ ne h
theorem Drew.ne {a : Addr} (d : Drew K b H H') (h : H a = none) : a ≠ b := fun z => by
  obtain ⟨_, _, _, _, _, _, hb, _⟩ := d.b0
  rw [z, hb] at h
  cases h
theorem BoxAt.ne {a : Addr} (d : BoxAt K H b) (h : H a = none) : a ≠ b := (Drew.same d (fun _ _ e => e)).ne h
end
/-! ### promises -/
def spFolded (K : PySem.W.Frag) (C : Addr) : Sp := fun vs H Q _ => ∃ (x : Addr) (rs : List Rod) (l : Nat), vs = [.ref x] ∧ RowAt K C H x rs ∧ rs.length ≤ 8 ∧ RowB l (ars rs) ∧ l ≤ 442863 ∧ ∀ (H' : Hp) (p : Addr) (fs : List Rat), Same H H' → PtsAt K H' p fs → Folds (ars rs) fs → Q (.ref p) H'
def spBox (K : PySem.W.Frag) : Sp := fun vs H Q _ => ∃ (a : Addr) (ns : List Int), vs = [.ref a] ∧ SqL K H a (ns.map V.int) ∧ ∀ (H' : Hp) (b : Addr), Same H H' → BoxAt K H' b → H b = none → Q (.ref b) H'
def spDraw (K : PySem.W.Frag) : Sp := fun vs H Q _ => ∃ (b : Addr) (m : Int), vs = [.ref b, .int m] ∧ BoxAt K H b ∧ 0 < m ∧ m < 1000 ∧ ∀ (H' : Hp) (r : Int), Drew K b H H' → 0 ≤ r → r < m → Q (.int r) H'
def spPick (K : PySem.W.Frag) : Sp := fun vs H Q _ => ∃ (b l : Addr) (xs : List V), vs = [.ref b, .ref l] ∧ BoxAt K H b ∧ H l = some (.lst xs) ∧ l ≠ b ∧ xs ≠ [] ∧ xs.length < 1000 ∧ ∀ (H' : Hp) (x : V), Drew K b H H' → x ∈ xs → Q x H'
section
variable {P : Program} {w : World} {K : PySem.W.Frag} {mg : Str → Option Value} {base : Heap} {f : Addr} {fd : FuncData} {C fI fR : Addr} {fdR : FuncData}
theorem sc_folded : FnScope ["row"] ["row"] (defScope sfolded) := ⟨rfl, rfl, rfl, by decide +kernel, rfl, by decide +kernel, by decide +kernel⟩
theorem ok_folded (F : FnP K "folded" sfolded f fd) (R : RowC K mg C fI) (Cf : Cal P w K mg base CX0 "folds_of" 46 ["rods"] (spFof K)) (hm : Meth K C "rods" fR) (OR : FnOk P w K mg base CX0 1 fR fdR ["self"] (spRods K C)) (bR : Binds K fdR ["self"] []) : FnOk P w K mg base CX0 47 f fd ["row"] (spFolded K C) := by
  refine F.ok sc_folded (fun vs H Q E h => ?_) (fun cdv A' outer s H vs Q E hr h => ?_)
  · obtain ⟨x, rs, l, rfl, _⟩ := h
    rfl
  · obtain ⟨x, rs, l, rfl, hx, h8, hB, hl, k⟩ := h
    refine ⟨_, PSs.nox <| pss_one (ps_ret (pe_cal Cf hr rfl pass0 (pa_cons (pe_meth0 (pv 0) R.cls hm OR (hr.mono (by decide)) bR .nil pass0) pa_nil))), ?_⟩
    obtain ⟨dx, la, p, z, hi, hrs, hp⟩ := id hx
    refine ⟨_, rfl, x, dx, _, rfl, hi, rfl, x, rs, rfl, hx, h8, fun H1 p1 s1 h1 => ?_⟩
    exact ⟨p1, rs, l, rfl, h1, h8, hB, hl, fun H2 p2 fs s2 h2 hf => k H2 p2 fs (s1.trans s2) h2 hf⟩
theorem sc_box : FnScope ["_law_script"] ["_law_script"] (defScope s_law_box) := ⟨rfl, rfl, rfl, by decide +kernel, rfl, by decide +kernel, by decide +kernel⟩
theorem cut_ints {ns : List Int} {a b : Option Int} : ∃ ms : List Int, cutV (ns.map V.int) a b = ms.map V.int := by
  unfold cutV
  exact ⟨_, by rw [← List.map_drop, ← List.map_take]⟩
theorem ok_box (F : FnP K "_law_box" s_law_box f fd) (G : Tops mg) : FnOk P w K mg base CX0 1 f fd ["_law_script"] (spBox K) := by
  refine F.ok sc_box (fun vs H Q E h => ?_) (fun cdv A' outer s H vs Q E hr h => ?_)
  · obtain ⟨a, ns, rfl, _⟩ := h
    rfl
  · obtain ⟨a, ns, rfl, ha, k⟩ := h
    refine ⟨_, PSs.nox <| pss_one (ps_ret (pe_lst (pa_cons (pe_callTy call_list_of (by rfl) G.list (by decide +kernel) (pa_cons (pe_slice sl_list (pv 0) po_none (po_some pe_int)) pa_nil)) (pa_cons pe_int (pa_cons pe_int (pa_cons pe_int (pa_cons pe_int pa_nil))))))), ?_⟩
    refine ⟨_, rfl, _, rfl, _, _, rfl, ha, fun p np => ?_⟩
    obtain ⟨ms, em⟩ := cut_ints (ns := ns) (a := none) (b := some 63)
    refine ⟨p, _, rfl, .inl (.of upd_same), fun c nc => ?_⟩
    refine ⟨by show 5 ≤ sizeLine; rw [sizeLine_eq]; decide, fun b nb => ?_⟩
    have s1 := same_new (o := .lst (cutV (ns.map V.int) none (some 63))) np
    have s2 := same_new (o := .lst (cutV (ns.map V.int) none (some 63))) nc
    have s3 := same_new (o := .lst (bx c 0 0 53 0)) nb
    refine k _ b ((s1.trans s2).trans s3) ⟨c, ms, 0, 0, 53, 0, upd_same, ?_, by decide, by decide, by decide⟩ ?_
    · rw [← em]
      exact .of (s3 _ _ upd_same)
    · cases e : H b with
      | none => rfl
      | some o => rw [(s1.trans s2) _ _ e] at nb; cases nb
theorem sc_draw : FnScope ["_law_box_here", "_law_many", "_law_cell", "_law_got"] ["_law_box_here", "_law_many"] (defScope s_law_draw) := ⟨rfl, rfl, rfl, by decide +kernel, rfl, by decide +kernel, by decide +kernel⟩
theorem ok_draw (F : FnP K "_law_draw" s_law_draw f fd) (G : Tops mg) : FnOk P w K mg base CX0 1 f fd ["_law_box_here", "_law_many"] (spDraw K) := by
  refine F.ok sc_draw (fun vs H Q E h => ?_) (fun cdv A' outer s H vs Q E hr h => ?_)
  · obtain ⟨b, m, rfl, _⟩ := h
    rfl
  · obtain ⟨b, m, rfl, hb, m0, m1, k⟩ := h
    refine ⟨_, PSs.nox <| C8.pss_cut (ps_if (PW.pt (pw_and (pt_cmpR op_lt (pe_ix ix_list (pv 0) pe_int (fun _ _ => rfl)) pe_int (nomark _)) (pw_and1 (pt_cmpR op_lt (pe_ix ix_list (pv 0) pe_int (fun _ _ => rfl)) (pe_callB call_len_seq (by rfl) G.len PySem.boot_len (pa_cons (pe_ix ix_list (pv 0) pe_int (fun _ _ => rfl)) pa_nil)) (nomark _)))))
        (pss_cons (ps_set (i := 2) sc_draw.nd rfl (.inl rfl) (pe_ix ix_list (pe_ix ix_list (pv 0) pe_int (fun _ _ => rfl)) (pe_ix ix_list (pv 0) pe_int (fun _ _ => rfl)) (fun _ _ => rfl))) <|
        pss_cons (ps_asg (pe_op op_add (pe_ix ix_list (pv 0) pe_int (fun _ _ => rfl)) pe_int) (pg_sub (pv 0) pe_int set_list)) <|
        pss_cons (ps_asg (pe_callB (call_max2 rfl) (by rfl) G.max (by decide +kernel) (pa_cons pe_int (pa_cons (pe_op op_sub (pv 2) (pe_op op_pow pe_int pe_int)) pa_nil))) (pg_sub (pv 0) pe_int set_list)) <|
        pss_one (ps_asg (pe_op op_mod (pe_op op_add (pe_op op_add (pe_op op_mul (pe_ix ix_list (pv 0) pe_int (fun _ _ => rfl)) pe_int) (pe_op op_mul (pe_op op_mod (pv 2) pe_int) pe_int)) pe_int) pe_int) (pg_sub (pv 0) pe_int set_list))) pss_nil) <|
      pss_cons (ps_if (pt_cmpR op_gt (pe_ix ix_list (pv 0) pe_int (fun _ _ => rfl)) pe_int (nomark _))
        (pss_cons (ps_set (i := 3) sc_draw.nd rfl (.inl rfl) (pe_op op_mod (pe_ix ix_list (pv 0) pe_int (fun _ _ => rfl)) (pv 1))) <|
        pss_cons (ps_asg (pe_op op_fdivN (pe_ix ix_list (pv 0) pe_int (fun _ _ => rfl)) (pv 1)) (pg_sub (pv 0) pe_int set_list)) <|
        pss_one (ps_ret (pv 3))) pss_nil) <|
      pss_cons (ps_asg (pe_op op_add (pe_ix ix_list (pv 0) pe_int (fun _ _ => rfl)) pe_int) (pg_sub (pv 0) pe_int set_list)) <|
      pss_cons (ps_asg (pe_op op_mod (pe_op op_add (pe_op op_add (pe_op op_pow (pe_ix ix_list (pv 0) pe_int (fun _ _ => rfl)) pe_int) (pe_op op_mul pe_int (pe_ix ix_list (pv 0) pe_int (fun _ _ => rfl)))) pe_int) pe_int) (pg_sub (pv 0) pe_int set_list)) <|
      pss_one (ps_ret (pe_op op_mod (pe_op op_fdivN (pe_ix ix_list (pv 0) pe_int (fun _ _ => rfl)) pe_int) (pv 1))), ?_⟩
    have a2 : ∀ c i n s t, atI (bx c i n s t) 2 = some (.int n) := fun _ _ _ _ _ => atI_nat (j := 2) rfl
    have a3 : ∀ c i n s t, atI (bx c i n s t) 3 = some (.int s) := fun _ _ _ _ _ => atI_nat (j := 3) rfl
    have a4 : ∀ c i n s t, atI (bx c i n s t) 4 = some (.int t) := fun _ _ _ _ _ => atI_nat (j := 4) rfl
    have M0 : (0 : Int) < 2147483629 := by decide
    have ix1 : ixN 5 1 = some 1 := rfl
    have ix2 : ixN 5 2 = some 2 := rfl
    have ix3 : ixN 5 3 = some 3 := rfl
    have ix4 : ixN 5 4 = some 4 := rfl
    refine ⟨fun σ H' => ∃ x2 : Option V, σ = [some (.ref b), some (.int m), x2, none] ∧ Drew K b H H', ?_, ?_⟩
    · obtain ⟨c, ns, i, n, s, t, h1, h2, h3, h4, h5⟩ := id hb
      have done : (∃ x2 : Option V, ([some (V.ref b), some (V.int m), none, none] : List (Option V)) = [some (.ref b), some (.int m), x2, none] ∧ Drew K b H H) := ⟨none, rfl, Drew.same hb fun _ _ e => e⟩
      refine ⟨_, rfl, _, _, _, _, rfl, rfl, .of h1, a2 c i n s t, _, _, rfl, rfl, _, rfl, ?_⟩
      refine ite2 (fun _ => ?_) (fun _ => done)
      refine ⟨_, rfl, _, _, _, _, rfl, rfl, .of h1, at1, _, rfl, _, _, _, _, rfl, rfl, .of h1, at0, _, _, rfl, .inl h2, _, _, rfl, rfl, _, rfl, ?_⟩
      refine ite2 (fun z => ?_) (fun _ => done)
      have il := of_decide_eq_true z
      rw [List.length_map] at il
      have ii : i.toNat < ns.length := by omega
      have hc : (ns.map V.int)[i.toNat]? = some (.int ns[i.toNat]) := by rw [List.getElem?_map, List.getElem?_eq_getElem ii]; rfl
      generalize ns[i.toNat] = v at hc
      refine ⟨_, rfl, _, _, _, _, rfl, rfl, .of h1, at0, _, rfl, _, _, _, _, rfl, rfl, .of h1, at1, _, _, _, _, rfl, rfl, h2, at_of (j := i.toNat) (by omega) hc, ?_⟩
      refine ⟨_, rfl, _, _, _, _, rfl, rfl, .of h1, at1, _, _, rfl, rfl, _, rfl, b, _, 1, 1, rfl, rfl, h1, ix1, ?_⟩
      refine ⟨_, rfl, _, _, rfl, rfl, ⟨by decide, by decide, by decide⟩, _, _, rfl, rfl, _, _, rfl, _, rfl, b, _, 2, 2, rfl, rfl, upd_same, ix2, ?_⟩
      refine ⟨_, rfl, _, _, _, _, rfl, rfl, .of upd_same, a3 c _ _ s t, _, _, rfl, rfl, .inl ⟨by omega, by omega⟩, _, rfl, _, _, rfl, rfl, M0, ?_⟩
      have w0 := Int.emod_nonneg v (show (2147483629 : Int) ≠ 0 by decide)
      have w1 := Int.emod_lt_of_pos v M0
      refine ⟨_, _, rfl, rfl, .inl ⟨by omega, by omega⟩, _, _, rfl, rfl, _, _, rfl, rfl, _, _, rfl, rfl, M0, _, rfl, b, _, 3, 3, rfl, rfl, upd_same, ix3, ?_⟩
      refine ⟨_, rfl, ⟨c, ⟨ns, i, n, s, t, h1, h2, h3, h4, h5⟩, ns, _, _, _, t, upd_same, ?_, ?_, Int.emod_nonneg _ (by decide), Int.emod_lt_of_pos _ M0⟩, ?_⟩
      · exact sqL_bl (sqL_bl (sqL_bl h2 h1 bx_int but_upd) upd_same bx_int but_upd) upd_same bx_int but_upd
      · omega
      · exact (but_upd.trans but_upd).trans but_upd
    · rintro σ H1 ⟨x2, rfl, d⟩
      obtain ⟨c, ns, i, n, s, t, h1, h2, h3, h4, h5⟩ := id d.b1
      refine ⟨_, rfl, _, _, _, _, rfl, rfl, .of h1, a2 c i n s t, _, _, rfl, rfl, _, rfl, ?_⟩
      refine ite2 (fun z => ?_) (fun _ => ?_)
      · refine ⟨_, rfl, _, _, _, _, rfl, rfl, .of h1, a2 c i n s t, _, rfl, _, _, rfl, rfl, m0, ?_⟩
        refine ⟨_, rfl, _, _, _, _, rfl, rfl, .of h1, a2 c i n s t, _, rfl, _, _, rfl, rfl, ⟨by omega, by omega⟩, _, rfl, b, _, 2, 2, rfl, rfl, h1, ix2, ?_⟩
        refine ⟨_, rfl, ?_⟩
        exact k _ _ (d.trans ⟨⟨c, ⟨ns, i, n, s, t, h1, h2, h3, h4, h5⟩, ns, i, _, s, t, upd_same, sqL_bl h2 h1 bx_int but_upd, h3, h4, h5⟩, but_upd⟩) (Int.emod_nonneg _ (by omega)) (Int.emod_lt_of_pos _ m0)
      · refine ⟨_, rfl, _, _, _, _, rfl, rfl, .of h1, a4 c i n s t, _, _, rfl, rfl, _, rfl, b, _, 4, 4, rfl, rfl, h1, ix4, ?_⟩
        refine ⟨_, rfl, _, _, _, _, rfl, rfl, .of upd_same, a3 c i n s _, _, _, rfl, rfl, ⟨by decide, by decide, by omega⟩, ?_⟩
        refine ⟨_, rfl, _, _, _, _, rfl, rfl, .of upd_same, a4 c i n s _, _, _, rfl, rfl, .inl ⟨by decide, by decide⟩, _, _, rfl, rfl, _, _, rfl, rfl, _, _, rfl, rfl, M0, _, rfl, b, _, 3, 3, rfl, rfl, upd_same, ix3, ?_⟩
        refine ⟨_, rfl, _, _, _, _, rfl, rfl, .of upd_same, a3 c i n _ _, _, _, rfl, rfl, ⟨by decide, by decide⟩, _, rfl, _, _, rfl, rfl, m0, ?_⟩
        refine k _ _ (d.trans ⟨⟨c, ⟨ns, i, n, s, t, h1, h2, h3, h4, h5⟩, ns, i, n, _, _, upd_same, sqL_bl (sqL_bl h2 h1 bx_int but_upd) upd_same bx_int but_upd, h3, Int.emod_nonneg _ (by decide), Int.emod_lt_of_pos _ M0⟩, but_upd.trans but_upd⟩) (Int.emod_nonneg _ (by omega)) (Int.emod_lt_of_pos _ m0)
end
end CT

/-! W13: the law's small numbers, arrows. -/
namespace CT
open PySem PySem.Spec PyProof.Rows L2
/-! ### what is drawn -/
def SmP (q : Rat) : Prop := (∃ m : Int, q * 6 = (m : Rat)) ∧ q * q ≤ 36
structure SmA (z : Ar) : Prop where
  il : IL 6 z
  wt : wt z ≤ 81
theorem smP_of {o u : Int} (h1 : -6 ≤ o) (h2 : o ≤ 6) (hu : u = 1 ∨ u = 2 ∨ u = 3) : SmP (Rat.divInt o u) := by
  have e : Rat.divInt o u * (u : Rat) = (o : Rat) := by
    have hne : (u : Rat) ≠ 0 := by rcases hu with rfl | rfl | rfl <;> decide
    rw [Rat.divInt_eq_div]
    exact Rat.div_mul_cancel hne
  generalize Rat.divInt o u = q at e
  have o1 : ((-6 : Int) : Rat) ≤ (o : Rat) := Rat.intCast_le_intCast.mpr h1
  have o1 : (-6 : Rat) ≤ (o : Rat) := o1
  have o2 : (o : Rat) ≤ 6 := by exact_mod_cast h2
  have m0 : q ≤ 6 ∧ -6 ≤ q := by
    rcases hu with rfl | rfl | rfl
    · have e' : q * 1 = (o : Rat) := e
      grind
    · have e' : q * 2 = (o : Rat) := e
      grind
    · have e' : q * 3 = (o : Rat) := e
      grind
  refine ⟨?_, ?_⟩
  · rcases hu with rfl | rfl | rfl
    · have e' : q * 1 = (o : Rat) := e
      exact ⟨6 * o, by rw [Rat.intCast_mul]; show q * 6 = 6 * (o : Rat); grind⟩
    · have e' : q * 2 = (o : Rat) := e
      exact ⟨3 * o, by rw [Rat.intCast_mul]; show q * 6 = 3 * (o : Rat); grind⟩
    · have e' : q * 3 = (o : Rat) := e
      exact ⟨2 * o, by rw [Rat.intCast_mul]; show q * 6 = 2 * (o : Rat); grind⟩
  · have a1 : 0 ≤ 6 - q := by grind
    have a2 : 0 ≤ 6 + q := by grind
    have a3 := Rat.mul_nonneg a1 a2
    grind
theorem smA_of {x y : Rat} (hx : SmP x) (hy : SmP y) : SmA (x, y) := by
  obtain ⟨⟨m, em⟩, bx⟩ := hx
  obtain ⟨⟨n, en⟩, by_⟩ := hy
  refine ⟨⟨m, n, em, en⟩, ?_⟩
  show x * x + y * y ≤ 81
  grind
theorem smA_int {x y : Int} (h : x * x + y * y ≤ 81) : SmA ((x : Rat), (y : Rat)) := by
  refine ⟨⟨x * 6, y * 6, by rw [Rat.intCast_mul]; rfl, by rw [Rat.intCast_mul]; rfl⟩, ?_⟩
  show (x : Rat) * x + y * y ≤ 81
  exact_mod_cast h
theorem SmA.neg {z : Ar} (h : SmA z) : SmA (0 - z.1, 0 - z.2) := by
  obtain ⟨⟨m, n, e1, e2⟩, b⟩ := h
  refine ⟨⟨-m, -n, ?_, ?_⟩, ?_⟩
  · show (0 - z.1) * _ = _
    rw [Rat.intCast_neg, ← e1]
    grind
  · show (0 - z.2) * _ = _
    rw [Rat.intCast_neg, ← e2]
    grind
  · have e : CT.wt (0 - z.1, 0 - z.2) = CT.wt z := by
      unfold CT.wt
      grind
    rw [e]
    exact b
theorem part_int {K : PySem.W.Frag} {H : Hp} {p : Addr} {x : Int} (h : SqT K H p [.int x, .int 1]) : PartAt K H p (x : Rat) := by
  show SqT K H p [.int (x : Rat).num, .int ((x : Rat).den : Int)]
  rw [Rat.num_intCast, Rat.den_intCast]
  exact h
/-! ### promises -/
def spLow (K : PySem.W.Frag) : Sp := fun vs H Q _ => ∃ o u : Int, vs = [.int o, .int u] ∧ o.natAbs ≤ 1000 ∧ u ≠ 0 ∧ u.natAbs ≤ 1000 ∧ giveP K H (Rat.divInt o u) Q
def spSmall (K : PySem.W.Frag) : Sp := fun vs H Q _ => ∃ b : Addr, vs = [.ref b] ∧ BoxAt K H b ∧ ∀ (H' : Hp) (p : Addr) (q : Rat), Drew K b H H' → PartAt K H' p q → SmP q → Q (.ref p) H'
def spSpot (K : PySem.W.Frag) : Sp := fun vs H Q _ => ∃ b : Addr, vs = [.ref b] ∧ BoxAt K H b ∧ ∀ (H' : Hp) (p : Addr) (z : Ar), Drew K b H H' → ArAt K H' p z → SmA z → Q (.ref p) H'
def spArr (K : PySem.W.Frag) : Sp := fun vs H Q _ => ∃ b : Addr, vs = [.ref b] ∧ BoxAt K H b ∧ ∀ (H' : Hp) (p : Addr) (z : Ar), Drew K b H H' → ArAt K H' p z → SmA z → z ≠ aZ → Q (.ref p) H'
section
variable {P : Program} {w : World} {K : PySem.W.Frag} {mg : Str → Option Value} {base : Heap} {f : Addr} {fd : FuncData}
abbrev CalDraw (P : Program) (w : World) (K : PySem.W.Frag) (mg : Str → Option Value) (base : Heap) : Prop := Cal P w K mg base CX0 "_law_draw" 1 ["_law_box_here", "_law_many"] (spDraw K)
abbrev CalPick (P : Program) (w : World) (K : PySem.W.Frag) (mg : Str → Option Value) (base : Heap) : Prop := Cal P w K mg base CX0 "_law_of" 2 ["_law_box_here", "_law_some"] (spPick K)
theorem sc_pick : FnScope ["_law_box_here", "_law_some"] ["_law_box_here", "_law_some"] (defScope s_law_of) := ⟨rfl, rfl, rfl, by decide +kernel, rfl, by decide +kernel, by decide +kernel⟩
theorem ok_pick (F : FnP K "_law_of" s_law_of f fd) (G : Tops mg) (Cd : CalDraw P w K mg base) : FnOk P w K mg base CX0 2 f fd ["_law_box_here", "_law_some"] (spPick K) := by
  refine F.ok sc_pick (fun vs H Q E h => ?_) (fun cdv A' outer s H vs Q E hr h => ?_)
  · obtain ⟨b, l, xs, rfl, _⟩ := h
    rfl
  · obtain ⟨b, l, xs, rfl, hb, hl, ne, n0, n1, k⟩ := h
    refine ⟨_, PSs.nox <| pss_one (ps_ret (pe_ix ix_list (pv 1) (pe_cal Cd hr rfl pass0 (pa_cons (pv 0) (pa_cons (pe_callB call_len_seq (by rfl) G.len PySem.boot_len (pa_cons (pv 1) pa_nil)) pa_nil))) (fun _ _ => rfl))), ?_⟩
    have pos : 0 < xs.length := List.length_pos_iff.mpr n0
    refine ⟨_, rfl, _, rfl, _, rfl, l, xs, rfl, .inl (.of hl), b, _, rfl, hb, by omega, by omega, fun H1 r d r0 r1 => ?_⟩
    have hr1 : r.toNat < xs.length := by omega
    exact ⟨l, xs, r, xs[r.toNat], rfl, rfl, .of (d.at_ hl ne), at_of (j := r.toNat) (by omega) (List.getElem?_eq_getElem hr1), k H1 _ d (List.getElem_mem hr1)⟩
theorem sc_low : FnScope ["_law_above", "_law_beneath", "_law_one", "_law_other", "_law_side"] ["_law_above", "_law_beneath"] (defScope s_law_low) := ⟨rfl, rfl, rfl, by decide +kernel, rfl, by decide +kernel, by decide +kernel⟩
theorem ok_low (F : FnP K "_law_low" s_law_low f fd) (G : Tops mg) : FnOk P w K mg base CX0 1 f fd ["_law_above", "_law_beneath"] (spLow K) := by
  refine F.ok sc_low (fun vs H Q E h => ?_) (fun cdv A' outer s H vs Q E hr h => ?_)
  · obtain ⟨o, u, rfl, _⟩ := h
    rfl
  · obtain ⟨o, u, rfl, ho, hu, hb, k⟩ := h
    refine ⟨_, PSs.nox <| pss_cons (ps_par (i := 2) (j := 3) (by rfl) sc_low.nd rfl rfl (by decide) rfl rfl (pa_cons (pe_callB call_abs (by rfl) G.abs (by decide +kernel) (pa_cons (pv 0) pa_nil)) (pa_cons (pe_callB call_abs (by rfl) G.abs (by decide +kernel) (pa_cons (pv 1) pa_nil)) pa_nil)) (by rfl)) <|
      pss_cons (ps_while PassesOwn.never (pt_cmpR op_ne (pv 3) pe_int (nomark _)) (pss_one (ps_par (i := 2) (j := 3) (by rfl) sc_low.nd rfl rfl (by decide) rfl rfl (pa_cons (pv 3) (pa_cons (pe_op op_mod (pv 2) (pv 3)) pa_nil)) (by rfl)))) <|
      pss_cons (ps_set (i := 4) sc_low.nd rfl (.inl rfl) (pe_ifExp (pt_cmpR op_gt (pv 1) pe_int (nomark _)) pe_int (pe_un un_neg pe_int))) <|
      pss_one (ps_ret (pe_tup (pa_cons (pe_op op_fdivN (pe_op op_mul (pv 4) (pv 0)) (pv 2)) (pa_cons (pe_op op_fdivN (pe_op op_mul (pv 4) (pv 1)) (pv 2)) pa_nil)))), ?_⟩
    refine ⟨_, rfl, _, rfl, _, rfl, _, rfl, _, _, rfl, ?_⟩
    refine while_by (fun σ H' => ∃ x y : Int, σ = [some (.int o), some (.int u), some (.int x), some (.int y), none] ∧ H' = H ∧ 0 ≤ x ∧ 0 ≤ y ∧ Int.gcd x y = Int.gcd o u) (fun σ _ => match σ with | [_, _, _, some (.int y), _] => y.toNat | _ => 0) ⟨_, _, rfl, rfl, abs_nn _, abs_nn _, gcd_abs⟩ ?_ ?_
    · rintro σ H' ⟨x, y, rfl, rfl, hx, hy, hg⟩
      refine ⟨_, rfl, rfl, _, rfl, ?_⟩
      by_cases hy0 : y = 0
      · subst hy0
        refine ite2 (fun z => absurd z (by decide)) (fun _ => ?_)
        have ex : x = ((Int.gcd o u : Nat) : Int) := by
          rw [← hg, Int.gcd_zero_right]
          omega
        have g1 : (Int.gcd o u : Nat) ≤ 1000 := Nat.le_trans (Nat.le_of_dvd (by omega) (Int.gcd_dvd_natAbs_right o u)) hb
        have hsg : u.sign = 1 ∨ u.sign = -1 := by
          rcases Int.lt_or_gt_of_ne hu with c | c
          · exact .inr (Int.sign_eq_neg_one_of_neg c)
          · exact .inl (Int.sign_eq_one_of_pos c)
        have hl := low_ne (o := o) hu
        have hj : ((Int.gcd o u : Nat) : Int) ≠ 0 ∧ ((Int.gcd o u : Nat) : Int).natAbs < 1073741824 := ⟨hl, by omega⟩
        have em : ∀ z : Int, (u.sign = 1 ∨ u.sign = -1) → (-(2 ^ 64) < u.sign ∧ u.sign < 2 ^ 64) := fun z h => by rcases h with e | e <;> rw [e] <;> decide
        have cm : -(2 ^ 64) < u.sign ∧ u.sign < 2 ^ 64 := em 0 hsg
        rw [ex]
        refine ⟨_, rfl, _, _, rfl, rfl, _, rfl, ?_⟩
        have fin : ∀ (p : Addr), H' p = none → Q (.ref p) (upd H' p (.tup [.int ((u.sign * o).fdiv ((Int.gcd o u : Nat) : Int)), .int ((u.sign * u).fdiv ((Int.gcd o u : Nat) : Int))])) := fun p hp => by
          refine k _ p (same_new hp) ?_
          rw [num_of hu, den_of hu]
          exact tup_new
        have rd : ∀ sg : Int, sg = u.sign → (∀ (p : Addr), H' p = none → Q (.ref p) (upd H' p (.tup [.int ((sg * o).fdiv ((Int.gcd o u : Nat) : Int)), .int ((sg * u).fdiv ((Int.gcd o u : Nat) : Int))]))) := fun sg e => by
          rw [e]
          exact fin
        refine ite2 (fun z => ?_) (fun z => ?_)
        · have e1 := Int.sign_eq_one_of_pos (of_decide_eq_true z)
          refine ⟨_, rfl, _, rfl, _, _, rfl, rfl, .inl ⟨by decide, by decide⟩, _, rfl, _, _, rfl, rfl, hj, _, rfl, _, rfl, _, _, rfl, rfl, .inl ⟨by decide, by decide⟩, _, rfl, _, _, rfl, rfl, hj, two_le, ?_⟩
          exact rd 1 e1.symm
        · have hn : ¬ 0 < u := fun q => z (decide_eq_true q)
          have e1 := Int.sign_eq_neg_one_of_neg (show u < 0 by omega)
          refine ⟨_, rfl, _, rfl, _, rfl, _, _, rfl, rfl, .inl ⟨by decide, by decide⟩, _, rfl, _, _, rfl, rfl, hj, _, rfl, _, rfl, _, _, rfl, rfl, .inl ⟨by decide, by decide⟩, _, rfl, _, _, rfl, rfl, hj, two_le, ?_⟩
          exact rd (-1) e1.symm
      · refine ite2 (fun _ => ?_) (fun z => absurd (by rw [decide_eq_false (fun q => hy0 (V.int.inj q))]; rfl) z)
        refine ⟨_, rfl, _, rfl, _, rfl, _, _, rfl, rfl, by omega, _, _, rfl, ?_⟩
        have h1 := Int.emod_nonneg x hy0
        have h2 := Int.emod_lt_of_pos x (show 0 < y by omega)
        refine ⟨⟨y, x % y, rfl, rfl, by omega, h1, ?_⟩, ?_⟩
        · rw [← hg, Int.gcd_comm x y, gcd_mod hx hy]
        · show (x % y).toNat < y.toNat
          omega
    · rintro σ H' Q1 Q2 hQ ⟨v, e, hs, k, ek, q⟩
      exact ⟨v, e, hs, k, ek, hQ _ _ q⟩
theorem sc_small : FnScope ["_law_box_here"] ["_law_box_here"] (defScope s_law_small) := ⟨rfl, rfl, rfl, by decide +kernel, rfl, by decide +kernel, by decide +kernel⟩
theorem ok_small (F : FnP K "_law_small" s_law_small f fd) (Cl : Cal P w K mg base CX0 "_law_low" 1 ["_law_above", "_law_beneath"] (spLow K)) (Cd : CalDraw P w K mg base) (Cp : CalPick P w K mg base) : FnOk P w K mg base CX0 3 f fd ["_law_box_here"] (spSmall K) := by
  refine F.ok sc_small (fun vs H Q E h => ?_) (fun cdv A' outer s H vs Q E hr h => ?_)
  · obtain ⟨b, rfl, _⟩ := h
    rfl
  · obtain ⟨b, rfl, hb, k⟩ := h
    have hr1 : Room 1 _ := hr.mono (by decide)
    refine ⟨_, PSs.nox <| pss_one (ps_ret (pe_cal Cl hr1 rfl pass0 (pa_cons (pe_op op_sub (pe_cal Cd hr1 rfl pass0 (pa_cons (pv 0) (pa_cons pe_int pa_nil))) pe_int) (pa_cons (pe_cal Cp hr rfl pass0 (pa_cons (pv 0) (pa_cons (pe_lst (pa_cons pe_int (pa_cons pe_int (pa_cons pe_int (pa_cons pe_int (pa_cons pe_int pa_nil)))))) pa_nil))) pa_nil)))), ?_⟩
    refine ⟨_, rfl, b, 13, rfl, hb, by decide, by decide, fun H1 r d r0 r1 => ?_⟩
    refine ⟨_, _, rfl, rfl, _, rfl, by show 5 ≤ sizeLine; rw [sizeLine_eq]; decide, fun l nl => ?_⟩
    have sl := same_new (o := .lst [.int 1, .int 1, .int 1, .int 2, .int 3]) nl
    have dl := d.grow sl
    refine ⟨b, l, _, rfl, dl.b1, upd_same, d.b1.ne nl, (by intro z; cases z), by show 5 < 1000; decide, fun H2 x d2 hx => ?_⟩
    have ux : ∃ u : Int, x = .int u ∧ (u = 1 ∨ u = 2 ∨ u = 3) := by
      simp only [List.mem_cons, List.not_mem_nil, or_false] at hx
      rcases hx with rfl | rfl | rfl | rfl | rfl
      · exact ⟨1, rfl, .inl rfl⟩
      · exact ⟨1, rfl, .inl rfl⟩
      · exact ⟨1, rfl, .inl rfl⟩
      · exact ⟨2, rfl, .inr (.inl rfl)⟩
      · exact ⟨3, rfl, .inr (.inr rfl)⟩
    obtain ⟨u, rfl, hu⟩ := ux
    refine ⟨r - 6, u, rfl, by omega, by omega, by omega, fun H3 p s3 h3 => ?_⟩
    exact k H3 p _ ((dl.trans d2).grow s3) h3 (smP_of (by omega) (by omega) hu)
theorem sc_spot : FnScope ["_law_box_here"] ["_law_box_here"] (defScope s_law_spot) := ⟨rfl, rfl, rfl, by decide +kernel, rfl, by decide +kernel, by decide +kernel⟩
theorem ok_spot (F : FnP K "_law_spot" s_law_spot f fd) (Cs : Cal P w K mg base CX0 "_law_small" 3 ["_law_box_here"] (spSmall K)) : FnOk P w K mg base CX0 4 f fd ["_law_box_here"] (spSpot K) := by
  refine F.ok sc_spot (fun vs H Q E h => ?_) (fun cdv A' outer s H vs Q E hr h => ?_)
  · obtain ⟨b, rfl, _⟩ := h
    rfl
  · obtain ⟨b, rfl, hb, k⟩ := h
    refine ⟨_, PSs.nox <| pss_one (ps_ret (pe_tup (pa_cons (pe_cal Cs hr rfl pass0 (pa_cons (pv 0) pa_nil)) (pa_cons (pe_cal Cs hr rfl pass0 (pa_cons (pv 0) pa_nil)) pa_nil)))), ?_⟩
    refine ⟨_, rfl, b, rfl, hb, fun H1 p1 q1 d1 h1 m1 => ?_⟩
    refine ⟨_, rfl, b, rfl, d1.b1, fun H2 p2 q2 d2 h2 m2 => ⟨two_le, fun p hp => ?_⟩⟩
    exact k _ p (q1, q2) ((d1.trans d2).grow (same_new hp)) (ar_new (z := (q1, q2)) hp (d2.part h1) h2) (smA_of m1 m2)
theorem sc_arr : FnScope ["_law_box_here", "_law_x", "_law_y", "_law_found"] ["_law_box_here"] (defScope s_law_arrow) := ⟨rfl, rfl, rfl, by decide +kernel, rfl, by decide +kernel, by decide +kernel⟩
theorem ok_arr (F : FnP K "_law_arrow" s_law_arrow f fd) (Cd : CalDraw P w K mg base) (Cp : CalPick P w K mg base) (Cs : Cal P w K mg base CX0 "_law_spot" 4 ["_law_box_here"] (spSpot K)) : FnOk P w K mg base CX0 5 f fd ["_law_box_here"] (spArr K) := by
  refine F.ok sc_arr (fun vs H Q E h => ?_) (fun cdv A' outer s H vs Q E hr h => ?_)
  · obtain ⟨b, rfl, _⟩ := h
    rfl
  · obtain ⟨b, rfl, hb, k⟩ := h
    have hr1 : Room 1 _ := hr.mono (by decide)
    have hr2 : Room 2 _ := hr.mono (by decide)
    refine ⟨_, PSs.nox <| pss_cons (ps_if (pt_cmpR op_eq (pe_cal Cd hr1 rfl pass0 (pa_cons (pv 0) (pa_cons pe_int pa_nil))) pe_int (nomark _))
        (pss_cons (ps_asg (pe_cal Cp hr2 rfl pass0 (pa_cons (pv 0) (pa_cons (pe_lst (pa_cons (pe_tup (pa_cons pe_int (pa_cons pe_int pa_nil))) (pa_cons (pe_tup (pa_cons pe_int (pa_cons pe_int pa_nil))) (pa_cons (pe_tup (pa_cons pe_int (pa_cons pe_int pa_nil))) (pa_cons (pe_tup (pa_cons pe_int (pa_cons pe_int pa_nil))) (pa_cons (pe_tup (pa_cons (pe_un un_neg pe_int) (pa_cons pe_int pa_nil))) (pa_cons (pe_tup (pa_cons (pe_un un_neg pe_int) (pa_cons pe_int pa_nil))) (pa_cons (pe_tup (pa_cons pe_int (pa_cons (pe_un un_neg pe_int) pa_nil))) (pa_cons (pe_tup (pa_cons pe_int (pa_cons (pe_un un_neg pe_int) pa_nil))) (pa_cons (pe_tup (pa_cons pe_int (pa_cons pe_int pa_nil))) (pa_cons (pe_tup (pa_cons (pe_un un_neg pe_int) (pa_cons pe_int pa_nil))) pa_nil))))))))))) pa_nil))) (pg_tup (by rfl) (pgs_cons (pg_name (i := 1) sc_arr.nd rfl (.inl rfl)) (pgs_cons (pg_name (i := 2) sc_arr.nd rfl (.inl rfl)) pgs_nil)))) <|
        pss_one (ps_ret (pe_tup (pa_cons (pe_tup (pa_cons (pv 1) (pa_cons pe_int pa_nil))) (pa_cons (pe_tup (pa_cons (pv 2) (pa_cons pe_int pa_nil))) pa_nil))))) pss_nil) <|
      pss_cons (ps_set (i := 3) sc_arr.nd rfl (.inl rfl) (pe_cal Cs hr rfl pass0 (pa_cons (pv 0) pa_nil))) <|
      pss_one (ps_ret (pe_ifExp (pt_cmpR (op_neD hr.units) (pv 3) (pe_tup (pa_cons (pe_tup (pa_cons pe_int (pa_cons pe_int pa_nil))) (pa_cons (pe_tup (pa_cons pe_int (pa_cons pe_int pa_nil))) pa_nil))) (nomark _)) (pv 3)
        (pe_tup (pa_cons (pe_tup (pa_cons pe_int (pa_cons pe_int pa_nil))) (pa_cons (pe_tup (pa_cons pe_int (pa_cons pe_int pa_nil))) pa_nil))))), ?_⟩
    refine ⟨_, rfl, b, 3, rfl, hb, by decide, by decide, fun H0 r d0 r0 r1 => ?_⟩
    refine ⟨rfl, _, rfl, ?_⟩
    refine ite2 (fun _ => ?_) (fun _ => ?_)
    · refine ⟨_, rfl, ?_⟩
      refine ⟨two_le, fun t0 n0 => ?_⟩
      have s0 := same_new (o := .tup [V.int (3), V.int (4)]) n0
      refine ⟨two_le, fun t1 n1 => ?_⟩
      have s1 := same_new (o := .tup [V.int (4), V.int (3)]) n1
      refine ⟨two_le, fun t2 n2 => ?_⟩
      have s2 := same_new (o := .tup [V.int (5), V.int (0)]) n2
      refine ⟨two_le, fun t3 n3 => ?_⟩
      have s3 := same_new (o := .tup [V.int (0), V.int (5)]) n3
      refine ⟨_, rfl, two_le, fun t4 n4 => ?_⟩
      have s4 := same_new (o := .tup [V.int (-3), V.int (4)]) n4
      refine ⟨_, rfl, two_le, fun t5 n5 => ?_⟩
      have s5 := same_new (o := .tup [V.int (-5), V.int (0)]) n5
      refine ⟨_, rfl, two_le, fun t6 n6 => ?_⟩
      have s6 := same_new (o := .tup [V.int (4), V.int (-3)]) n6
      refine ⟨_, rfl, two_le, fun t7 n7 => ?_⟩
      have s7 := same_new (o := .tup [V.int (0), V.int (-5)]) n7
      refine ⟨two_le, fun t8 n8 => ?_⟩
      have s8 := same_new (o := .tup [V.int (1), V.int (0)]) n8
      refine ⟨_, rfl, two_le, fun t9 n9 => ?_⟩
      have s9 := same_new (o := .tup [V.int (-1), V.int (0)]) n9
      refine ⟨by show 10 ≤ sizeLine; rw [sizeLine_eq]; decide, fun l nl => ?_⟩
      have sl := same_new (o := .lst [.ref t0, .ref t1, .ref t2, .ref t3, .ref t4, .ref t5, .ref t6, .ref t7, .ref t8, .ref t9]) nl
      have dS := d0.grow ((((((((((s0).trans s1).trans s2).trans s3).trans s4).trans s5).trans s6).trans s7).trans s8).trans s9)
      have dl := dS.grow sl
      refine ⟨b, l, _, rfl, dl.b1, upd_same, dS.b1.ne nl, (by intro z; cases z), by show 10 < 1000; decide, fun H2 x d2 hx => ?_⟩
      have ux : ∃ (t : Addr) (x1 y1 : Int), x = .ref t ∧ SqT K H2 t [.int x1, .int y1] ∧ x1 * x1 + y1 * y1 ≤ 81 ∧ x1 * x1 + y1 * y1 ≠ 0 := by
        simp only [List.mem_cons, List.not_mem_nil, or_false] at hx
        rcases hx with rfl | rfl | rfl | rfl | rfl | rfl | rfl | rfl | rfl | rfl
        · exact ⟨t0, 3, 4, rfl, d2.tup (same_tup (s1.trans (s2.trans (s3.trans (s4.trans (s5.trans (s6.trans (s7.trans (s8.trans (s9.trans sl))))))))) tup_new), by decide, by decide⟩
        · exact ⟨t1, 4, 3, rfl, d2.tup (same_tup (s2.trans (s3.trans (s4.trans (s5.trans (s6.trans (s7.trans (s8.trans (s9.trans sl)))))))) tup_new), by decide, by decide⟩
        · exact ⟨t2, 5, 0, rfl, d2.tup (same_tup (s3.trans (s4.trans (s5.trans (s6.trans (s7.trans (s8.trans (s9.trans sl))))))) tup_new), by decide, by decide⟩
        · exact ⟨t3, 0, 5, rfl, d2.tup (same_tup (s4.trans (s5.trans (s6.trans (s7.trans (s8.trans (s9.trans sl)))))) tup_new), by decide, by decide⟩
        · exact ⟨t4, -3, 4, rfl, d2.tup (same_tup (s5.trans (s6.trans (s7.trans (s8.trans (s9.trans sl))))) tup_new), by decide, by decide⟩
        · exact ⟨t5, -5, 0, rfl, d2.tup (same_tup (s6.trans (s7.trans (s8.trans (s9.trans sl)))) tup_new), by decide, by decide⟩
        · exact ⟨t6, 4, -3, rfl, d2.tup (same_tup (s7.trans (s8.trans (s9.trans sl))) tup_new), by decide, by decide⟩
        · exact ⟨t7, 0, -5, rfl, d2.tup (same_tup (s8.trans (s9.trans sl)) tup_new), by decide, by decide⟩
        · exact ⟨t8, 1, 0, rfl, d2.tup (same_tup (s9.trans sl) tup_new), by decide, by decide⟩
        · exact ⟨t9, -1, 0, rfl, d2.tup (same_tup sl tup_new), by decide, by decide⟩
      obtain ⟨t, x1, y1, rfl, ht, b1, b2⟩ := ux
      refine ⟨t, _, rfl, ht, rfl, _, _, rfl, _, _, rfl, rfl, ?_⟩
      refine ⟨_, rfl, two_le, fun p1 m1 => ⟨_, rfl, two_le, fun p2 m2 => ⟨two_le, fun p mp => ?_⟩⟩⟩
      have u1 := same_new (o := .tup [V.int x1, V.int 1]) m1
      have u2 := same_new (o := .tup [V.int y1, V.int 1]) m2
      refine k _ p ((x1 : Rat), (y1 : Rat)) (((dl.trans d2).grow (u1.trans u2)).grow (same_new mp)) (ar_new (z := ((x1 : Rat), (y1 : Rat))) mp (part_int (same_tup u2 tup_new)) (part_int tup_new)) (smA_int b1) (fun z => b2 ?_)
      have z1 : (x1 : Rat) = 0 := congrArg Prod.fst z
      have z2 : (y1 : Rat) = 0 := congrArg Prod.snd z
      have w1 : x1 = 0 := by exact_mod_cast z1
      have w2 : y1 = 0 := by exact_mod_cast z2
      rw [w1, w2]
      rfl
    · refine ⟨_, rfl, b, rfl, d0.b1, fun H1 p1 z d1 h1 sm1 => ?_⟩
      refine ⟨_, rfl, two_le, fun t1 n1 => ⟨two_le, fun t2 n2 => ⟨two_le, fun t n => ?_⟩⟩⟩
      have u1 := same_new (o := .tup [V.int 0, V.int 1]) n1
      have u2 := same_new (o := .tup [V.int 0, V.int 1]) n2
      have u3 := same_new (o := .tup [V.ref t1, V.ref t2]) n
      have hZ : ArAt K _ t aZ := ar_new (z := aZ) n (same_tup u2 tup_new) tup_new
      have uu := (u1.trans u2).trans u3
      refine ⟨_, _, (h1.same uu).dp, hZ.dp, sh_dA _, sh_dA _, _, rfl, ?_⟩
      rw [eqv_dA]
      refine ite2 (fun c => ?_) (fun _ => ?_)
      · refine ⟨_, rfl, k _ p1 z ((d0.trans d1).grow uu) (h1.same uu) sm1 fun e => ?_⟩
        rw [e] at c
        simp at c
      · refine ⟨two_le, fun v1 m1 => ⟨two_le, fun v2 m2 => ⟨two_le, fun v m => ?_⟩⟩⟩
        have w1 := same_new (o := .tup [V.int 2, V.int 1]) m1
        have w2 := same_new (o := .tup [V.int 0, V.int 1]) m2
        refine k _ v (((2 : Int) : Rat), ((0 : Int) : Rat)) (((d0.trans d1).grow uu).grow ((w1.trans w2).trans (same_new m))) (ar_new (z := (((2 : Int) : Rat), ((0 : Int) : Rat))) m (part_int (same_tup w2 tup_new)) (part_int tup_new)) (smA_int (by decide)) (fun z => ?_)
        have z1 : ((2 : Int) : Rat) = 0 := congrArg Prod.fst z
        exact absurd z1 (by decide)
end
end CT

/-! W14: the law's names. -/
namespace CT
open PySem PySem.Spec PyProof.Rows L2
/-! ### names -/
def sgn (i : Nat) : Str := ⟨#[97 + i]⟩
def nmA (i : Nat) (tail : Str) (odd : Nat) : Nat → Str
  | 0 => sgn i ++ tail
  | 1 => tail ++ sgn i
  | _ => sgn i ++ (if odd = 0 then Str.empty else tail)
theorem cps_app (a b : Str) : (a ++ b).cps = a.cps ++ b.cps := rfl
theorem letters_list : letters.cps.toList = (List.range 26).map (97 + ·) := by decide
def TailOk (t : Str) : Prop := t.cps.size ≤ 5 ∧ ∀ c ∈ t.cps.toList, c ∈ letters.cps.toList
theorem sgn_in {i : Nat} (h : i < 26) : 97 + i ∈ letters.cps.toList := by
  rw [letters_list]
  exact List.mem_map.mpr ⟨i, List.mem_range.mpr h, rfl⟩
theorem nm_app {a b : Str} (h0 : 1 ≤ a.cps.size + b.cps.size) (h6 : a.cps.size + b.cps.size ≤ 6) (ha : ∀ c ∈ a.cps.toList, c ∈ letters.cps.toList) (hb : ∀ c ∈ b.cps.toList, c ∈ letters.cps.toList) : Nm (a ++ b) := by
  refine ⟨?_, ?_, fun c hc => ?_⟩
  · rw [cps_app, Array.size_append]
    exact h0
  · rw [cps_app, Array.size_append]
    exact h6
  · rw [cps_app, Array.toList_append] at hc
    exact (List.mem_append.mp hc).elim (ha c) (hb c)
theorem sgn_all {i : Nat} (h : i < 26) : ∀ c ∈ (sgn i).cps.toList, c ∈ letters.cps.toList := fun c hc => by
  have e : c = 97 + i := by
    unfold sgn at hc
    simpa using hc
  rw [e]
  exact sgn_in h
theorem sgn_size (i : Nat) : (sgn i).cps.size = 1 := rfl
theorem nmA_ok {i odd p : Nat} {t : Str} (hi : i < 26) (ht : TailOk t) : Nm (nmA i t odd p) := by
  have s1 := sgn_size i
  have t1 := ht.1
  match p with
  | 0 => exact nm_app (by omega) (by omega) (sgn_all hi) ht.2
  | 1 => exact nm_app (by omega) (by omega) ht.2 (sgn_all hi)
  | p + 2 =>
    show Nm (sgn i ++ (if odd = 0 then Str.empty else t))
    by_cases h : odd = 0
    · rw [if_pos h]
      exact nm_app (by omega) (by rw [s1]; decide) (sgn_all hi) (fun c hc => by cases hc)
    · rw [if_neg h]
      exact nm_app (by omega) (by omega) (sgn_all hi) ht.2
theorem head_eq {i j : Nat} {a b : Str} (h : sgn i ++ a = sgn j ++ b) : i = j := by
  have e := congrArg (fun s : Str => s.cps.toList.head?) h
  simp only [cps_app, Array.toList_append] at e
  unfold sgn at e
  simp at e
  omega
theorem nmA_inj {i j o1 o2 p : Nat} {t : Str} (h : nmA i t o1 p = nmA j t o2 p) : i = j := by
  match p with
  | 0 => exact head_eq h
  | p + 2 => exact head_eq h
  | 1 =>
    have h' : t ++ sgn i = t ++ sgn j := h
    have e := congrArg (fun s : Str => s.cps.toList.getLast?) h'
    simp only [cps_app, Array.toList_append] at e
    unfold sgn at e
    simp at e
    omega
def nmL (s st : Nat) (t : Str) (p n : Nat) : List Str := (List.range n).map fun k => nmA ((s + st * k) % 26) t (k % 2) p
theorem nmL_ok {s st p n : Nat} {t : Str} (ht : TailOk t) : ∀ x ∈ nmL s st t p n, Nm x := fun x hx => by
  obtain ⟨k, _, rfl⟩ := List.mem_map.mp hx
  exact nmA_ok (Nat.mod_lt _ (by decide)) ht
theorem nmL_nd {s st p n : Nat} {t : Str} (hst : st = 1 ∨ st = 3 ∨ st = 5 ∨ st = 7 ∨ st = 9 ∨ st = 11) (hn : n ≤ 7) : (nmL s st t p n).Nodup := by
  unfold nmL
  refine List.pairwise_map.mpr (List.Pairwise.imp_of_mem (fun {a b} ha hb (hab : a < b) e => ?_) List.pairwise_lt_range)
  have h1 := nmA_inj e
  have h2 := List.mem_range.mp hb
  rcases hst with rfl | rfl | rfl | rfl | rfl | rfl <;> omega
theorem nmL_succ {s st p n : Nat} {t : Str} : nmL s st t p (n + 1) = nmL s st t p n ++ [nmA ((s + st * n) % 26) t (n % 2) p] := by
  unfold nmL
  rw [List.range_succ, List.map_append]
  rfl
theorem atN {α : Type} {xs : List α} {k : Int} {j : Nat} {c : α} (h : k = (j : Int)) (e : xs[j]? = some c) : atI xs k = some c := by
  subst h
  have hj := (List.getElem?_eq_some_iff.mp e).1
  unfold atI ixN
  rw [if_pos (by omega), if_pos (by omega)]
  exact e
def spNames (K : PySem.W.Frag) : Sp := fun vs H Q _ => ∃ (b : Addr) (n : Nat), vs = [.ref b, .int (n : Int)] ∧ BoxAt K H b ∧ n ≤ 7 ∧
  ∀ (H' : Hp) (l : Addr) (xs : List Str), Drew K b H H' → SqL K H' l (xs.map V.str) → xs.length = n → (∀ x ∈ xs, Nm x) → xs.Nodup → Q (.ref l) H'
section
variable {P : Program} {w : World} {K : PySem.W.Frag} {mg : Str → Option Value} {base : Heap} {f : Addr} {fd : FuncData}
theorem sc_names : FnScope ["_law_box_here", "_law_many", "_law_letters", "_law_my_start", "_law_step", "_law_tail", "_law_pick", "_law_found", "_law_k", "_law_sign"] ["_law_box_here", "_law_many"] (defScope s_law_names) := ⟨rfl, rfl, rfl, by decide +kernel, rfl, by decide +kernel, by decide +kernel⟩
theorem ok_names (F : FnP K "_law_names" s_law_names f fd) (G : Tops mg) (Cd : CalDraw P w K mg base) (Cp : CalPick P w K mg base) : FnOk P w K mg base CX0 3 f fd ["_law_box_here", "_law_many"] (spNames K) := by
  refine F.ok sc_names (fun vs H Q E h => ?_) (fun cdv A' outer s H vs Q E hr h => ?_)
  · obtain ⟨b, n, rfl, _⟩ := h
    rfl
  · obtain ⟨b, n, rfl, hb, hn, k⟩ := h
    have hr1 : Room 1 _ := hr.mono (by decide)
    refine ⟨_, PSs.nox <| pss_cons (ps_set (i := 2) sc_names.nd rfl (.inl rfl) pe_str) <|
      pss_cons (ps_par (i := 3) (j := 4) (by rfl) sc_names.nd rfl rfl (by decide) rfl rfl (pa_cons (pe_cal Cd hr1 rfl pass0 (pa_cons (pv 0) (pa_cons pe_int pa_nil))) (pa_cons (pe_cal Cp hr rfl pass0 (pa_cons (pv 0) (pa_cons (pe_lst (pa_cons pe_int (pa_cons pe_int (pa_cons pe_int (pa_cons pe_int (pa_cons pe_int (pa_cons pe_int pa_nil))))))) pa_nil))) pa_nil)) (by rfl)) <|
      pss_cons (ps_par (i := 5) (j := 6) (by rfl) sc_names.nd rfl rfl (by decide) rfl rfl (pa_cons (pe_cal Cp hr rfl pass0 (pa_cons (pv 0) (pa_cons (pe_lst (pa_cons pe_str (pa_cons pe_str (pa_cons pe_str (pa_cons pe_str (pa_cons pe_str pa_nil)))))) pa_nil))) (pa_cons (pe_cal Cd hr1 rfl pass0 (pa_cons (pv 0) (pa_cons pe_int pa_nil))) pa_nil)) (by rfl)) <|
      pss_cons (ps_set (i := 7) sc_names.nd rfl (.inl rfl) (pe_lst pa_nil)) <|
      pss_cons (ps_for PassesOwn.never rfl (pi_range1 rfl G.range (pa_cons (pv 1) pa_nil)) (pg_name (i := 8) sc_names.nd rfl (.inl rfl))
        (pss_cons (ps_set (i := 9) sc_names.nd rfl (.inl rfl) (pe_ix ix_str (pv 2) (pe_op op_mod (pe_op op_add (pv 3) (pe_op op_mul (pv 4) (pv 8))) pe_int) (fun _ _ => rfl))) <|
        pss_one (ps_expr (pe_bm PySem.F.plainAttrs_list PySem.F.slot_list_append PySem.F.type_list_append mt_append (pv 7) (pa_cons (pe_ix ix_list (pe_lst (pa_cons (pe_op op_add_str (pv 9) (pv 5)) (pa_cons (pe_op op_add_str (pv 5) (pv 9)) (pa_cons (pe_op op_add_str (pv 9) (pe_op op_mul_str (pv 5) (pe_op op_mod (pv 8) pe_int))) pa_nil)))) (pv 6) (fun _ _ => rfl)) pa_nil))))) <|
      pss_one (ps_ret (pv 7)), ?_⟩
    have six : (6 : Nat) ≤ sizeLine := by rw [sizeLine_eq]; decide
    refine ⟨_, rfl, b, 26, rfl, hb, by decide, by decide, fun H1 r d1 r0 r1 => ?_⟩
    refine ⟨_, rfl, by show 6 ≤ sizeLine; exact six, fun l1 n1 => ?_⟩
    have s1 := same_new (o := .lst [.int 1, .int 3, .int 5, .int 7, .int 9, .int 11]) n1
    have d1' := d1.grow s1
    refine ⟨b, l1, _, rfl, d1'.b1, upd_same, d1.b1.ne n1, (by intro z; cases z), by show 6 < 1000; decide, fun H2 x d2 hx => ?_⟩
    have ux : ∃ st : Nat, x = .int (st : Int) ∧ (st = 1 ∨ st = 3 ∨ st = 5 ∨ st = 7 ∨ st = 9 ∨ st = 11) := by
      simp only [List.mem_cons, List.not_mem_nil, or_false] at hx
      rcases hx with rfl | rfl | rfl | rfl | rfl | rfl
      · exact ⟨1, rfl, by decide⟩
      · exact ⟨3, rfl, by decide⟩
      · exact ⟨5, rfl, by decide⟩
      · exact ⟨7, rfl, by decide⟩
      · exact ⟨9, rfl, by decide⟩
      · exact ⟨11, rfl, by decide⟩
    obtain ⟨st, rfl, hst⟩ := ux
    have d12 := d1'.trans d2
    refine ⟨_, _, rfl, ?_⟩
    refine ⟨_, rfl, by show 5 ≤ sizeLine; omega, fun l2 n2 => ?_⟩
    have s2 := same_new (o := .lst [.str "", .str "q", .str "zz", .str "rod", .str "ended"]) n2
    have d12' := d12.grow s2
    refine ⟨b, l2, _, rfl, d12'.b1, upd_same, d12.b1.ne n2, (by intro z; cases z), by show 5 < 1000; decide, fun H3 x d3 hx => ?_⟩
    have tx : ∃ t : Str, x = .str t ∧ TailOk t := by
      simp only [List.mem_cons, List.not_mem_nil, or_false] at hx
      rcases hx with rfl | rfl | rfl | rfl | rfl
      · exact ⟨"", rfl, by unfold TailOk; decide⟩
      · exact ⟨"q", rfl, by unfold TailOk; decide⟩
      · exact ⟨"zz", rfl, by unfold TailOk; decide⟩
      · exact ⟨"rod", rfl, by unfold TailOk; decide⟩
      · exact ⟨"ended", rfl, by unfold TailOk; decide⟩
    obtain ⟨t, rfl, ht⟩ := tx
    have d123 := d12'.trans d3
    refine ⟨_, rfl, b, 3, rfl, d123.b1, by decide, by decide, fun H4 p d4 p0 p1 => ?_⟩
    have dd := d123.trans d4
    refine ⟨_, _, rfl, ?_⟩
    refine ⟨Nat.zero_le _, fun D nD => ?_⟩
    have dD := dd.grow (same_new (o := .lst []) nD)
    obtain ⟨rn, rfl⟩ : ∃ rn : Nat, r = (rn : Int) := ⟨r.toNat, by omega⟩
    obtain ⟨pn, rfl⟩ : ∃ pn : Nat, p = (pn : Int) := ⟨p.toNat, by omega⟩
    have t5 := ht.1
    have tl : t.length = t.cps.size := rfl
    refine ⟨_, rfl, (n : Int), rfl, by omega, by omega, for_range (lo := 0) (n := ((n : Int)).toNat) (fun i σ H' => ∃ x8 x9 : Option V, σ = [some (.ref b), some (.int (n : Int)), some (.str letters), some (.int (rn : Int)), some (.int (st : Int)), some (.str t), some (.int (pn : Int)), some (.ref D), x8, x9] ∧ Same H4 H' ∧ H' D = some (.lst ((nmL rn st t pn i).map V.str)))
      ⟨none, none, rfl, same_new nD, upd_same⟩ ?_ ?_⟩
    · rintro i σ H' hi ⟨x8, x9, rfl, s', hD⟩
      have hi7 : i < 7 := by omega
      have hst11 : st ≤ 11 := by rcases hst with h | h | h | h | h | h <;> omega
      have eI : (((rn : Int) + (st : Int) * (0 + (i : Int))) % 26) = (((rn + st * i) % 26 : Nat) : Int) := by
        rw [Int.zero_add]
        rw [Int.natCast_emod, Int.natCast_add, Int.natCast_mul]
        rfl
      have lt26 : (rn + st * i) % 26 < 26 := Nat.mod_lt _ (by decide)
      have gi : letters.cps.toList[(rn + st * i) % 26]? = some (97 + (rn + st * i) % 26) := by
        rw [letters_list, List.getElem?_map, List.getElem?_range lt26]
        rfl
      have aI : atI letters.cps.toList (((rn : Int) + (st : Int) * (0 + (i : Int))) % 26) = some (97 + (rn + st * i) % 26) := atN eI gi
      generalize hsg : (rn + st * i) % 26 = sg at lt26 aI
      have eO : ((0 + (i : Int)) % 2) = (((i % 2 : Nat)) : Int) := by omega
      have oO : (0 + (i : Int)) % 2 = 0 ∨ (0 + (i : Int)) % 2 = 1 := by omega
      have szs : (⟨#[97 + sg]⟩ : Str).length = 1 := rfl
      refine ⟨_, rfl, _, rfl, _, rfl, _, rfl, _, _, rfl, rfl, .inl ⟨by omega, by omega⟩, _, _, rfl, rfl, _, _, rfl, rfl, (show (0 : Int) < 26 by decide), _, _, _, rfl, rfl, by show 26 ≤ sizeLine; rw [sizeLine_eq]; decide, aI, ?_⟩
      refine ⟨_, rfl, .inl ⟨rfl, _, .of hD⟩, ?_⟩
      refine ⟨_, rfl, _, rfl, _, _, rfl, rfl, by rw [szs]; rw [sizeLine_eq]; omega, ?_⟩
      refine ⟨_, rfl, _, rfl, _, _, rfl, rfl, by rw [szs]; rw [sizeLine_eq]; omega, ?_⟩
      refine ⟨_, rfl, _, rfl, _, rfl, _, _, rfl, rfl, (show (0 : Int) < 2 by decide), _, _, rfl, rfl, oO, _, _, rfl, rfl, ?_, ?_⟩
      · rw [szs]
        by_cases c : (0 + (i : Int)) % 2 = 0
        · rw [if_pos c]
          show 1 + 0 ≤ sizeLine
          rw [sizeLine_eq]
          decide
        · rw [if_neg c]
          rw [sizeLine_eq]
          omega
      refine ⟨by show 3 ≤ sizeLine; rw [sizeLine_eq]; decide, fun q nq => ?_⟩
      have eN : atI [V.str (sgn sg ++ t), V.str (t ++ sgn sg), V.str (sgn sg ++ (if (0 + (i : Int)) % 2 = 0 then Str.empty else t))] ((pn : Nat) : Int) = some (V.str (nmA sg t (i % 2) pn)) := by
        refine atI_nat (j := pn) ?_
        have hp3 : pn < 3 := by omega
        match pn, hp3 with
        | 0, _ => rfl
        | 1, _ => rfl
        | 2, _ =>
          show some (V.str (sgn sg ++ (if (0 + (i : Int)) % 2 = 0 then Str.empty else t))) = some (V.str (sgn sg ++ (if i % 2 = 0 then Str.empty else t)))
          by_cases c : i % 2 = 0
          · rw [if_pos c, if_pos (by omega)]
          · rw [if_neg c, if_neg (by omega)]
      refine ⟨_, rfl, q, _, _, _, rfl, rfl, .of upd_same, eN, ?_⟩
      have hDq := same_new (o := .lst [V.str (sgn sg ++ t), V.str (t ++ sgn sg), V.str (sgn sg ++ (if (0 + (i : Int)) % 2 = 0 then Str.empty else t))]) nq _ _ hD
      refine ⟨D, _, _, rfl, rfl, hDq, ?_, ?_⟩
      · rw [List.length_map]
        unfold nmL
        rw [List.length_map, List.length_range]
        exact small1000 (by omega)
      · refine ⟨_, _, rfl, same_put (s'.trans (same_new nq)) nD, ?_⟩
        rw [upd_same, nmL_succ, List.map_append, hsg]
        rfl
    · rintro σ H' ⟨x8, x9, rfl, s', hD⟩
      have en : ((n : Int)).toNat = n := by omega
      rw [en] at hD
      exact ⟨_, rfl, k H' D _ (dd.grow s') (.of hD) (by unfold nmL; rw [List.length_map, List.length_range]) (nmL_ok ht) (nmL_nd hst hn)⟩
end
end CT

/-! W15: the law's rods and words. -/
namespace CT
open PySem PySem.Spec PyProof.Rows L2
theorem Each.set {α : Type} {R : Addr → α → Prop} {p : Addr} {x : α} (h : R p x) : ∀ (i : Nat) {ps : List Addr} {xs : List α}, Each R ps xs → Each R (ps.set i p) (xs.set i x)
  | _, [], [], _ => trivial
  | 0, _ :: _, _ :: _, k => ⟨h, k.2⟩
  | i + 1, _ :: _, _ :: _, k => ⟨k.1, Each.set h i k.2⟩
  | _, [], _ :: _, k => k.elim
  | _, _ :: _, [], k => k.elim
theorem set_id {α : Type} : ∀ {xs : List α} {i : Nat} {x : α}, xs[i]? = some x → xs.set i x = xs
  | [], _, _, h => by simp at h
  | a :: l, 0, x, h => by
    have e : a = x := by simpa using h
    rw [e]
    rfl
  | a :: l, i + 1, x, h => by
    have e := set_id (xs := l) (i := i) (x := x) (by simpa using h)
    show a :: l.set i x = a :: l
    rw [e]
structure Drawn (rs : List Rod) : Prop where
  names : NamesOk rs
  ar : ∀ z ∈ ars rs, SmA z ∧ z ≠ aZ
def spLRods (K : PySem.W.Frag) : Sp := fun vs H Q _ => ∃ b : Addr, vs = [.ref b, .int 2, .int 7] ∧ BoxAt K H b ∧ ∀ (H' : Hp) (l : Addr) (rs : List Rod), Drew K b H H' → RodsAt K H' l rs → 2 ≤ rs.length → rs.length ≤ 7 → Drawn rs → Q (.ref l) H'
def spWord (K : PySem.W.Frag) : Sp := fun vs H Q _ => ∃ (b : Addr) (n : Nat), vs = [.ref b, .int (n : Int), .int 10] ∧ BoxAt K H b ∧ 2 ≤ n ∧ n ≤ 8 ∧ ∀ (H' : Hp) (l : Addr) (ks : List Int), Drew K b H H' → SqL K H' l (ks.map V.int) → ks.length ≤ 10 → (∀ k ∈ ks, 1 ≤ k ∧ k < n) → Q (.ref l) H'
theorem neg_part {K : PySem.W.Frag} {H : Hp} {p : Addr} {q : Rat} (h : SqT K H p [.int (0 - q.num), .int (q.den : Int)]) : PartAt K H p (0 - q) := by
  have e : (0 : Rat) - q = -q := by grind
  rw [e]
  show SqT K H p [.int (-q.num), .int (q.den : Int)]
  have e2 : (0 : Int) - q.num = -q.num := by omega
  rw [e2] at h
  exact h
theorem neg_ne {z : Ar} (h : z ≠ aZ) : ((0 - z.1, 0 - z.2) : Ar) ≠ aZ := fun e => h (by
  have e1 : 0 - z.1 = 0 := congrArg Prod.fst e
  have e2 : 0 - z.2 = 0 := congrArg Prod.snd e
  refine ar_ext ?_ ?_
  · show z.1 = 0
    grind
  · show z.2 = 0
    grind)
section
variable {P : Program} {w : World} {K : PySem.W.Frag} {mg : Str → Option Value} {base : Heap} {f : Addr} {fd : FuncData}
theorem sc_word : FnScope ["_law_box_here", "_law_size", "_law_most", "_law_k"] ["_law_box_here", "_law_size", "_law_most"] (defScope s_law_word) := ⟨rfl, rfl, rfl, by decide +kernel, rfl, by decide +kernel, by decide +kernel⟩
theorem ok_word (F : FnP K "_law_word" s_law_word f fd) (G : Tops mg) (Cd : CalDraw P w K mg base) : FnOk P w K mg base CX0 2 f fd ["_law_box_here", "_law_size", "_law_most"] (spWord K) := by
  refine F.ok sc_word (fun vs H Q E h => ?_) (fun cdv A' outer s H vs Q E hr h => ?_)
  · obtain ⟨b, n, rfl, _⟩ := h
    rfl
  · obtain ⟨b, n, rfl, hb, n2, n8, k⟩ := h
    refine ⟨_, PSs.nox <| pss_cons (ps_if (pt_cmpR op_lt (pv 1) pe_int (nomark _)) (pss_one (ps_ret (pe_lst pa_nil))) pss_nil) <|
      pss_one (ps_ret (pe_lc (own := [("_law_k", 3)]) (g := gName 3) (tt := tYes) (by rfl) sc_word.nd (pi_range1 rfl G.range (pa_cons (pe_cal Cd hr rfl pass0 (pa_cons (pv 0) (pa_cons (pe_op op_add (pv 2) pe_int) pa_nil))) pa_nil))
        (blkOk_by (N := ["_law_box_here", "_law_size", "_law_most", "_law_k"]) (sc := defScope s_law_word) (by decide +kernel)) (fun _ _ _ _ _ => pg_name (i := 3) sc_word.nd rfl (.inl rfl)) (fun _ _ _ _ _ => pts_nil)
        (fun _ _ _ _ _ => pe_op op_add pe_int (pe_cal Cd hr rfl pass0 (pa_cons (pv 0) (pa_cons (pe_op op_sub (pv 1) pe_int) pa_nil)))))), ?_⟩
    refine ⟨_, rfl, _, _, rfl, rfl, _, rfl, ?_⟩
    refine ite2 (fun z => ?_) (fun _ => ?_)
    · have z' := of_decide_eq_true z
      omega
    refine ⟨_, rfl, _, rfl, _, _, rfl, rfl, b, 11, rfl, hb, by decide, by decide, fun H1 r d1 r0 r1 => ?_⟩
    refine ⟨r, rfl, by omega, by omega, fun D nD => ?_⟩
    refine lc_range (fun i H' => Drew K b H1 H' ∧ ∃ ks : List Int, ks.length = i ∧ (∀ k ∈ ks, 1 ≤ k ∧ k < n) ∧ H' D = some (.lst (ks.map V.int))) ⟨Drew.same d1.b1 (same_new nD), [], rfl, (fun k h => by cases h), upd_same⟩ (fun i Hi hi ⟨dd, ks, e, hk, hD⟩ => ?_) (fun H2 ⟨dd, ks, e, hk, hD⟩ => ?_)
    · refine ⟨rfl, ?_⟩
      refine ⟨_, rfl, _, rfl, _, _, rfl, rfl, b, (n : Int) - 1, rfl, dd.b1, by omega, by omega, fun H3 v d3 v0 v1 => ?_⟩
      have d13 := dd.trans d3
      have hD3 := d3.at_ hD (d1.b1.ne nD)
      refine ⟨_, _, rfl, rfl, _, hD3, ?_, d13.put nD, ks ++ [1 + v], ?_, fun x hx => ?_, ?_⟩
      · rw [List.length_map]
        exact small1000 (by omega)
      · simp [e]
      · rcases List.mem_append.mp hx with q | q
        · exact hk x q
        · rw [List.mem_singleton.mp q]
          omega
      · rw [upd_same, List.map_append]
        rfl
    · exact k H2 D ks (d1.trans dd) (.of hD) (by omega) hk
theorem sc_lrods : FnScope ["_law_box_here", "_law_low_here", "_law_most", "_law_names_here", "_law_rods_here", "_law_at", "_law_x", "_law_y", "_law_name"] ["_law_box_here", "_law_low_here", "_law_most"] (defScope s_law_rods) := ⟨rfl, rfl, rfl, by decide +kernel, rfl, by decide +kernel, by decide +kernel⟩
theorem ok_lrods (F : FnP K "_law_rods" s_law_rods f fd) (G : Tops mg) (Cd : CalDraw P w K mg base) (Cn : Cal P w K mg base CX0 "_law_names" 3 ["_law_box_here", "_law_many"] (spNames K)) (Ca : Cal P w K mg base CX0 "_law_arrow" 5 ["_law_box_here"] (spArr K)) : FnOk P w K mg base CX0 6 f fd ["_law_box_here", "_law_low_here", "_law_most"] (spLRods K) := by
  refine F.ok sc_lrods (fun vs H Q E h => ?_) (fun cdv A' outer s H vs Q E hr h => ?_)
  · obtain ⟨b, rfl, _⟩ := h
    rfl
  · obtain ⟨b, rfl, hb, k⟩ := h
    have hr1 : Room 1 _ := hr.mono (by decide)
    have hr3 : Room 3 _ := hr.mono (by decide)
    refine ⟨_, PSs.nox <| pss_cons (ps_set (i := 3) sc_lrods.nd rfl (.inl rfl) (pe_cal Cn hr3 rfl pass0 (pa_cons (pv 0) (pa_cons (pe_op op_add (pv 1) (pe_cal Cd hr1 rfl pass0 (pa_cons (pv 0) (pa_cons (pe_op op_add (pe_op op_sub (pv 2) (pv 1)) pe_int) pa_nil)))) pa_nil)))) <|
      pss_cons (ps_setLc (i := 4) (own := [("_law_name", 8)]) (g := gName 8) (tt := tYes) (by rfl) sc_lrods.nd rfl rfl (sw_true rfl rfl rfl (by decide +kernel)) (pi_list (pv 3))
        (blkOk_by (N := ["_law_box_here", "_law_low_here", "_law_most", "_law_names_here", "_law_rods_here", "_law_at", "_law_x", "_law_y", "_law_name"]) (sc := defScope s_law_rods) (by decide +kernel)) (fun _ _ _ _ _ => pg_name (i := 8) sc_lrods.nd rfl (.inl rfl)) (fun _ _ _ _ _ => pts_nil)
        (fun _ _ _ _ _ => pe_tup (pa_cons (pv 8) (pa_cons (pe_cal Ca hr rfl pass0 (pa_cons (pv 0) pa_nil)) pa_nil)))) <|
      C8.pss_cut (ps_if (PW.pt (pw_and (pt_cmpR op_gt (pe_callB call_len_seq (by rfl) G.len PySem.boot_len (pa_cons (pv 4) pa_nil)) pe_int (nomark _)) (pw_and1 (pt_cmpR op_eq (pe_cal Cd hr1 rfl pass0 (pa_cons (pv 0) (pa_cons pe_int pa_nil))) pe_int (nomark _)))))
        (pss_cons (ps_set (i := 5) sc_lrods.nd rfl (.inl rfl) (pe_op op_add pe_int (pe_cal Cd hr1 rfl pass0 (pa_cons (pv 0) (pa_cons (pe_op op_sub (pe_callB call_len_seq (by rfl) G.len PySem.boot_len (pa_cons (pv 4) pa_nil)) pe_int) pa_nil))))) <|
        pss_cons (ps_asg (pe_ix ix_tup (pe_ix ix_list (pv 4) (pe_cal Cd hr1 rfl pass0 (pa_cons (pv 0) (pa_cons (pv 5) pa_nil))) (fun _ _ => rfl)) pe_int (fun _ _ => rfl)) (pg_tup (by rfl) (pgs_cons (pg_name (i := 6) sc_lrods.nd rfl (.inl rfl)) (pgs_cons (pg_name (i := 7) sc_lrods.nd rfl (.inl rfl)) pgs_nil)))) <|
        pss_one (ps_asg (pe_tup (pa_cons (pe_ix ix_tup (pe_ix ix_list (pv 4) (pv 5) (fun _ _ => rfl)) pe_int (fun _ _ => rfl)) (pa_cons (pe_tup (pa_cons (pe_tup (pa_cons (pe_op op_sub pe_int (pe_ix ix_tup (pv 6) pe_int (fun _ _ => rfl))) (pa_cons (pe_ix ix_tup (pv 6) pe_int (fun _ _ => rfl)) pa_nil)))
          (pa_cons (pe_tup (pa_cons (pe_op op_sub pe_int (pe_ix ix_tup (pv 7) pe_int (fun _ _ => rfl))) (pa_cons (pe_ix ix_tup (pv 7) pe_int (fun _ _ => rfl)) pa_nil))) pa_nil))) pa_nil))) (pg_sub (pv 4) (pv 5) set_list))) pss_nil) <|
      pss_one (ps_ret (pv 4)), ?_⟩
    refine ⟨_, rfl, _, rfl, _, rfl, _, rfl, _, rfl, _, _, rfl, rfl, _, _, rfl, rfl, b, 6, rfl, hb, by decide, by decide, fun H1 r d1 r0 r1 => ?_⟩
    obtain ⟨rn, rfl⟩ : ∃ rn : Nat, r = (rn : Int) := ⟨r.toNat, by omega⟩
    have e2r : (2 : Int) + (rn : Int) = ((2 + rn : Nat) : Int) := rfl
    refine ⟨_, _, rfl, rfl, b, 2 + rn, congrArg (fun i => [V.ref b, V.int i]) e2r, d1.b1, by omega, fun H2 ln xs d2 hl xl xn xd => ?_⟩
    have d12 := d1.trans d2
    refine ⟨_, rfl, ln, rfl, ⟨_, hl⟩, fun D nD => ?_⟩
    have Db := d2.b1.ne nD
    refine lc_list (K := K) (a := ln) (xs := xs.map V.str) (fun i H' => Drew K b H2 H' ∧ ∃ (qs : List Addr) (rs : List Rod), H' D = some (.lst (qs.map V.ref)) ∧ Each (RodAt K H') qs rs ∧ rs.map (·.1) = xs.take i ∧ ∀ z ∈ ars rs, SmA z ∧ z ≠ aZ)
      ⟨Drew.same d2.b1 (same_new nD), [], [], upd_same, trivial, by simp, fun z h => by cases h⟩ (fun i H' _ p => p.1.strs hl) (fun i y H' hy ⟨dd, qs, rs, hD, he, hn, hz⟩ => ?_) (fun H3 ⟨dd, qs, rs, hD, he, hn, hz⟩ => ?_)
    · obtain ⟨x, hx, rfl⟩ : ∃ x, xs[i]? = some x ∧ y = V.str x := by
        rw [List.getElem?_map] at hy
        obtain ⟨x, h1, h2⟩ := Option.map_eq_some_iff.mp hy
        exact ⟨x, h1, h2.symm⟩
      have hix := (List.getElem?_eq_some_iff.mp hx).1
      have el : rs.length = i := by
        have e := congrArg List.length hn
        rw [List.length_map, List.length_take] at e
        omega
      refine ⟨rfl, _, rfl, _, rfl, b, rfl, dd.b1, fun H4 p4 z d4 h4 sm4 nz => ⟨two_le, fun p hp => ?_⟩⟩
      have s5 := same_new (o := .tup [V.str x, V.ref p4]) hp
      have hD5 := s5 _ _ (d4.at_ hD Db)
      refine ⟨_, hD5, ?_, (dd.trans (d4.grow s5)).put nD, qs ++ [p], rs ++ [(x, z)], ?_, ?_, ?_, fun v hv => ?_⟩
      · rw [List.length_map, he.len]
        exact small1000 (by omega)
      · rw [upd_same, List.map_append]
        rfl
      · have e1 : Each (RodAt K (upd H4 p (.tup [V.str x, V.ref p4]))) (qs ++ [p]) (rs ++ [(x, z)]) := (he.imp fun _ _ q => (d4.rod q).same s5).app ⟨⟨p4, tup_new, h4.same s5⟩, trivial⟩
        exact each_put (stR K) e1 hD5
      · rw [List.map_append, hn, List.take_succ, hx]
        rfl
      · have hv' : v ∈ ars rs ++ [z] := by simpa [ars] using hv
        rcases List.mem_append.mp hv' with q | q
        · exact hz v q
        · rw [List.mem_singleton.mp q]
          exact ⟨sm4, nz⟩
    · rw [List.length_map, List.take_length] at hn
      have el : rs.length = xs.length := by rw [← hn, List.length_map]
      have ql := he.len
      have hNm : NamesOk rs := ⟨fun r hr => xn r.1 (by rw [← hn]; exact List.mem_map.mpr ⟨r, hr, rfl⟩), by rw [hn]; exact xd⟩
      have d3 := d12.trans dd
      refine ⟨fun σ H' => ∃ x5 x6 x7 : Option V, σ = [some (.ref b), some (.int 2), some (.int 7), some (.ref ln), some (.ref D), x5, x6, x7, none] ∧ Drew K b H H' ∧ ∃ rs' : List Rod, RodsAt K H' D rs' ∧ rs'.length = xs.length ∧ Drawn rs', ?_, ?_⟩
      · have same_done : ∀ H', Drew K b H3 H' → ∃ x5 x6 x7 : Option V, ([some (V.ref b), some (.int 2), some (.int 7), some (.ref ln), some (.ref D), none, none, none, none] : List (Option V)) = [some (.ref b), some (.int 2), some (.int 7), some (.ref ln), some (.ref D), x5, x6, x7, none] ∧ Drew K b H H' ∧ ∃ rs' : List Rod, RodsAt K H' D rs' ∧ rs'.length = xs.length ∧ Drawn rs' :=
          fun H' d => ⟨none, none, none, rfl, d3.trans d, rs, d.rods ⟨qs, .of hD, he⟩, el, hNm, hz⟩
        refine ⟨_, rfl, D, _, rfl, .inl (.of hD), _, _, rfl, rfl, _, rfl, ?_⟩
        refine ite2 (fun _ => ?_) (fun _ => same_done H3 (Drew.same dd.b1 fun _ _ e => e))
        refine ⟨_, rfl, b, 6, rfl, dd.b1, by decide, by decide, fun H4 r4 d4 _ _ => ?_⟩
        refine ⟨rfl, _, rfl, ?_⟩
        refine ite2 (fun _ => ?_) (fun _ => same_done H4 d4)
        have hD4 := d4.at_ hD Db
        refine ⟨_, rfl, _, rfl, D, _, rfl, .inl (.of hD4), _, _, rfl, rfl, b, _, rfl, d4.b1, by rw [List.length_map]; omega, by rw [List.length_map]; omega, fun H5 r5 d5 h50 h51 => ?_⟩
        rw [List.length_map] at h51
        refine ⟨_, _, rfl, rfl, ?_⟩
        have d45 := d4.trans d5
        have hD5 := d5.at_ hD4 Db
        refine ⟨_, rfl, _, rfl, _, rfl, b, _, rfl, d5.b1, by omega, by omega, fun H6 r6 d6 h60 h61 => ?_⟩
        have d46 := d45.trans d6
        have hD6 := d6.at_ hD5 Db
        have he6 : Each (RodAt K H6) qs rs := he.imp fun _ _ q => d46.rod q
        obtain ⟨a6, ia6, ha6⟩ := he6.get (List.getElem?_eq_getElem (show r6.toNat < rs.length by omega))
        have sz6 := hz (rs[r6.toNat]'(by omega)).2 (List.mem_map.mpr ⟨_, List.getElem_mem _, rfl⟩)
        generalize rs[r6.toNat]'(by omega) = ro6 at ha6 sz6
        obtain ⟨t6, tt6, zz6⟩ := ha6
        obtain ⟨p1, p2, tz, z1, z2⟩ := zz6
        refine ⟨D, _, r6, _, rfl, rfl, .of hD6, at_of (j := r6.toNat) (by omega) (map_at ia6), ?_⟩
        refine ⟨a6, _, 1, _, rfl, rfl, tt6, at1, t6, _, rfl, tz, rfl, _, _, rfl, _, _, rfl, rfl, ?_⟩
        have j5 : (1 + r5).toNat < rs.length := by omega
        have hro : rs[(1 + r5).toNat]? = some rs[(1 + r5).toNat] := List.getElem?_eq_getElem j5
        obtain ⟨a7, ia7, ha7⟩ := he6.get hro
        generalize hrv : rs[(1 + r5).toNat] = ro7 at ha7 hro
        obtain ⟨t7, tt7, zz7⟩ := ha7
        refine ⟨_, rfl, _, rfl, D, _, 1 + r5, _, rfl, rfl, .of hD6, at_of (j := (1 + r5).toNat) (by omega) (map_at ia7), ?_⟩
        refine ⟨a7, _, 0, _, rfl, rfl, tt7, at0, ?_⟩
        refine ⟨_, rfl, p1, _, 0, _, rfl, rfl, z1, at0, _, _, rfl, rfl, _, rfl, p1, _, 1, _, rfl, rfl, z1, at1, two_le, fun u1 m1 => ?_⟩
        have w1 := same_new (o := .tup [V.int (0 - ro6.2.1.num), V.int (ro6.2.1.den : Int)]) m1
        refine ⟨_, rfl, p2, _, 0, _, rfl, rfl, same_tup w1 z2, at0, _, _, rfl, rfl, _, rfl, p2, _, 1, _, rfl, rfl, same_tup w1 z2, at1, two_le, fun u2 m2 => ?_⟩
        have w2 := same_new (o := .tup [V.int (0 - ro6.2.2.num), V.int (ro6.2.2.den : Int)]) m2
        refine ⟨two_le, fun u3 m3 => ⟨two_le, fun u4 m4 => ?_⟩⟩
        have w3 := same_new (o := .tup [V.ref u1, V.ref u2]) m3
        have w4 := same_new (o := .tup [V.str ro7.1, V.ref u3]) m4
        have ww := ((w1.trans w2).trans w3).trans w4
        have hD9 := ww _ _ hD6
        have ij : ixN (qs.map V.ref).length (1 + r5) = some (1 + r5).toNat := by
          unfold ixN
          rw [List.length_map, if_pos (by omega), if_pos (by omega)]
        refine ⟨_, rfl, _, rfl, D, _, 1 + r5, _, rfl, rfl, hD9, ij, ?_⟩
        have hA : ArAt K _ u3 (0 - ro6.2.1, 0 - ro6.2.2) := ar_new (z := (0 - ro6.2.1, 0 - ro6.2.2)) m3 (neg_part (same_tup w2 tup_new)) (neg_part tup_new)
        have hR : RodAt K _ u4 (ro7.1, (0 - ro6.2.1, 0 - ro6.2.2)) := ⟨u3, tup_new, hA.same w4⟩
        have hE := each_put (stR K) (o := .lst ((qs.map V.ref).set (1 + r5).toNat (V.ref u4))) (Each.set hR (1 + r5).toNat (he6.imp fun _ _ q => q.same ww)) hD9
        refine ⟨_, _, _, rfl, d12.trans (((dd.trans d46).grow ww).put nD), rs.set (1 + r5).toNat (ro7.1, (0 - ro6.2.1, 0 - ro6.2.2)), ⟨qs.set (1 + r5).toNat u4, .of ?_, hE⟩, by rw [List.length_set, el], ?_⟩
        · rw [upd_same, List.map_set]
        · have en : (rs.set (1 + r5).toNat (ro7.1, (0 - ro6.2.1, 0 - ro6.2.2))).map (·.1) = rs.map (·.1) := by
            rw [List.map_set]
            refine set_id ?_
            rw [List.getElem?_map, hro]
            rfl
          refine ⟨⟨fun r hr => ?_, by rw [en]; exact hNm.nd⟩, fun v hv => ?_⟩
          · have m : r.1 ∈ rs.map (·.1) := by
              rw [← en]
              exact List.mem_map.mpr ⟨r, hr, rfl⟩
            obtain ⟨r', h1, h2⟩ := List.mem_map.mp m
            rw [← h2]
            exact hNm.nm r' h1
          · rw [ars, List.map_set] at hv
            rcases List.mem_or_eq_of_mem_set hv with q | q
            · exact hz v q
            · rw [q]
              exact ⟨sz6.1.neg, neg_ne sz6.2⟩
      · rintro σ H' ⟨x5, x6, x7, rfl, d, rs', hr', er, hd⟩
        exact ⟨_, rfl, k H' D rs' d hr' (by omega) (by omega) hd⟩
end
end CT

/-! T1: try: body, except (A, B, ..) as e: .., of which the second clause takes what the body raises. -/
namespace CT
open PySem PySem.Spec PyProof.Rows L2
open PySem.W (Looks exmOne)
/-! ### a tuple of classes against an exception -/
section
variable {M : Model} {h : Heap}
theorem looks_all {α β : Type} {g : α → β → Sem (ForInStep β)} {r : β} : ∀ {cs : List α}, (∀ c ∈ cs, Looks M h (g c r) (.yield r)) → Looks M h (forIn cs r g) r
  | [], _ => by
    rw [List.forIn_nil]
    exact .now
  | c :: cs, st => by
    rw [List.forIn_cons]
    exact (st c List.mem_cons_self).andThen (looks_all fun x hx => st x (List.mem_cons_of_mem _ hx))
theorem looks_hit {α β : Type} {g : α → β → Sem (ForInStep β)} {r r' : β} {c : α} {post : List α} : ∀ {pre : List α}, (∀ x ∈ pre, Looks M h (g x r) (.yield r)) → Looks M h (g c r) (.done r') → Looks M h (forIn (pre ++ c :: post) r g) r'
  | [], _, ht => by
    rw [List.nil_append, List.forIn_cons]
    exact ht.andThen .now
  | p :: pre, st, ht => by
    rw [List.cons_append, List.forIn_cons]
    exact (st p List.mem_cons_self).andThen (looks_hit (fun x hx => st x (List.mem_cons_of_mem _ hx)) ht)
theorem looks_items {tp : Addr} {cs : List Value} {n : Nat} (hp : h.get? tp = some { cls := .type "tuple", data := .seq cs.toArray n }) : Looks M h (seqItems? (.ref tp)) (some cs.toArray) := fun A Q E s k q => wpAny_seqItems (k _ _ hp) rfl q
theorem looks_isTup {tp : Addr} {cs : List Value} {n : Nat} (hp : h.get? tp = some { cls := .type "tuple", data := .seq cs.toArray n }) : Looks M h (isInstance (.ref tp) (.type "tuple")) true :=
  (((Looks.ld hp).andThen .now).andThen (Looks.of_pure PySem.isSubtype_tuple_tuple))
theorem exm_none {K : PySem.W.Frag} {cls : Value} {e tp : Addr} {cs : List Value} {n : Nat} (X : K.In h) (LT : Looks M h (typeOf (.ref e)) cls) (hp : h.get? tp = some { cls := .type "tuple", data := .seq cs.toArray n }) (hx : ∀ c ∈ cs, exmOne K cls c = some false) :
    Looks M h (excMatches (.ref e) (.ref tp)) false := by
  unfold excMatches
  refine (looks_isTup hp).andThen ?_
  rw [if_pos rfl]
  refine (looks_items hp).andThen (Looks.now.andThen ?_)
  refine (looks_all (r := PUnit.unit) (cs := cs) fun c hc => ?_).andThen ?_
  · refine (PySem.W.exm_cls X (hx c hc)).1.andThen ?_
    simp only [Bool.not_true, Bool.false_eq_true, if_false]
    exact .now
  · refine LT.andThen ?_
    refine (looks_all (cs := cs) fun c hc => ?_).andThen ?_
    · refine (PySem.W.exm_cls X (hx c hc)).2.andThen ?_
      simp only [Bool.false_eq_true, if_false]
      exact .now
    · exact .now
theorem exm_some {K : PySem.W.Frag} {cls c : Value} {e tp : Addr} {pre post : List Value} {n : Nat} (X : K.In h) (LT : Looks M h (typeOf (.ref e)) cls) (hp : h.get? tp = some { cls := .type "tuple", data := .seq (pre ++ c :: post).toArray n }) (hx : ∀ x ∈ pre, exmOne K cls x = some false) (hc : exmOne K cls c = some true) (hy : ∀ x ∈ post, exmOne K cls x = some false) :
    Looks M h (excMatches (.ref e) (.ref tp)) true := by
  unfold excMatches
  refine (looks_isTup hp).andThen ?_
  rw [if_pos rfl]
  refine (looks_items hp).andThen (Looks.now.andThen ?_)
  refine (looks_all (r := PUnit.unit) (cs := pre ++ c :: post) fun x hm => ?_).andThen ?_
  · have hb : ∃ b, exmOne K cls x = some b := by
      rcases List.mem_append.mp hm with q | q
      · exact ⟨_, hx x q⟩
      · rcases List.mem_cons.mp q with q | q
        · exact ⟨_, q ▸ hc⟩
        · exact ⟨_, hy x q⟩
    obtain ⟨b, hb⟩ := hb
    refine (PySem.W.exm_cls X hb).1.andThen ?_
    simp only [Bool.not_true, Bool.false_eq_true, if_false]
    exact .now
  · refine LT.andThen ?_
    refine (looks_hit (r' := (some true, ())) (pre := pre) (c := c) (post := post) (fun x hm => ?_) ?_).andThen ?_
    · refine (PySem.W.exm_cls X (hx x hm)).2.andThen ?_
      simp only [Bool.false_eq_true, if_false]
      exact .now
    · refine (PySem.W.exm_cls X hc).2.andThen ?_
      simp only [if_true]
      exact .now
    · exact .now
end
/-! ### the flight goes on when the heap grows -/
theorem flying_more {B h h' : Heap} {l : List Env} {e : Addr} {Z : Obj → Prop} (x : HandSPX.FlyingZ B l e Z h) (k : ∀ b o, h.get? b = some o → h'.get? b = some o) : HandSPX.FlyingZ B l e Z h' := by
  obtain ⟨f1, f2, f3, oe, vs, T, oT, ts, t1, t2, t3, t4, t5, t6, t7, t8, t9⟩ := x
  exact ⟨fun b o q => k b o (f1 b o q), f2, f3.of_keeps fun b o q _ => ⟨o, k b o q, rfl⟩, oe, vs, T, oT, ts, k _ _ t1, t2, t3, t4, t5, t6, k _ _ t7, t8, t9⟩
theorem upto_more {h h' : Heap} (k : ∀ b o, h.get? b = some o → h'.get? b = some o) : h.UpToSlots h' := fun b o e _ => ⟨o.slots, k b o e⟩
section
variable {X : Cx} {pins : List (Addr × Obj)} {σ : L2.St} {H : Hp} {B : Heap} {a : Addr} {cls : Value} {d : Option Addr}
/-- an exception at a that this frame looks at -/
structure Down (X : Cx) (pins : List (Addr × Obj)) (σ : L2.St) (H : Hp) (B : Heap) (a : Addr) (cls : Value) (d : Option Addr) (s : Shared) : Prop where
  fl : HandSPX.FlyingZ B (X.env :: X.outer) a (Zc cls d) s.heap
  inv : ∀ (h' : Heap), B.StaysIn h' → s.heap.UpToSlots h' → Inv X pins σ H { s with heap := h' }
theorem Down.more {s : Shared} {h' : Heap} (D : Down X pins σ H B a cls d s) (k : ∀ b o, s.heap.get? b = some o → h'.get? b = some o) : Down X pins σ H B a cls d { s with heap := h' } :=
  ⟨flying_more D.fl k, fun h2 st up => D.inv h2 st ((upto_more k).trans up)⟩
theorem Down.self {s : Shared} (D : Down X pins σ H B a cls d s) : Inv X pins σ H s := D.inv s.heap D.fl.1 (Heap.UpToSlots.refl _)
theorem Down.off {s : Shared} (D : Down X pins σ H B a cls d s) (hs : X.stack = X.env :: X.outer) (hf : X.env.frame = some X.env.locals) : a ≠ X.env.locals ∧ a ∉ X.fs := by
  obtain ⟨oe, vs, he, _, hd⟩ := D.fl.there
  have nfr : a ∉ frs (X.env :: X.outer) := fun hm => by
    obtain ⟨_, o', e', hn⟩ := D.fl.2.2.1.mem hm
    rw [he] at e'
    cases e'
    exact hn _ hd
  refine ⟨fun z => nfr (List.mem_filterMap.mpr ⟨X.env, List.mem_cons_self, by rw [hf, z]⟩), fun hm => ?_⟩
  obtain ⟨e, he', q⟩ := List.mem_filterMap.mp hm
  exact nfr (List.mem_filterMap.mpr ⟨e, List.mem_cons_of_mem _ he', q⟩)
/-- names of classes -/
inductive AllNames (X : Cx) : List (Str × Pos) → List Value → Prop
  | nil : AllNames X [] []
  | cons {x : Str} {p : Pos} {c : Value} {xs : List (Str × Pos)} {cs : List Value} (h : Gl X x) (hd : (x == ("__debug__" : Str)) = false) (hm : X.mg x = some c) (r : AllNames X xs cs) : AllNames X ((x, p) :: xs) (c :: cs)
abbrev nmE (xs : List (Str × Pos)) : List Expr := xs.map fun x => .Name x.1 x.2
theorem all_run {s : Shared} {xs : List (Str × Pos)} {cs : List Value} {pos : Pos} {E : Value → Shared → Prop} {oe : Obj} {pn : List (Addr × Obj)} (S : Inv (X.suite a ((a, oe) :: pn)) [] σ H s) (hn : AllNames X xs cs) :
    ∀ {Q : List Value → Shared → Prop}, Q cs s → wpAny (model X.prog X.w) (X.A.mark (some (.ref a))) (spliced (backTo pos (starEach (nmE xs) X.env))) Q E s := by
  induction hn with
  | nil => exact fun q => wpAny_items_nil q
  | cons hg hd hm _ ih => exact fun q => wpAny_items_cons (ld_glob (X := X.suite a ((a, oe) :: pn)) S hg hm (ih q) hd)
theorem AllNames.len {xs : List (Str × Pos)} {cs : List Value} (h : AllNames X xs cs) : xs.length = cs.length := by
  induction h with
  | nil => rfl
  | cons _ _ _ _ ih => rw [List.length_cons, List.length_cons, ih]
/-- a clause's test -/
theorem clause_test {s : Shared} {xs : List (Str × Pos)} {cs : List Value} {kk : Nat} {tp : Pos} {b : Bool} {E : Value → Shared → Prop} {Q : Bool → Shared → Prop} (D : Down X pins σ H B a cls d s) (hs : X.stack = X.env :: X.outer) (hf : X.env.frame = some X.env.locals) (na : H a = none) (hn : AllNames X xs cs) (hl : cs.length ≤ 100)
    (ex : ∀ (h : Heap) (tpl : Addr), X.K.In h → Looks (model X.prog X.w) h (typeOf (.ref a)) cls → h.get? tpl = some { cls := .type "tuple", data := .seq cs.toArray } → Looks (model X.prog X.w) h (excMatches (.ref a) (.ref tpl)) b)
    (q : ∀ s', Down X pins σ H B a cls d s' → Q b s') :
    wpAny (model X.prog X.w) (X.A.mark (some (.ref a))) (eval (.Tuple (nmE xs) kk tp) X.env) (fun c s₁ => wpAny (model X.prog X.w) (X.A.mark (some (.ref a))) (excMatches (.ref a) c) Q E s₁) E s := by
  obtain ⟨oe, vs, he, hz, hd⟩ := D.fl.there
  obtain ⟨nL, nF⟩ := D.off hs hf
  have S := D.self.suite he hd na nL nF
  refine wpAny_Tuple (all_run S hn ⟨?_, ?_⟩)
  · rw [sizeLine_eq]
    omega
  · have k : ∀ b o, s.heap.get? b = some o → (s.heap.push { cls := .type "tuple", data := .seq cs.toArray }).get? b = some o := fun b o e => Heap.get?_push_of_some _ e
    have D' := D.more k
    refine (ex (s.heap.push { cls := .type "tuple", data := .seq cs.toArray }) s.heap.objs.size (D.self.kIn.keeps k) (fun A Q E s k' q => wpAny_typeOf_ref (k' _ _ (k _ _ he)) (by rw [hz.1]; exact q)) (Heap.get?_push_size _ rfl)).here ?_
    exact q _ D'
end
section
variable {X : Cx} {body su1 suite : List Stmt} {b₀ b1 : Stmt} {n n1 : Str} {xs1 xs2 : List (Str × Pos)} {cs1 pre post : List Value} {C : Value} {k1 k2 i : Nat} {p1 p2 q1 q2 pos : Pos} {rest : List ExceptHandler} {tb : WX → TS} {ts : Addr → Value → Option Addr → TS}
/-- what the body's raise must bring -/
def wTwo (nn : Nat) (C : Value) (i : Nat) (ts : Addr → Value → Option Addr → TS) (D : Ends) : WX := fun cls d σ H => cls = C ∧ ∀ a, H a = none → σ.length = nn → ts a cls d { nx := fun σ' H' => D.nx (σ'.set i none) H', rt := D.rt, bk := fun σ' H' => D.bk (σ'.set i none) H', ct := fun σ' H' => D.ct (σ'.set i none) H' } (σ.set i (some (.ref a))) H
theorem ps_try_two (hs : X.stack = X.env :: X.outer) (hf : X.env.frame = some X.env.locals) (nd : X.N.Nodup) (hi : X.N[i]? = some n) (ln : X.env.kindOf n = some .local) (h1 : AllNames X xs1 cs1) (h2 : AllNames X xs2 (pre ++ C :: post)) (l1 : cs1.length ≤ 100) (l2 : (pre ++ C :: post).length ≤ 100)
    (e1 : ∀ c ∈ cs1, exmOne X.K C c = some false) (e2 : ∀ c ∈ pre, exmOne X.K C c = some false) (e3 : exmOne X.K C C = some true) (e4 : ∀ c ∈ post, exmOne X.K C c = some false)
    (hb : ∀ (W : WX) (pn : List (Addr × Obj)) (xe : Value → Shared → Prop), Takes (X.tr pn xe) W → PSs (X.tr pn xe) body (tb W))
    (su : ∀ (a : Addr) (oe : Obj) (cls : Value) (d : Option Addr) (pn : List (Addr × Obj)), Zc cls d oe → (∃ vs, oe.data = .fields vs) → PSs (X.suite a ((a, oe) :: pn)) (b₀ :: suite) (ts a cls d)) :
    PS X (.Try body (.ExceptHandler (some (.Tuple (nmE xs1) k1 p1)) (some n1) (b1 :: su1) q1 :: .ExceptHandler (some (.Tuple (nmE xs2) k2 p2)) (some n) (b₀ :: suite) q2 :: rest) [] [] pos) (fun D σ H => tb (wTwo X.N.length C i ts D) D σ H) := by
  refine ⟨fun pins s σ H D I want => ?_⟩
  have ok := I.ok
  have fr : X.A.frames = some (X.env :: X.outer) := by rw [ok.frames, hs]
  refine wpAny_Try_except (wpAny_mono ((hb (wTwo X.N.length C i ts D) (X.pn ++ pins) (fun e s₁ => wpAny (model X.prog X.w) X.A (noteFrame e X.env) (fun _ s₂ => wpAny (model X.prog X.w) X.A (setFlight e none) (fun _ s₃ =>
    wpAny (model X.prog X.w) X.A (handleBy e X.env (.ExceptHandler (some (.Tuple (nmE xs1) k1 p1)) (some n1) (b1 :: su1) q1 :: .ExceptHandler (some (.Tuple (nmE xs2) k2 p2)) (some n) (b₀ :: suite) q2 :: rest)) (SP X pins D) X.xe s₃) X.xe s₂) X.xe s₁) (fun u s' met => ?_)).run [] s σ H D (I.toTry _) want) (fun f s1 done => ?_) (fun e s1 he => he))
  · obtain ⟨a, B, sI, pins', σ', H', cls, d, eu, J', nb, up, sky, na, os, ag, ec, w⟩ := met
    subst eu
    subst ec
    have J := (show Inv X pins σ' H' sI from J'.ofTry ok)
    show wpAny (model X.prog X.w) X.A (noteFrame (.ref a) X.env) _ _ s'
    refine Sky.land Zc.steady fr hf (show Sky B (X.env :: X.outer) a (Zc cls d) X.env.locals s'.heap by rw [← hs]; exact sky) fun h3 fl3 up3 => ?_
    have dn : Down X pins σ' H' B a cls d { s' with heap := h3 } := ⟨fl3, fun h' st up' => J.landed nb st ((up.trans up3).trans up') os ag⟩
    refine wpAny_handleBy_cons (codeAny_handlers_test (clause_test dn hs hf na h1 l1 (fun h tpl X0 LT hp => exm_none X0 LT hp e1) fun s4 d4 => ?_)) (by intro q; cases q)
    show wpAny _ X.A (handleBy (.ref a) X.env (.ExceptHandler (some (.Tuple (nmE xs2) k2 p2)) (some n) (b₀ :: suite) q2 :: rest)) _ _ s4
    refine wpAny_handleBy_cons (codeAny_handlers_test (clause_test d4 hs hf na h2 l2 (fun h tpl X0 LT hp => exm_some X0 LT hp e2 e3 e4) fun s5 d5 => ?_)) (by intro q; cases q)
    show codeAny _ _ _ _ s5
    refine codeAny_handlers_suite_as (HandSPX.lands_againZ d5.fl fun h6 fl6 up6 => ?_)
    have J6 := d5.inv h6 fl6.1 up6
    obtain ⟨oe, vs, he, hz, hd⟩ := fl6.there
    obtain ⟨nL, nF⟩ := d5.off hs hf
    have S6 := J6.suite he hd na nL nF
    refine store_ok (X := X.suite a ((a, oe) :: (X.pn ++ pins))) (v := .ref a) S6 nd hi (.inl ln) rfl (fun s7 S7 => ?_) (.inr ln)
    refine wpAny_mono ((su a oe cls d (X.pn ++ pins) hz ⟨_, hd⟩).run [] s7 _ H' _ S7 (w a na J.len)) (fun f s8 fin => ?_) (fun _ _ z => False.elim z)
    have gone : ∀ {σ9 : L2.St} {H9 : Hp} {Q : Shared → Prop}, Inv (X.suite a ((a, oe) :: (X.pn ++ pins))) [] σ9 H9 s8 → (∀ s9, Inv X pins (σ9.set i none) H9 s9 → Q s9) → wpAny (model X.prog X.w) X.A (do bindName X.env n .none; unbindBehindTheSuite X.env n q2) (fun _ s9 => Q s9) X.xe s8 := fun S9 hq => gone_ok (S9.unsuite ok) nd hi ln hq
    cases f with
    | next =>
      obtain ⟨σ9, H9, S9, r9⟩ := fin
      exact gone S9 fun s9 J9 => ⟨_, _, J9, r9⟩
    | brk =>
      obtain ⟨σ9, H9, S9, r9⟩ := fin
      exact gone S9 fun s9 J9 => ⟨_, _, J9, r9⟩
    | cont =>
      obtain ⟨σ9, H9, S9, r9⟩ := fin
      exact gone S9 fun s9 J9 => ⟨_, _, J9, r9⟩
    | ret u =>
      obtain ⟨v9, σ9, H9, S9, rv, r9⟩ := fin
      exact gone S9 fun s9 J9 => ⟨_, _, _, J9, rv, r9⟩
  · cases f with
    | next =>
      obtain ⟨σ2, H2, K2, r2⟩ := done
      exact wpAny_execs_nil ⟨σ2, H2, K2.ofTry ok, r2⟩
    | brk =>
      obtain ⟨σ2, H2, K2, r2⟩ := done
      exact ⟨σ2, H2, K2.ofTry ok, r2⟩
    | cont =>
      obtain ⟨σ2, H2, K2, r2⟩ := done
      exact ⟨σ2, H2, K2.ofTry ok, r2⟩
    | ret u =>
      obtain ⟨v, σ2, H2, K2, rv, r2⟩ := done
      exact ⟨v, σ2, H2, K2.ofTry ok, rv, r2⟩
end
end CT

/-! T2: the law's try. -/
namespace CT
open PySem PySem.Spec PyProof.Rows L2 LamX
open PySem.W (Looks exmOne)
/-- the classes that the law's try names first, and Flat -/
structure Refs (K : PySem.W.Frag) (mg : Str → Option Value) (CF : Addr) : Prop where
  a1 : ∃ c : Value, mg "BadName" = some c ∧ exmOne K (.ref CF) c = some false
  a2 : ∃ c : Value, mg "Twice" = some c ∧ exmOne K (.ref CF) c = some false
  a3 : ∃ c : Value, mg "Taken" = some c ∧ exmOne K (.ref CF) c = some false
  a4 : ∃ c : Value, mg "InUse" = some c ∧ exmOne K (.ref CF) c = some false
  a5 : ∃ c : Value, mg "NoRow" = some c ∧ exmOne K (.ref CF) c = some false
  a6 : ∃ c : Value, mg "NoWatch" = some c ∧ exmOne K (.ref CF) c = some false
  b1 : ∃ c : Value, mg "Nought" = some c ∧ exmOne K (.ref CF) c = some false
  b2 : ∃ c : Value, mg "BadCorner" = some c ∧ exmOne K (.ref CF) c = some false
  b3 : exmOne K (.ref CF) (.ref CF) = some true
  b4 : ∃ c : Value, mg "Unbuilt" = some c ∧ exmOne K (.ref CF) c = some false
  b5 : ∃ c : Value, mg "BadText" = some c ∧ exmOne K (.ref CF) c = some false
  mg : mg "Flat" = some (.ref CF)
  xf : XfC K CF
  called : NoAttr K CF "called"
  at_ : NoAttr K CF "at"
/-- told: ("told", what is told), or ("Flat", k) -/
def TTried (CF : Addr) : (XK → Hp → VK → Prop) → Hp → VK → Prop := fun tl H Q =>
  tl (fun cls d H' => cls = .ref CF ∧ ∃ (dd : Addr) (k : Int), d = some dd ∧ H' dd = some (.xd (flatD k)) ∧ ∀ t, H' t = none → Q (.ref t) (upd H' t (.tup [.str "Flat", .int k])))
    H (fun v H' => ([V.str "told", v] : List V).length ≤ sizeLine ∧ ∀ t, H' t = none → Q (.ref t) (upd H' t (.tup [.str "told", v])))
theorem sc_tried : FnScope ["_law_act", "e"] ["_law_act"] (defScope s_law_tried) := ⟨rfl, rfl, rfl, by decide +kernel, rfl, by decide +kernel, by decide +kernel⟩
theorem tried_gives {X : Cx} {g CF : Addr} {cdg : Value} {q : Str} (R : Refs X.K X.mg CF) : GivesTo X ["_law_act", "e"] "_law_tried" (defScope s_law_tried) g cdg (defBody s_law_tried) "_law_act" q (TTried CF) := by
  intro f c' s H Q tl act hc want
  obtain ⟨v1, m1, x1⟩ := R.a1
  obtain ⟨v2, m2, x2⟩ := R.a2
  obtain ⟨v3, m3, x3⟩ := R.a3
  obtain ⟨v4, m4, x4⟩ := R.a4
  obtain ⟨v5, m5, x5⟩ := R.a5
  obtain ⟨v6, m6, x6⟩ := R.a6
  obtain ⟨u1, n1, y1⟩ := R.b1
  obtain ⟨u2, n2, y2⟩ := R.b2
  obtain ⟨u4, n4, y4⟩ := R.b4
  obtain ⟨u5, n5, y5⟩ := R.b5
  refine ⟨_, pss_one (ps_try_two (X := (cxOf C8.CX0 X.prog X.w X.K X.mg X.base ["_law_act", "e"] "_law_tried" (defScope s_law_tried) g cdg X.A X.stack s H C8.E0).nox) (i := 1) (C := .ref CF) (cs1 := [v1, v2, v3, v4, v5, v6]) (pre := [u1, u2]) (post := [u4, u5])
      (xs1 := [("BadName", _), ("Twice", _), ("Taken", _), ("InUse", _), ("NoRow", _), ("NoWatch", _)]) (xs2 := [("Nought", _), ("BadCorner", _), ("Flat", _), ("Unbuilt", _), ("BadText", _)])
      (tb := fun W D σ H => ∃ Ech : XK, (∀ cls d σ' H', Ech cls d H' → W cls d σ' H') ∧ σ[0]? = some (some (.ref f)) ∧ H c' = some (CodeO c' q) ∧ tl Ech H fun v H' => ([V.str "told", v] : List V).length ≤ sizeLine ∧ ∀ t, H' t = none → D.rt (.ref t) (upd H' t (.tup [.str "told", v])))
      rfl rfl sc_tried.nd rfl rfl
      (.cons rfl (by decide) m1 (.cons rfl (by decide) m2 (.cons rfl (by decide) m3 (.cons rfl (by decide) m4 (.cons rfl (by decide) m5 (.cons rfl (by decide) m6 .nil))))))
      (.cons rfl (by decide) n1 (.cons rfl (by decide) n2 (.cons rfl (by decide) R.mg (.cons rfl (by decide) n4 (.cons rfl (by decide) n5 .nil))))) (by show 6 ≤ 100; decide) (by show 5 ≤ 100; decide) ?_ ?_ R.b3 ?_
      (fun W pn xe tk => ?_) (fun a oe cls d pn hz hf => pss_one (ps_ret (pe_tup (pa_cons (pe_xf R.xf R.called hz hf (pv 1)) (pa_cons (pe_xf R.xf R.at_ hz hf (pv 1)) pa_nil)))))), ?_⟩
  · intro c hc
    simp only [List.mem_cons, List.not_mem_nil, or_false] at hc
    rcases hc with rfl | rfl | rfl | rfl | rfl | rfl <;> assumption
  · intro c hc
    simp only [List.mem_cons, List.not_mem_nil, or_false] at hc
    rcases hc with rfl | rfl <;> assumption
  · intro c hc
    simp only [List.mem_cons, List.not_mem_nil, or_false] at hc
    rcases hc with rfl | rfl <;> assumption
  · refine ⟨fun pins s' σ H' D I ⟨Ech, hW, h1, h2, h3⟩ => ?_⟩
    exact (pss_one (ps_ret (pe_tup (pa_cons pe_str (pa_cons (act W pn xe Ech _ _ tk hW) pa_nil))))).run pins s' σ H' D I ⟨h1, h2, h3⟩
  · refine ⟨_, fun cls d σ' H' h => ?_, rfl, hc, want⟩
    obtain ⟨rfl, dd, k, rfl, hd, fin⟩ := h
    refine ⟨rfl, fun a na hl => ?_⟩
    have at1 : (σ'.set 1 (some (V.ref a)))[1]? = some (some (V.ref a)) := List.getElem?_set_self (by show 1 < σ'.length; rw [hl]; show 1 < 2; decide)
    exact ⟨_, at1, rfl, rfl, dd, flatD k, _, rfl, hd, rfl, _, at1, rfl, rfl, dd, flatD k, _, rfl, hd, rfl, two_le, fun t nt => fin t nt⟩
end CT

/-! W16: the law's likeness. -/
namespace CT
open PySem PySem.Spec PyProof.Rows L2
/-- alike: told True -/
def spSub (sub : Hp → V → V → Prop) : Sp := fun vs H Q _ => ∃ x y : V, vs = [x, y] ∧ sub H x y ∧ ∀ H', Same H H' → Q (.bl true) H'
def subI : Hp → V → V → Prop := fun _ x y => ∃ i : Int, x = .int i ∧ y = .int i
/-- both lists or both tuples, their items alike -/
def subS (K : PySem.W.Frag) (sub : Hp → V → V → Prop) : Hp → V → V → Prop := fun H x y => ∃ (a b : Addr) (xs ys : List V), x = .ref a ∧ y = .ref b ∧ ((SqL K H a xs ∧ SqL K H b ys) ∨ (SqT K H a xs ∧ SqT K H b ys)) ∧ xs.length = ys.length ∧ xs.length ≤ 100 ∧
  ∀ (i : Nat) (u v : V) (H' : Hp), Same H H' → xs[i]? = some u → ys[i]? = some v → sub H' u v
theorem ty_list {K : PySem.W.Frag} {H : Hp} {a : Addr} {xs : List V} (h : SqL K H a xs) : TyX K H (.ref a) (.type "list") := by
  rcases h with (h | ⟨o, h⟩) | ⟨o, its, n, h1, h2, _⟩
  · exact .base (.lst h)
  · exact .base (.frz h)
  · exact .kList h1 h2
theorem ty_tup {K : PySem.W.Frag} {H : Hp} {a : Addr} {xs : List V} (h : SqT K H a xs) : TyX K H (.ref a) (.type "tuple") := by
  rcases h with (h | ⟨o, h⟩) | ⟨o, its, n, h1, h2, _⟩
  · exact .base (.tup h)
  · exact .fTuple h
  · exact .kTuple h1 h2
section
variable {P : Program} {w : World} {K : PySem.W.Frag} {mg : Str → Option Value} {base : Heap} {f : Addr} {fd : FuncData}
abbrev CalLike (P : Program) (w : World) (K : PySem.W.Frag) (mg : Str → Option Value) (base : Heap) (k : Nat) (sub : Hp → V → V → Prop) : Prop := Cal P w K mg base CX0 "_law_like" k ["_law_found", "_law_due"] (spSub sub)
theorem sc_like : FnScope ["_law_found", "_law_due", "_law_k"] ["_law_found", "_law_due"] (defScope s_law_like) := ⟨rfl, rfl, rfl, by decide +kernel, rfl, by decide +kernel, by decide +kernel⟩
theorem pair2 : Paired ClsV [.ty "list", .ty "tuple"] [.type "list", .type "tuple"] := .cons (.ty _) (.cons (.ty _) .nil)
theorem ok_likeI (F : FnP K "_law_like" s_law_like f fd) (G : Tops mg) : FnOk P w K mg base CX0 1 f fd ["_law_found", "_law_due"] (spSub subI) := by
  refine F.ok sc_like (fun vs H Q E h => ?_) (fun cdv A' outer s H vs Q E hr h => ?_)
  · obtain ⟨x, y, rfl, _⟩ := h
    rfl
  · obtain ⟨x, y, rfl, ⟨i, rfl, rfl⟩, k⟩ := h
    refine ⟨_, PSs.nox <| pss_cons (ps_if (pt_val (pe_callB call_isiT (by rfl) G.isinstance (by decide +kernel) (pa_cons (pv 1) (pa_cons (pe_tup (pa_cons (pe_bltn (v := .ty "list") (by rfl) G.list (by decide +kernel) rfl) (pa_cons (pe_bltn (v := .ty "tuple") (by rfl) G.tuple (by decide +kernel) rfl) pa_nil))) pa_nil)))) pss_never pss_nil) <|
      pss_cons (ps_if (PW.pt (pw_or (pt_cmpR op_ne (pe_callB call_isi (by rfl) G.isinstance (by decide +kernel) (pa_cons (pv 0) (pa_cons (pe_bltn (v := .ty "bool") (by rfl) G.bool (by decide +kernel) rfl) pa_nil))) (pe_callB call_isi (by rfl) G.isinstance (by decide +kernel) (pa_cons (pv 1) (pa_cons (pe_bltn (v := .ty "bool") (by rfl) G.bool (by decide +kernel) rfl) pa_nil))) (nomark _))
        (pw_or1 (pt_cmpR op_ne (pe_callB call_isi (by rfl) G.isinstance (by decide +kernel) (pa_cons (pv 0) (pa_cons (pe_bltn (v := .ty "int") (by rfl) G.int (by decide +kernel) rfl) pa_nil))) (pe_callB call_isi (by rfl) G.isinstance (by decide +kernel) (pa_cons (pv 1) (pa_cons (pe_bltn (v := .ty "int") (by rfl) G.int (by decide +kernel) rfl) pa_nil))) (nomark _))))) pss_never pss_nil) <|
      pss_one (ps_ret (pe_and (pe_cmpR op_eq (pe_callB call_isi (by rfl) G.isinstance (by decide +kernel) (pa_cons (pv 0) (pa_cons (pe_bltn (v := .ty "str") (by rfl) G.str (by decide +kernel) rfl) pa_nil))) (pe_callB call_isi (by rfl) G.isinstance (by decide +kernel) (pa_cons (pv 1) (pa_cons (pe_bltn (v := .ty "str") (by rfl) G.str (by decide +kernel) rfl) pa_nil))) (nomark _)) (pe_one (pe_cmpR op_eq (pv 0) (pv 1) (nomark _))))), ?_⟩
    have tyI : ∀ H', TyX K H' (.int i) (.type "int") := fun _ => .base (.int i)
    refine ⟨_, rfl, two_le, fun tp ntp => ?_⟩
    refine ⟨_, tp, _, _, _, false, rfl, upd_same, pair2, tyI _, ?_, _, rfl, ?_⟩
    · exact kitAny_cons (b := false) (kit_ty (by decide +kernel)) (fun _ => kitAny_cons (b := false) (kit_ty (by decide +kernel)) (fun _ => kitAny_nil) (fun z => nomatch z)) (fun z => nomatch z)
    refine ite2 (fun z => nomatch z) (fun _ => ?_)
    refine ⟨_, rfl, _, _, _, _, false, rfl, .ty _, tyI _, kit_ty (by decide +kernel), _, rfl, _, _, _, _, false, rfl, .ty _, tyI _, kit_ty (by decide +kernel), rfl, _, rfl, ?_⟩
    refine ite2 (fun z => absurd z (by decide)) (fun _ => ?_)
    refine ⟨_, rfl, _, _, _, _, true, rfl, .ty _, tyI _, kit_ty (by decide +kernel), _, rfl, _, _, _, _, true, rfl, .ty _, tyI _, kit_ty (by decide +kernel), rfl, _, rfl, ?_⟩
    refine ite2 (fun z => absurd z (by decide)) (fun _ => ?_)
    refine ⟨_, rfl, _, _, _, _, false, rfl, .ty _, tyI _, kit_ty (by decide +kernel), _, rfl, _, _, _, _, false, rfl, .ty _, tyI _, kit_ty (by decide +kernel), rfl, _, rfl, ?_⟩
    refine ite2 (fun _ => ?_) (fun z => absurd (by decide) z)
    refine ⟨_, rfl, _, rfl, rfl, ?_⟩
    rw [decide_eq_true (rfl : V.int i = V.int i)]
    exact k _ (same_new ntp)
theorem ok_likeS {k : Nat} {sub : Hp → V → V → Prop} (F : FnP K "_law_like" s_law_like f fd) (G : Tops mg) (C : CalLike P w K mg base k sub) : FnOk P w K mg base CX0 (k + 1) f fd ["_law_found", "_law_due"] (spSub (subS K sub)) := by
  refine F.ok sc_like (fun vs H Q E h => ?_) (fun cdv A' outer s H vs Q E hr h => ?_)
  · obtain ⟨x, y, rfl, _⟩ := h
    rfl
  · obtain ⟨x, y, rfl, ⟨a, b, xs, ys, rfl, rfl, kind, el, l100, alike⟩, k⟩ := h
    refine ⟨_, PSs.nox <| pss_cons (ps_if (pt_val (pe_callB call_isiT (by rfl) G.isinstance (by decide +kernel) (pa_cons (pv 1) (pa_cons (pe_tup (pa_cons (pe_bltn (v := .ty "list") (by rfl) G.list (by decide +kernel) rfl) (pa_cons (pe_bltn (v := .ty "tuple") (by rfl) G.tuple (by decide +kernel) rfl) pa_nil))) pa_nil))))
        (pss_cons (ps_if (PW.pt (pw_or (pt_cmpR op_ne (pe_callB call_isi (by rfl) G.isinstance (by decide +kernel) (pa_cons (pv 0) (pa_cons (pe_bltn (v := .ty "list") (by rfl) G.list (by decide +kernel) rfl) pa_nil))) (pe_callB call_isi (by rfl) G.isinstance (by decide +kernel) (pa_cons (pv 1) (pa_cons (pe_bltn (v := .ty "list") (by rfl) G.list (by decide +kernel) rfl) pa_nil))) (nomark _))
          (pw_or1 (pt_cmpR op_ne (pe_callB call_isi (by rfl) G.isinstance (by decide +kernel) (pa_cons (pv 0) (pa_cons (pe_bltn (v := .ty "tuple") (by rfl) G.tuple (by decide +kernel) rfl) pa_nil))) (pe_callB call_isi (by rfl) G.isinstance (by decide +kernel) (pa_cons (pv 1) (pa_cons (pe_bltn (v := .ty "tuple") (by rfl) G.tuple (by decide +kernel) rfl) pa_nil))) (nomark _))))) pss_never pss_nil) <|
        pss_one (ps_ret (pe_and (pe_cmpR op_eq (pe_callB call_len_seq (by rfl) G.len PySem.boot_len (pa_cons (pv 0) pa_nil)) (pe_callB call_len_seq (by rfl) G.len PySem.boot_len (pa_cons (pv 1) pa_nil)) (nomark _))
          (pe_one (pe_callB (cr_all (by rfl)) (by rfl) G.all (by decide +kernel) (pa_cons (pe_lc (own := [("_law_k", 2)]) (g := gName 2) (tt := tYes) (by rfl) sc_like.nd (pi_range1 rfl G.range (pa_cons (pe_callB call_len_seq (by rfl) G.len PySem.boot_len (pa_cons (pv 1) pa_nil)) pa_nil))
            (blkOk_by (N := ["_law_found", "_law_due", "_law_k"]) (sc := defScope s_law_like) (by decide +kernel)) (fun _ _ _ _ _ => pg_name (i := 2) sc_like.nd rfl (.inl rfl)) (fun _ _ _ _ _ => pts_nil)
            (fun _ _ _ _ _ => pe_cal C hr rfl pass0 (pa_cons (pe_ix (show IxR _ (rIx K) from ix_seq) (pv 0) (pv 2) (fun _ _ => rfl)) (pa_cons (pe_ix (show IxR _ (rIx K) from ix_seq) (pv 1) (pv 2) (fun _ _ => rfl)) pa_nil)))) pa_nil)))))) pss_nil) <|
      pss_never, ?_⟩
    obtain ⟨nm, b1, b2, t1, t2, k1, k2, kA⟩ : ∃ (nm : String) (b1 b2 : Bool), (∀ H', Same H H' → TyX K H' (.ref a) (.type nm)) ∧ (∀ H', Same H H' → TyX K H' (.ref b) (.type nm)) ∧ PySem.W.kitOne K (.type nm) (.type "list") = some b1 ∧ PySem.W.kitOne K (.type nm) (.type "tuple") = some b2 ∧
        PySem.W.kitAny K (.type nm) [.type "list", .type "tuple"] = some true := by
      rcases kind with ⟨h1, h2⟩ | ⟨h1, h2⟩
      · refine ⟨"list", true, false, fun H' s => ty_list (s.seq h1), fun H' s => ty_list (s.seq h2), kit_ty (by decide +kernel), kit_ty (by decide +kernel), ?_⟩
        exact kitAny_cons (b := true) (kit_ty (by decide +kernel)) (fun z => nomatch z) (fun _ => rfl)
      · refine ⟨"tuple", false, true, fun H' s => ty_tup (same_tup s h1), fun H' s => ty_tup (same_tup s h2), kit_ty (by decide +kernel), kit_ty (by decide +kernel), ?_⟩
        exact kitAny_cons (b := false) (kit_ty (by decide +kernel)) (fun _ => kitAny_cons (b := true) (kit_ty (by decide +kernel)) (fun z => nomatch z) (fun _ => rfl)) (fun z => nomatch z)
    have lenA : ∀ H', Same H H' → (SqL K H' a xs ∨ SqT K H' a xs) ∧ (SqL K H' b ys ∨ SqT K H' b ys) := fun H' s => by
      rcases kind with ⟨h1, h2⟩ | ⟨h1, h2⟩
      · exact ⟨.inl (s.seq h1), .inl (s.seq h2)⟩
      · exact ⟨.inr (same_tup s h1), .inr (same_tup s h2)⟩
    refine ⟨_, rfl, two_le, fun tp ntp => ?_⟩
    have s1 := same_new (o := .tup [V.ty "list", V.ty "tuple"]) ntp
    refine ⟨_, tp, _, _, _, true, rfl, upd_same, pair2, t2 _ s1, kA, _, rfl, ?_⟩
    refine ite2 (fun _ => ?_) (fun z => absurd rfl z)
    refine ⟨_, rfl, _, _, _, _, b1, rfl, .ty _, t1 _ s1, k1, _, rfl, _, _, _, _, b1, rfl, .ty _, t2 _ s1, k1, rfl, _, rfl, ?_⟩
    refine ite2 (fun z => absurd z (by cases b1 <;> decide)) (fun _ => ?_)
    refine ⟨_, rfl, _, _, _, _, b2, rfl, .ty _, t1 _ s1, k2, _, rfl, _, _, _, _, b2, rfl, .ty _, t2 _ s1, k2, rfl, _, rfl, ?_⟩
    refine ite2 (fun z => absurd z (by cases b2 <;> decide)) (fun _ => ?_)
    refine ⟨_, rfl, a, xs, rfl, (lenA _ s1).1, _, rfl, b, ys, rfl, (lenA _ s1).2, rfl, _, rfl, ?_⟩
    refine ite2 (fun _ => ?_) (fun z => absurd (decide_eq_true (by rw [el])) z)
    refine ⟨_, rfl, b, ys, rfl, (lenA _ s1).2, _, rfl, by omega, by omega, fun D nD => ?_⟩
    have en : ((ys.length : Nat) : Int).toNat = ys.length := by omega
    rw [en]
    refine lc_range (fun i H' => Same (upd H tp (.tup [V.ty "list", V.ty "tuple"])) H' ∧ H' D = some (.lst ((List.replicate i true).map V.bl))) ⟨same_new nD, upd_same⟩ (fun i Hi hi p => ?_) (fun H2 p => ?_)
    · have sH := s1.trans p.1
      have hx : xs[i]? = some (xs[i]'(by omega)) := List.getElem?_eq_getElem (by omega)
      have hy : ys[i]? = some (ys[i]'(by omega)) := List.getElem?_eq_getElem (by omega)
      have al := alike i _ _ Hi sH hx hy
      have e0 : (0 : Int) + (i : Int) = ((i : Nat) : Int) := by omega
      refine ⟨rfl, _, rfl, _, rfl, ?_⟩
      have rx : ∀ {Q' : VK}, Q' (xs[i]'(by omega)) Hi → rIx K (.ref a) (.int (0 + (i : Int))) Hi Q' := fun q => by
        rcases (lenA _ sH).1 with h | h
        · exact .inl ⟨a, xs, _, _, rfl, rfl, h, at_of (j := i) e0 hx, q⟩
        · exact .inr (.inl ⟨a, xs, _, _, rfl, rfl, h, at_of (j := i) e0 hx, q⟩)
      have ry : ∀ {Q' : VK}, Q' (ys[i]'(by omega)) Hi → rIx K (.ref b) (.int (0 + (i : Int))) Hi Q' := fun q => by
        rcases (lenA _ sH).2 with h | h
        · exact .inl ⟨b, ys, _, _, rfl, rfl, h, at_of (j := i) e0 hy, q⟩
        · exact .inr (.inl ⟨b, ys, _, _, rfl, rfl, h, at_of (j := i) e0 hy, q⟩)
      refine rx ⟨_, rfl, _, rfl, ry ⟨_, _, rfl, al, fun H3 s3 => ?_⟩⟩
      refine ⟨_, s3 _ _ p.2, ?_, same_put (p.1.trans s3) nD, ?_⟩
      · rw [List.length_map, List.length_replicate]
        exact small1000 (by omega)
      · rw [upd_same, List.replicate_succ', List.map_append]
        rfl
    · refine ⟨D, _, rfl, .of p.2, ?_⟩
      have e : (List.replicate ys.length true).all id = true := by simp
      rw [e]
      exact k H2 (s1.trans p.1)
end
/-! ### lists of parts -/
def subP (K : PySem.W.Frag) : Hp → V → V → Prop := subS K subI
def subL (K : PySem.W.Frag) : Hp → V → V → Prop := subS K (subP K)
theorem subP_of {K : PySem.W.Frag} {H : Hp} {a b : Addr} {q : Rat} (h1 : PartAt K H a q) (h2 : PartAt K H b q) : subP K H (.ref a) (.ref b) :=
  ⟨a, b, _, _, rfl, rfl, .inr ⟨h1, h2⟩, rfl, by show 2 ≤ 100; decide, fun i u v H' _ e1 e2 => by
    rw [e1] at e2
    cases e2
    match i, e1 with
    | 0, e1 =>
      cases e1
      exact ⟨_, rfl, rfl⟩
    | 1, e1 =>
      cases e1
      exact ⟨_, rfl, rfl⟩⟩
theorem subL_of {K : PySem.W.Frag} {H : Hp} {a b : Addr} {fs : List Rat} (h1 : PtsAt K H a fs) (h2 : PtsAt K H b fs) (hl : fs.length ≤ 100) : subL K H (.ref a) (.ref b) := by
  obtain ⟨ps, p1, p2⟩ := h1
  obtain ⟨qs, q1, q2⟩ := h2
  refine ⟨a, b, _, _, rfl, rfl, .inl ⟨p1, q1⟩, by rw [List.length_map, List.length_map, p2.len, q2.len], by rw [List.length_map, p2.len]; exact hl, fun i u v H' s e1 e2 => ?_⟩
  rw [List.getElem?_map] at e1 e2
  obtain ⟨p, hp, rfl⟩ := Option.map_eq_some_iff.mp e1
  obtain ⟨q, hq, rfl⟩ := Option.map_eq_some_iff.mp e2
  have hi : i < fs.length := by
    have := (List.getElem?_eq_some_iff.mp hp).1
    rw [p2.len] at this
    exact this
  have hf := List.getElem?_eq_getElem hi
  obtain ⟨p', hp', ap⟩ := p2.get hf
  obtain ⟨q', hq', aq⟩ := q2.get hf
  rw [hp] at hp'
  rw [hq] at hq'
  cases hp'
  cases hq'
  exact subP_of (ap.same s) (aq.same s)
end CT

/-! W17: the law. -/
namespace CT
open PySem PySem.Spec PyProof.Rows L2 LamX
/-- len(o) by the class's own __len__ -/
theorem call_len_ins {X : Cx} {k : Nat} {f C : Addr} {fd : FuncData} {sp : Sp} (O : FnOk X.prog X.w X.K X.mg X.base CX0 k f fd ["self"] sp) (hm : Meth X.K C "__len__" f) (hb : L2.Binds X.K fd ["self"] []) (hr : Room (k + 1) X.A) :
    CallR X (.builtin "len") (fun xs H Q => ∃ (x dx : Addr) (fs : List (Str × V)), xs = [.ref x] ∧ H x = some (.ins C dx fs) ∧ sp [.ref x] H (fun v H' => ∃ n : Nat, v = .int (n : Int) ∧ n < 1000 ∧ Q v H') E0) := by
  intro pins s σ H xs us Q I r told
  obtain ⟨x, dx, fs, rfl, hx, want⟩ := told
  rw [Vals.ref1 r]
  obtain ⟨mA, J, _⟩ := ins_get I.hok hx
  obtain ⟨od, J, _⟩ := J.look
  obtain ⟨m, hF⟩ := I.fr
  refine PySem.W.len_K hF I.ok.mod.kin J hm.at_ hm.fn (wpAny_call (codeAny_mono (O.run X.A.in1 X.stack s H ⟨[.ref x], []⟩ [.ref x] [.ref x] _ E0 hr.in1 I.env0.in1 (hb s [.ref x] I.kIn rfl) (.cons rfl .nil) want) fun r s' hq => ?_))
  cases r with
  | error er => exact (show False from hq).elim
  | ok fl =>
    cases fl with
    | ret u =>
      obtain ⟨v, H', I', rv, n, ev, hn, q⟩ := I.after hq
      subst ev
      obtain ⟨t, rfl⟩ := rv
      refine ⟨⟨by omega, by omega⟩, .int (n : Int), H', I'.tok _, ⟨_, rfl⟩, q⟩
    | next => exact False.elim hq
    | brk => exact False.elim hq
    | cont => exact False.elim hq
/-! ### what stays when a table grows -/
section
variable {K : PySem.W.Frag} {H H' : Hp} {b C : Addr} {T : List (Addr × Str)}
theorem sqT_n {a : Addr} {ts : List V} (h : SqT K H a ts) (s : ExtN H H') : SqT K H' a ts := by
  rcases h with (h | ⟨u, h⟩) | h
  · exact .inl (.inl (s _ _ h fun _ z => nomatch z))
  · exact .inl (.inr ⟨u, s _ _ h fun _ z => nomatch z⟩)
  · exact .inr h
theorem sqL_n {a : Addr} {ts : List V} (h : SqL K H a ts) (s : ExtN H H') : SqL K H' a ts := by
  rcases h with (h | ⟨u, h⟩) | h
  · exact .inl (.inl (s _ _ h fun _ z => nomatch z))
  · exact .inl (.inr ⟨u, s _ _ h fun _ z => nomatch z⟩)
  · exact .inr h
theorem ar_n {a : Addr} {z : Ar} (h : ArAt K H a z) (s : ExtN H H') : ArAt K H' a z := by
  obtain ⟨p, q, h1, h2, h3⟩ := h
  exact ⟨p, q, sqT_n h1 s, sqT_n h2 s, sqT_n h3 s⟩
theorem pts_n {a : Addr} {ws : List Rat} (h : PtsAt K H a ws) (s : ExtN H H') : PtsAt K H' a ws := by
  obtain ⟨ps, h1, h2⟩ := h
  exact ⟨ps, sqL_n h1 s, h2.imp fun _ _ q => sqT_n q s⟩
theorem row_n {x : Addr} {rs : List Rod} (h : RowAt K C H x rs) (s : ExtN H H') : RowAt K C H' x rs := by
  obtain ⟨dx, l, p, z, h1, ⟨ps, h2, h3⟩, h4⟩ := h
  refine ⟨dx, l, p, z, s _ _ h1 (fun _ z => nomatch z), ⟨ps, sqL_n h2 s, h3.imp fun _ _ q => ?_⟩, ar_n h4 s⟩
  obtain ⟨c, q1, q2⟩ := q
  exact ⟨c, sqT_n q1 s, ar_n q2 s⟩
theorem box_n (h : BoxAt K H b) (s : ExtN H H') : BoxAt K H' b := by
  obtain ⟨c, ns, i, n, s0, t, h1, h2, h3⟩ := h
  exact ⟨c, ns, i, n, s0, t, s _ _ h1 (fun _ z => nomatch z), sqL_n h2 s, h3⟩
theorem tabs_drew (h : Tabs T H) (d : Drew K b H H') : Tabs T H' := fun p hp => by
  obtain ⟨ps, h1, h2, h3⟩ := h p hp
  obtain ⟨_, _, _, _, _, _, hb, _⟩ := d.b0
  refine ⟨ps, d.but _ _ (ne_of h1 hb (by intro z; cases z)) h1, h2, fun pos cv hc => ?_⟩
  obtain ⟨cc, k1, k2⟩ := h3 pos cv hc
  exact ⟨cc, k1, d.but _ _ (ne_of k2 hb (by intro z; cases z)) k2⟩
end
/-! ### plain -/
theorem folds_same {zs : List Ar} {fs gs : List Rat} (h : Folds zs fs) (k : Folds zs gs) : gs = fs := sorted_unique k.1 h.1 fun w => by rw [k.2, h.2]
theorem rat_len : ∀ {l m : List Rat}, l.Nodup → (∀ x ∈ l, x ∈ m) → l.length ≤ m.length
  | [], _, _, _ => Nat.zero_le _
  | x :: l, m, nd, hs => by
    obtain ⟨h1, h2⟩ := List.nodup_cons.mp nd
    have hx : x ∈ m := hs x List.mem_cons_self
    have ih := rat_len (l := l) (m := m.erase x) h2 fun y hy => (List.mem_erase_of_ne (fun (e : y = x) => h1 (by rw [← e]; exact hy))).2 (hs y (List.mem_cons_of_mem _ hy))
    have e := List.length_erase_of_mem hx
    have hp := List.length_pos_of_mem hx
    rw [List.length_cons]
    omega
theorem folds_len {zs : List Ar} {fs : List Rat} (h : Folds zs fs) : fs.length ≤ zs.length := by
  have nd : fs.Nodup := h.1.imp fun hab e => by
    rw [e] at hab
    exact absurd hab Rat.lt_irrefl
  have q := rat_len (m := zs.map wt) nd fun w hw => ((h.2 w).mp hw).1
  rw [List.length_map] at q
  exact q
theorem rowB_drawn {rs : List Rod} (h : Drawn rs) : RowB (lb 0) (ars rs) := ⟨6, by decide, by decide, fun z hz => ⟨(h.ar z hz).1.il, (h.ar z hz).1.wt, (h.ar z hz).2⟩⟩
theorem ars_app {pre post : List Rod} {a b : Rod} : ars (pre ++ a :: b :: post) = ars pre ++ a.2 :: b.2 :: ars post := by simp [ars]
theorem trd_bits {rs rs' : List Rod} {k j : Nat} (h : trd rs k = some rs') (hB : RowB (lb j) (ars rs)) : RowB (lb (j + 1)) (ars rs') := by
  obtain ⟨pre, post, a, b, c, d, _, rfl, rfl, e⟩ := trd_some h
  rw [ars_app] at hB ⊢
  exact hB.trade e
theorem trd_folds {rs rs' : List Rod} {k : Nat} {fs gs : List Rat} (h : trd rs k = some rs') (hf : Folds (ars rs) fs) (hg : Folds (ars rs') gs) : gs = fs := by
  obtain ⟨pre, post, a, b, c, d, _, rfl, rfl, e⟩ := trd_some h
  rw [ars_app] at hf hg
  exact folds_trade (ex_some e) hf hg
theorem trd_flat {rs : List Rod} {k : Nat} {fs : List Rat} (hk : k + 1 < rs.length) (h : trd rs k = none) (hf : Folds (ars rs) fs) : fs ≠ [] := by
  obtain ⟨pre, post, a, b, rfl, e⟩ := trd_none hk h
  rw [ars_app] at hf
  exact folds_flat (ex_none e) hf
theorem sh_flat (i : Int) : SeqAt.shaped (.tuple [.str "Flat", .int i]) = true := by
  unfold SeqAt.shaped
  simp only [PyData.canLay0, PyData.canLayAll0, PyData.depth, PyData.depthAll, Bool.and_true]
  exact (by decide +kernel : (PyData.strOk "Flat" && decide (max 0 (max 0 0) + 1 ≤ 64)) = true)
/-! ### the law -/
def spLaw (K : PySem.W.Frag) (P : Addr) : Sp := fun vs H Q _ => ∃ (a : Addr) (ns : List Int), vs = [.ref a] ∧ SqL K H a (ns.map V.int) ∧ H P = some (.tbl #[]) ∧ ∀ H', Q (.bl true) H'
abbrev nL : List Str := ["_law_script", "_law_box_here", "_law_turn", "_law_row", "_law_due", "_law_at", "_law_told"]
theorem sc_law : FnScope nL ["_law_script"] (defScope slaw) := ⟨rfl, rfl, rfl, by decide +kernel, rfl, by decide +kernel, by decide +kernel⟩
section
variable {w : World} {P : Program} {K : PySem.W.Frag} {base : Heap} {mg : Str → Option Value}
structure LawEnv (P : Program) (w : World) (K : PySem.W.Frag) (mg : Str → Option Value) (base : Heap) (C CF fI fT fL gT c PT : Addr) (fdI fdT fdL fdG : FuncData) (vS : V) : Prop where
  G : Tops mg
  R : RowC K mg C fI
  FI : FunD K "__init__" "Row.__init__" (defArgs sRow_init) (defBody sRow_init) (defScope sRow_init) [] [("start", vS)] fI fdI
  OI : FnOk P w K mg base CX0 3 fI fdI ["self", "rods", "start"] (spInit K C)
  mT : Meth K C "traded" fT
  OT : FnOk P w K mg base (L2.CX P w) 47 fT fdT ["self", "at"] (spTraded K C CF)
  bT : L2.Binds K fdT ["self", "at"] []
  mL : Meth K C "__len__" fL
  OL : FnOk P w K mg base CX0 1 fL fdL ["self"] (spLen K C)
  bL : L2.Binds K fdL ["self"] []
  box : Cal P w K mg base CX0 "_law_box" 1 ["_law_script"] (spBox K)
  rods : Cal P w K mg base CX0 "_law_rods" 6 ["_law_box_here", "_law_low_here", "_law_most"] (spLRods K)
  spot : Cal P w K mg base CX0 "_law_spot" 4 ["_law_box_here"] (spSpot K)
  word : Cal P w K mg base CX0 "_law_word" 2 ["_law_box_here", "_law_size", "_law_most"] (spWord K)
  folded : Cal P w K mg base CX0 "folded" 47 ["row"] (spFolded K C)
  like : CalLike P w K mg base 3 (subL K)
  refs : Refs K mg CF
  FT : FnP K "_law_tried" s_law_tried gT fdG
  gT : mg "_law_tried" = some (.ref gT)
  TB : TabB base mg c PT
/-- the turn's end -/
theorem last_if {C y Dd : Addr} {D : Ends} {σ : L2.St} {H : Hp} {rs : List Rod} {fs : List Rat} {l : Nat} (h3 : σ[3]? = some (some (V.ref y))) (h4 : σ[4]? = some (some (V.ref Dd))) (row : RowAt K C H y rs) (up : rs.length ≤ 8) (hB : RowB l (ars rs)) (hl : l ≤ 442863) (due : PtsAt K H Dd fs)
    (one : ∀ gs, Folds (ars rs) gs → gs = fs) (go : ∀ H', Same H H' → Folds (ars rs) fs → D.nx σ H') :
    tIfS (tNot (tB (tCall (spSub (subL K)) [] E0 (tCons (tCall (spFolded K C) [] E0 (tCons (tVar 3) tNil)) (tCons (tVar 4) tNil))))) tNever tNext D σ H := by
  refine ⟨_, h3, y, rs, l, rfl, row, up, hB, hl, fun H1 p gs s1 hp hF => ⟨_, h4, _, _, rfl, ?_, fun H2 s2 => ⟨_, rfl, ?_⟩⟩⟩
  · have e := one gs hF
    subst e
    have fl := folds_len hF
    rw [List.length_map] at fl
    exact subL_of hp (due.same (stP K) s1) (by omega)
  · refine ite2 (fun z => absurd z (by decide)) (fun _ => ?_)
    have e := one gs hF
    rw [e] at hF
    exact go H2 (s1.trans s2) hF
theorem ok_law {f C CF fI fT fL gT c PT : Addr} {fd fdI fdT fdL fdG : FuncData} {vS : V} (F : FnP K "law" slaw f fd) (hc : fd.code = .ref c) (L : LawEnv P w K mg base C CF fI fT fL gT c PT fdI fdT fdL fdG vS) : FnOk P w K mg base CX0 50 f fd ["_law_script"] (spLaw K PT) := by
  obtain ⟨oc1, od1, dV1, kV1, doc1, pm1, an1, cdv, ct1, sl1, rfl, lk, hcd, _, _⟩ := F.ex
  obtain ⟨oc2, od2, dV2, kV2, doc2, pm2, an2, cdv2, ct2, osl2, e2, lk2, hcd2, _, _⟩ := L.FT.ex
  rw [e2] at lk2
  have bG : L2.Binds K (PySem.W.fnOf "_law_tried" "_law_tried" (defArgs s_law_tried) (defBody s_law_tried) (defScope s_law_tried) dV2 kV2 doc2 pm2 an2 cdv2 ct2) ["_law_act"] [] := by
    have b := L.FT.bindsN (ps := ["_law_act"]) fun _ _ _ _ _ _ us hl => match us, hl with | [_], _ => rfl
    rw [e2] at b
    exact b
  have ec : cdv = .ref c := hc
  subst ec
  obtain ⟨gg, kb⟩ := kb_row L.FI
  have G := L.G
  have R := L.R
  refine fn_of lk hcd sc_law (fun vs H Q E h => ?_) (fun A' outer s H vs Q E hr h => ?_)
  · obtain ⟨a, ns, rfl, _⟩ := h
    rfl
  · obtain ⟨a, ns, rfl, ha, hT, k⟩ := h
    have hr1 : Room 1 _ := hr.mono (by decide)
    have hr2 : Room 2 _ := hr.mono (by decide)
    have hr3 : Room 3 _ := hr.mono (by decide)
    have hr4 : Room 4 _ := hr.mono (by decide)
    have hr6 : Room 6 _ := hr.mono (by decide)
    have hr47 : Room 47 _ := hr.mono (by decide)
    refine ⟨_, PSs.nox <| pss_cons (ps_set (i := 1) sc_law.nd rfl (.inl rfl) (pe_cal L.box hr1 rfl pass0 (pa_cons (pv 0) pa_nil))) <|
      pss_cons (ps_for PassesOwn.never rfl (pi_range1 rfl G.range (pa_cons pe_int pa_nil)) (pg_name (i := 2) sc_law.nd rfl (.inl rfl))
        (pss_cons (ps_set (i := 3) sc_law.nd rfl (.inr rfl) (pe_makeK R.mak L.OI hr4 rfl R.mg kb pass0 (pa_cons (pe_cal L.rods hr6 rfl pass0 (pa_cons (pv 1) (pa_cons pe_int (pa_cons pe_int pa_nil)))) pa_nil) (pk_cons (pe_cal L.spot hr4 rfl pass0 (pa_cons (pv 1) pa_nil)) pk_nil))) <|
        pss_cons (ps_set (i := 4) sc_law.nd rfl (.inl rfl) (pe_cal L.folded hr47 rfl pass0 (pa_cons (pv 3) pa_nil))) <|
        pss_one (ps_for PassesOwn.never rfl (pi_list (pe_cal L.word hr2 rfl pass0 (pa_cons (pv 1) (pa_cons (pe_callB (call_len_ins L.OL L.mL L.bL hr2) (by rfl) G.len PySem.boot_len (pa_cons (pv 3) pa_nil)) (pa_cons pe_int pa_nil))))) (pg_name (i := 5) sc_law.nd rfl (.inr rfl))
          (pss_cons (ps_set (i := 6) sc_law.nd rfl (.inl rfl) (pe_lamcall (k := 47) (T := [(PT, "law.<locals>.<lambda>")]) (t := fun E => tMeth C "traded" (spTraded K C CF) [] E (tVar 3) (tCons (tVar 5) tNil)) rfl L.gT L.FT.kp lk2 hcd2 bG sc_tried rfl (.inl rfl) (tried_gives L.refs) L.TB rfl (by exact List.mem_singleton.mpr rfl) (fun p hp _ => by rw [List.mem_singleton.mp hp]; rfl) hr (lamS_by (sc := defScope slaw) (by decide +kernel)) rfl (fun _ _ _ _ _ => rfl)
              (fun A2 outer2 s2 H2 E2 f2 c2 hr' => pe_meth (pv 3) R.cls L.mT L.OT hr' L.bT .nil (passes_call (takes_of rfl rfl rfl rfl) fun _ _ _ _ h => h) (pa_cons (pv 5) pa_nil)))) <|
          pss_cons (ps_if (PW.pt (pw_and (pt_cmpR op_ne (pe_ix ix_tup (pv 6) pe_int (fun _ _ => rfl)) pe_str (nomark _)) (pw_and1 (PW.pt (pw_or (pt_cmpR (op_eqD hr.units) (pv 4) (pe_lst pa_nil) (nomark _)) (pw_or1 (pt_cmpR (op_neD hr.units) (pv 6) (pe_tup (pa_cons pe_str (pa_cons (pv 5) pa_nil))) (nomark _)))))))) pss_never pss_nil) <|
          pss_cons (ps_set (i := 3) sc_law.nd rfl (.inr rfl) (pe_ifExp (pt_cmpR op_eq (pe_ix ix_tup (pv 6) pe_int (fun _ _ => rfl)) pe_str (nomark _)) (pe_ix ix_tup (pv 6) pe_int (fun _ _ => rfl)) (pv 3))) <|
          pss_one (ps_if (pt_not (pt_val (pe_cal L.like hr3 rfl pass0 (pa_cons (pe_cal L.folded hr47 rfl pass0 (pa_cons (pv 3) pa_nil)) (pa_cons (pv 4) pa_nil))))) pss_never pss_nil))))) <|
      pss_one (ps_ret pe_bl), ?_⟩
    have tab0 : Tabs [(PT, "law.<locals>.<lambda>")] H := fun p hp => by
      rw [List.mem_singleton.mp hp]
      exact TabS.nil hT
    refine ⟨_, rfl, a, ns, rfl, ha, fun H1 b s1 hb1 nb => ?_⟩
    refine ⟨3, rfl, by decide, by decide, for_range (lo := 0) (n := (3 : Int).toNat) (fun i σ H' => ∃ x2 x3 x4 x5 x6 : Option V, σ = [some (.ref a), some (.ref b), x2, x3, x4, x5, x6] ∧ BoxAt K H' b ∧ Tabs [(PT, "law.<locals>.<lambda>")] H')
      ⟨none, none, none, none, none, rfl, hb1, tab0.ext s1⟩ ?_ ?_⟩
    · rintro i σ H2 hi ⟨x2, x3, x4, x5, x6, rfl, hb2, ht2⟩
      refine ⟨_, rfl, b, rfl, hb2, fun H3 l rs d1 hrs r2 r7 hd => ?_⟩
      refine ⟨_, rfl, b, rfl, d1.b1, fun H4 p z d2 hz sm => ⟨rfl, rfl, fun y dy ny ndy ne => ?_⟩⟩
      have dd := d1.trans d2
      have s2 : Same H4 (upd (upd H4 dy (.own y)) y (.ins C dy [])) := (same_new ndy).trans (same_new (by rw [upd_ne (fun z => ne z.symm)]; exact ny))
      have okR : RodsOk rs := ⟨by omega, by omega, hd.names, fun z hz => (hd.ar z hz).2⟩
      refine ⟨y, dy, l, p, rs, z, rfl, upd_same, (d2.rods hrs).same s2, okR, hz.same s2, fun H5 hrow bu => ⟨rfl, ?_⟩⟩
      have s45 : Same H4 H5 := fun c o e => bu c o (ne_of_none e ny) (s2 c o e)
      have up := okR.up
      refine ⟨_, rfl, y, rs, lb 0, rfl, hrow, up, rowB_drawn hd, by decide, fun H6 D fs s6 hD hF => ?_⟩
      have hb6 : BoxAt K H6 b := (dd.b1.same s45).same s6
      have ht6 := ((tabs_drew ht2 dd).ext s45).ext s6
      have hrow6 := hrow.same s6
      obtain ⟨dx6, l6, p6, z6, hi6, _⟩ := id hrow6
      refine ⟨_, rfl, _, rfl, y, dx6, _, rfl, hi6, y, rs, rfl, hrow6, rs.length, rfl, by omega, b, rs.length, rfl, hb6, r2, by omega, fun H7 l2 ks d7 hks l10 hk => ?_⟩
      refine ⟨l2, rfl, ⟨_, hks⟩, for_list (xs := ks.map V.int) (fun j σ H' => ∃ (y : Addr) (rs' : List Rod) (x5 x6 : Option V), σ = [some (.ref a), some (.ref b), some (.int (0 + (i : Int))), some (.ref y), some (.ref D), x5, x6] ∧ BoxAt K H' b ∧ Tabs [(PT, "law.<locals>.<lambda>")] H' ∧ SqL K H' l2 (ks.map V.int) ∧ RowAt K C H' y rs' ∧ RodsOk rs' ∧
          RowB (lb j) (ars rs') ∧ rs'.length = rs.length ∧ PtsAt K H' D fs ∧ Folds (ars rs') fs)
        ⟨y, rs, x5, x6, rfl, d7.b1, tabs_drew ht6 d7, hks, d7.row hrow6, okR, rowB_drawn hd, rfl, d7.pts hD, hF⟩ ?_ ?_ ?_⟩
      · rintro j σ H8 hj ⟨y, rs', x5, x6, rfl, _, _, h, _⟩
        exact h
      · rintro j v σ H8 hv ⟨y, rs', x5, x6, rfl, hb8, ht8, hk8, hr8, ok8, hB8, el8, hD8, hF8⟩
        rw [List.getElem?_map] at hv
        obtain ⟨kk, hkk, rfl⟩ := Option.map_eq_some_iff.mp hv
        have hj := (List.getElem?_eq_some_iff.mp hkk).1
        obtain ⟨k1, k2⟩ := hk kk (List.mem_of_getElem? hkk)
        obtain ⟨m, rfl⟩ : ∃ m : Nat, kk = ((m + 1 : Nat) : Int) := ⟨kk.toNat - 1, by omega⟩
        have hm : m + 1 < rs'.length := by omega
        have lbj : lb j ≤ 442863 := by
          have q := lb_le (show j ≤ 10 by omega)
          rw [lb10] at q
          exact q
        have lbj1 : lb (j + 1) ≤ 442863 := by
          have q := lb_le (show j + 1 ≤ 10 by omega)
          rw [lb10] at q
          exact q
        have up8 := ok8.up
        refine ⟨ht8, fun H9 eN t9 => ?_⟩
        have hb9 := box_n hb8 eN
        have hk9 := sqL_n hk8 eN
        have hr9 := row_n hr8 eN
        have hD9 := pts_n hD8 eN
        obtain ⟨dx9, l9, p9, z9, hi9, _⟩ := id hr9
        refine ⟨_, rfl, y, dx9, _, rfl, hi9, rfl, _, rfl, y, m, rs', lb j, rfl, hr9, hm, ok8, hB8, lbj, fun hn H10 d s10 hd10 => ⟨rfl, d, _, rfl, hd10, fun t nt => ?_⟩, fun rs2 hn H10 y2 s10 hr10 => ⟨two_le, fun t nt => ?_⟩⟩
        · -- refused
          have st := same_new (o := .tup [V.str "Flat", V.int ((m + 1 : Nat) : Int)]) nt
          have sA := s10.trans st
          have ne := trd_flat hm hn hF8
          refine ⟨_, rfl, t, _, _, _, rfl, rfl, tup_new, at0, rfl, _, rfl, ?_⟩
          refine ite2 (fun _ => ?_) (fun c => absurd (by decide) c)
          obtain ⟨ps, q1, q2⟩ := hD9.same (stP K) sA
          refine ⟨_, rfl, Nat.zero_le _, fun N nN => ?_⟩
          have sN := same_new (o := .lst []) nN
          refine ⟨_, _, .lst (sN.seq q1) (dp_all (f := dP) (fun p x h => (PartAt.same h sN).dp) q2), .lst (.of upd_same) .nil, sh_pts _, rfl, _, rfl, ?_⟩
          refine ite2 (fun c => ?_) (fun _ => ?_)
          · have c2 := list_ne_nil.mpr ne
            rw [c] at c2
            cases c2
          refine ⟨_, rfl, _, rfl, two_le, fun t2 n2 => ?_⟩
          have s2' := same_new (o := .tup [V.str "Flat", V.int ((m + 1 : Nat) : Int)]) n2
          have dpF : ∀ {Hx : Hp} {tx : Addr}, SqT K Hx tx [V.str "Flat", V.int ((m + 1 : Nat) : Int)] → Dp K Hx (.ref tx) (.tuple [.str "Flat", .int ((m + 1 : Nat) : Int)]) := fun h => .tup h (.cons (.str _) (.cons (.int _) .nil))
          refine ⟨_, _, dpF (same_tup (sN.trans s2') tup_new), dpF tup_new, sh_flat _, sh_flat _, _, rfl, ?_⟩
          have ee : PyData.eqv (.tuple [.str "Flat", .int ((m + 1 : Nat) : Int)]) (.tuple [.str "Flat", .int ((m + 1 : Nat) : Int)]) = true := SeqAt.eqv_refl _ (Bool.and_eq_true_iff.mp (show (PyData.canLay0 _ && decide _) = true from sh_flat _)).1
          rw [ee]
          refine ite2 (fun c => absurd c (by decide)) (fun _ => ?_)
          have sB := (sA.trans sN).trans s2'
          refine ⟨_, rfl, t, _, _, _, rfl, rfl, same_tup (sN.trans s2') tup_new, at0, rfl, _, rfl, ?_⟩
          refine ite2 (fun c => absurd c (by decide)) (fun _ => ?_)
          refine ⟨_, rfl, ?_⟩
          refine last_if (C := C) (y := y) (Dd := D) (rs := rs') (fs := fs) (l := lb j) rfl rfl (hr9.same sB) up8 hB8 lbj (hD9.same (stP K) sB) (fun gs hg => folds_same hF8 hg) fun H11 s11 hf => ?_
          have sC := sB.trans s11
          exact ⟨y, rs', _, _, rfl, hb9.same sC, t9.ext sC, sC.seq hk9, hr9.same sC, ok8, hB8.mono (lb_mono j), el8, hD9.same (stP K) sC, hf⟩
        · -- done
          have st := same_new (o := .tup [V.str "told", V.ref y2]) nt
          have sA := s10.trans st
          obtain ⟨ok2, el2⟩ := trd_ok ok8 hn
          have hB2 := trd_bits hn hB8
          refine ⟨_, rfl, t, _, _, _, rfl, rfl, tup_new, at0, rfl, _, rfl, ?_⟩
          refine ite2 (fun c => absurd c (by decide)) (fun _ => ?_)
          refine ⟨_, rfl, t, _, _, _, rfl, rfl, tup_new, at0, rfl, _, rfl, ?_⟩
          refine ite2 (fun _ => ?_) (fun c => absurd (by decide) c)
          refine ⟨_, rfl, t, _, _, _, rfl, rfl, tup_new, at1, ?_⟩
          refine last_if (C := C) (y := y2) (Dd := D) (rs := rs2) (fs := fs) (l := lb (j + 1)) rfl rfl (hr10.same st) ok2.up hB2 lbj1 (hD9.same (stP K) sA) (fun gs hg => trd_folds hn hF8 hg) fun H11 s11 hf => ?_
          have sC := sA.trans s11
          exact ⟨y2, rs2, _, _, rfl, hb9.same sC, t9.ext sC, sC.seq hk9, hr10.same (st.trans s11), ok2, hB2, by omega, hD9.same (stP K) sC, hf⟩
      · rintro σ H8 ⟨y, rs', x5, x6, rfl, hb8, ht8, _⟩
        exact ⟨_, _, _, _, _, rfl, hb8, ht8⟩
    · rintro σ H2 ⟨x2, x3, x4, x5, x6, rfl, _, _⟩
      exact k H2
end
end CT

/-! W18: all put together. -/
namespace CT
open PySem PySem.Spec PyProof.Rows L2 LamX
theorem oexB_ok {K : PySem.W.Frag} {C : Addr} (h : oexB K C = true) : OexC K C := by
  unfold oexB at h
  obtain ⟨h1, h⟩ := Bool.and_eq_true_iff.mp h
  obtain ⟨h2, h⟩ := Bool.and_eq_true_iff.mp h
  obtain ⟨h3, h⟩ := Bool.and_eq_true_iff.mp h
  obtain ⟨h4, h5⟩ := Bool.and_eq_true_iff.mp h
  refine ⟨?_, He.eqO_ok h2, of_decide_eq_true h3, of_decide_eq_true h4, h5⟩
  split at h1
  · rename_i dd k own hk
    split at h1
    · rename_i D above q0 q1 q2 q3 n q5 hm hs
      obtain ⟨y1, h1⟩ := Bool.and_eq_true_iff.mp h1
      obtain ⟨y2, h1⟩ := Bool.and_eq_true_iff.mp h1
      obtain ⟨y3, h1⟩ := Bool.and_eq_true_iff.mp h1
      obtain ⟨y4, y5⟩ := Bool.and_eq_true_iff.mp h1
      have e1 : D = C := of_decide_eq_true y1
      have e2 : n = "ValueError.__new__" := of_decide_eq_true y2
      have e3 : own = #[q0, q1, q2, q3, some (.builtin n), q5] := by
        rw [← Array.toArray_toList (xs := own), hs]
      obtain ⟨nm, bs, mr, ns, qn, hd, sn, sb, ab, co, de⟩ := k
      have y3' : de = false := by
        cases de
        · rfl
        · exact nomatch (show (!true) = true from y3)
      have y4' : hd = true := y4
      have hm' : mr = .ref D :: above := hm
      subst e1
      subst e2
      subst e3
      subst y3'
      subst y4'
      subst hm'
      exact ⟨nm, qn, ns, bs, above, sn, sb, ab, co, dd, q0, q1, q2, q3, q5, hk, y5⟩
    · cases h1
  · cases h1
section
variable {P : Program} {w : World} {K : PySem.W.Frag} {h : Heap} {mg : Str → Option Value} {base : Heap}
theorem cons_of (X : K.In h) (G : h.Ns mainGlobals mg) (c : He.SaysX faL fnL [] tfL exB w h K) : Cons K mg := by
  obtain ⟨z0, e1⟩ := Bool.and_eq_true_iff.mp c.more
  obtain ⟨z1, e2⟩ := Bool.and_eq_true_iff.mp e1
  obtain ⟨z2, e3⟩ := Bool.and_eq_true_iff.mp e2
  obtain ⟨z3, _⟩ := Bool.and_eq_true_iff.mp e3
  have p0 : ∀ H, PartAt K H (He.ga K "ZERO") 0 := fun H => He.tupB_ok z0 H
  have p1 : ∀ H, PartAt K H (He.ga K "ONE") 1 := fun H => He.tupB_ok z1 H
  exact ⟨⟨_, (He.glo_ok X G (c.t.d.fact 60 (f := .glo "ZERO") rfl)), p0⟩, ⟨_, (He.glo_ok X G (c.t.d.fact 61 (f := .glo "ONE") rfl)), p1⟩, ⟨_, (He.glo_ok X G (c.t.d.fact 62 (f := .glo "ORIGIN") rfl)), fun H => ⟨_, _, He.tupB_ok z2 H, p0 H, p0 H⟩⟩, ⟨_, (He.glo_ok X G (c.t.d.fact 63 (f := .glo "LONE") rfl)), fun H => ⟨_, _, He.tupB_ok z3 H, p1 H, p0 H⟩⟩⟩
theorem tops_of (X : K.In h) (G : h.Ns mainGlobals mg) (c : He.SaysX faL fnL [] tfL exB w h K) : Tops mg where
  most := He.int_ok X G (c.t.d.fact 79 (f := .int "MOST_NAME" 6) rfl)
  rods := He.int_ok X G (c.t.d.fact 78 (f := .int "MOST_RODS" 8) rfl)
  let_ := He.str_ok X G (c.t.d.fact 80 (f := .str "LETTERS" "abcdefghijklmnopqrstuvwxyz") rfl)
  len := He.free_ok X G (c.t.d.fact 65 (f := .free "len") rfl)
  all := He.free_ok X G (c.t.d.fact 66 (f := .free "all") rfl)
  enumerate := He.free_ok X G (c.t.d.fact 67 (f := .free "enumerate") rfl)
  list := He.free_ok X G (c.t.d.fact 69 (f := .free "list") rfl)
  range := He.free_ok X G (c.t.d.fact 68 (f := .free "range") rfl)
  sorted := He.free_ok X G (c.t.d.fact 71 (f := .free "sorted") rfl)
  abs := He.free_ok X G (c.t.d.fact 64 (f := .free "abs") rfl)
  tuple := He.free_ok X G (c.t.d.fact 70 (f := .free "tuple") rfl)
  max := He.free_ok X G (c.t.d.fact 73 (f := .free "max") rfl)
  isinstance := He.free_ok X G (c.t.d.fact 72 (f := .free "isinstance") rfl)
  bool := He.free_ok X G (c.t.d.fact 76 (f := .free "bool") rfl)
  int := He.free_ok X G (c.t.d.fact 74 (f := .free "int") rfl)
  str := He.free_ok X G (c.t.d.fact 75 (f := .free "str") rfl)
theorem rowC_of (X : K.In h) (G : h.Ns mainGlobals mg) (c : He.SaysX faL fnL [] tfL exB w h K) : RowC K mg (He.ga K "Row") (He.ma K (He.ga K "Row") "__init__") :=
  ⟨He.cls_ok (c.t.d.fact 81 (f := .cls "Row") rfl), He.noat_ok (c.t.d.fact 82 (f := .noat "Row" "lot") rfl), He.noat_ok (c.t.d.fact 83 (f := .noat "Row" "first") rfl), He.mkr_ok (c.t.d.fact 88 (f := .mkr "Row") rfl), (He.glo_ok X G (c.t.d.fact 59 (f := .glo "Row") rfl))⟩
theorem flatC_of (X : K.In h) (G : h.Ns mainGlobals mg) (c : He.SaysX faL fnL [] tfL exB w h K) : FlatC K mg (He.ga K "Flat") (He.ma K (He.ga K "Flat") "__init__") ∧ XfC K (He.ga K "Flat") := by
  obtain ⟨_, e1⟩ := Bool.and_eq_true_iff.mp c.more
  obtain ⟨_, e2⟩ := Bool.and_eq_true_iff.mp e1
  obtain ⟨_, e3⟩ := Bool.and_eq_true_iff.mp e2
  obtain ⟨_, e4⟩ := Bool.and_eq_true_iff.mp e3
  obtain ⟨z5, e5⟩ := Bool.and_eq_true_iff.mp e4
  obtain ⟨z6, z7⟩ := Bool.and_eq_true_iff.mp e5
  exact ⟨⟨oexB_ok z5, He.noat_ok (c.t.d.fact 89 (f := .noat "Flat" "called") rfl), He.noat_ok (c.t.d.fact 90 (f := .noat "Flat" "at") rfl), (He.meth_ok (c.t.d.fact 91 (f := .meth "Flat" "__init__") rfl)).at_, of_decide_eq_true z7, (He.glo_ok X G (c.t.d.fact 49 (f := .glo "Flat") rfl))⟩, xfB_ok z6⟩
theorem refs_of (X : K.In h) (G : h.Ns mainGlobals mg) (c : He.SaysX faL fnL [] tfL exB w h K) : Refs K mg (He.ga K "Flat") where
  a1 := ⟨_, (He.glo_ok X G (c.t.d.fact 44 (f := .glo "BadName") rfl)), He.exm_ok (c.t.d.fact 93 (f := .exm "Flat" "BadName" false) rfl)⟩
  a2 := ⟨_, (He.glo_ok X G (c.t.d.fact 46 (f := .glo "Twice") rfl)), He.exm_ok (c.t.d.fact 94 (f := .exm "Flat" "Twice" false) rfl)⟩
  a3 := ⟨_, (He.glo_ok X G (c.t.d.fact 52 (f := .glo "Taken") rfl)), He.exm_ok (c.t.d.fact 95 (f := .exm "Flat" "Taken" false) rfl)⟩
  a4 := ⟨_, (He.glo_ok X G (c.t.d.fact 54 (f := .glo "InUse") rfl)), He.exm_ok (c.t.d.fact 96 (f := .exm "Flat" "InUse" false) rfl)⟩
  a5 := ⟨_, (He.glo_ok X G (c.t.d.fact 57 (f := .glo "NoRow") rfl)), He.exm_ok (c.t.d.fact 97 (f := .exm "Flat" "NoRow" false) rfl)⟩
  a6 := ⟨_, (He.glo_ok X G (c.t.d.fact 58 (f := .glo "NoWatch") rfl)), He.exm_ok (c.t.d.fact 98 (f := .exm "Flat" "NoWatch" false) rfl)⟩
  b1 := ⟨_, (He.glo_ok X G (c.t.d.fact 47 (f := .glo "Nought") rfl)), He.exm_ok (c.t.d.fact 99 (f := .exm "Flat" "Nought" false) rfl)⟩
  b2 := ⟨_, (He.glo_ok X G (c.t.d.fact 48 (f := .glo "BadCorner") rfl)), He.exm_ok (c.t.d.fact 100 (f := .exm "Flat" "BadCorner" false) rfl)⟩
  b3 := He.exm_ok (c.t.d.fact 103 (f := .exm "Flat" "Flat" true) rfl)
  b4 := ⟨_, (He.glo_ok X G (c.t.d.fact 51 (f := .glo "Unbuilt") rfl)), He.exm_ok (c.t.d.fact 101 (f := .exm "Flat" "Unbuilt" false) rfl)⟩
  b5 := ⟨_, (He.glo_ok X G (c.t.d.fact 56 (f := .glo "BadText") rfl)), He.exm_ok (c.t.d.fact 102 (f := .exm "Flat" "BadText" false) rfl)⟩
  mg := (flatC_of X G c).1.mg
  xf := (flatC_of X G c).2
  called := (flatC_of X G c).1.called
  at_ := (flatC_of X G c).1.at_
theorem law_ok (hP : P.given.tree = none) (hN : base.NoSeer) (X : K.In h) (G : h.Ns mainGlobals mg) (c : He.SaysX faL fnL [] tfL exB w h K) (TB : TabB base mg (He.cT K ("law", none)).1 (He.cT K ("law", none)).2) {fd : FuncData} (F : FnP K "law" slaw (He.ga K "law") fd) :
    FnOk P w K mg base CX0 50 (He.ga K "law") fd ["_law_script"] (spLaw K (He.cT K ("law", none)).2) := by
  have T := cons_of X G c
  have tp := tops_of X G c
  have R := rowC_of X G c
  have FL := (flatC_of X G c).1
  obtain ⟨d_shared_by, F_shared_by⟩ : ∃ d, FnP K "shared_by" sshared_by (He.ga K "shared_by") d := c.t.d.def_ 0 (d := dshared_by) rfl
  have O_shared_by := ok_shared (P := P) (w := w) (mg := mg) (base := base) F_shared_by
  have C_shared_by := cal_mk F_shared_by (He.glo_ok X G (c.t.d.fact 0 (f := .glo "shared_by") rfl)) O_shared_by (fun _ _ _ _ _ _ us hl => match us, hl with | [_, _], _ => rfl)
  obtain ⟨d_part, F_part⟩ : ∃ d, FunD K "part" "part" (defArgs spart) (defBody spart) (defScope spart) [.int 1] [] (He.ga K "part") d := c.t.d.def_ 1 (d := dpart) rfl
  have O_part := ok_part (w := w) (mg := mg) hN hP F_part C_shared_by tp.abs
  have C_part : CalP P w K mg base := by
    obtain ⟨ds, v, b⟩ := F_part.binds1 (ps := ["over", "under"]) 2 1 (by intro z; cases z) rfl (fun T kV doc pm an cdv ct us its l1 l2 => match us, its, l1, l2 with | [_, _], [_], _, _ => ⟨_, rfl, rfl⟩)
    have e : ds = [] := by cases v; rfl
    rw [e] at b
    exact ⟨_, _, (He.glo_ok X G (c.t.d.fact 1 (f := .glo "part") rfl)), F_part.kp, b, O_part⟩
  obtain ⟨d_plus, F_plus⟩ : ∃ d, FnP K "plus" splus (He.ga K "plus") d := c.t.d.def_ 2 (d := dplus) rfl
  have O_plus := ok_plus F_plus C_part
  have C_plus := cal_mk F_plus (He.glo_ok X G (c.t.d.fact 2 (f := .glo "plus") rfl)) O_plus (fun _ _ _ _ _ _ us hl => match us, hl with | [_, _], _ => rfl)
  obtain ⟨d_less, F_less⟩ : ∃ d, FnP K "less" sless (He.ga K "less") d := c.t.d.def_ 3 (d := dless) rfl
  have O_less := ok_less F_less C_part
  have C_less := cal_mk F_less (He.glo_ok X G (c.t.d.fact 3 (f := .glo "less") rfl)) O_less (fun _ _ _ _ _ _ us hl => match us, hl with | [_, _], _ => rfl)
  obtain ⟨d_times, F_times⟩ : ∃ d, FnP K "times" stimes (He.ga K "times") d := c.t.d.def_ 4 (d := dtimes) rfl
  have O_times := ok_times F_times C_part
  have C_times := cal_mk F_times (He.glo_ok X G (c.t.d.fact 4 (f := .glo "times") rfl)) O_times (fun _ _ _ _ _ _ us hl => match us, hl with | [_, _], _ => rfl)
  obtain ⟨d_over, F_over⟩ : ∃ d, FnP K "over" sover (He.ga K "over") d := c.t.d.def_ 5 (d := dover) rfl
  have O_over := ok_over F_over C_part
  have C_over := cal_mk F_over (He.glo_ok X G (c.t.d.fact 5 (f := .glo "over") rfl)) O_over (fun _ _ _ _ _ _ us hl => match us, hl with | [_, _], _ => rfl)
  have A : Arith P w K mg base := ⟨C_plus, C_less, C_times, C_over⟩
  obtain ⟨d_below, F_below⟩ : ∃ d, FnP K "below" sbelow (He.ga K "below") d := c.t.d.def_ 6 (d := dbelow) rfl
  have O_below := ok_below (P := P) (w := w) (mg := mg) (base := base) F_below
  have C_below := cal_mk F_below (He.glo_ok X G (c.t.d.fact 6 (f := .glo "below") rfl)) O_below (fun _ _ _ _ _ _ us hl => match us, hl with | [_, _], _ => rfl)
  obtain ⟨d_least_at, F_least_at⟩ : ∃ d, FnP K "least_at" sleast_at (He.ga K "least_at") d := c.t.d.def_ 7 (d := dleast_at) rfl
  have O_least_at := ok_least F_least_at C_below tp.enumerate
  have C_least_at := cal_mk F_least_at (He.glo_ok X G (c.t.d.fact 7 (f := .glo "least_at") rfl)) O_least_at (fun _ _ _ _ _ _ us hl => match us, hl with | [_], _ => rfl)
  obtain ⟨d_rising, F_rising⟩ : ∃ d, FnP K "rising" srising (He.ga K "rising") d := c.t.d.def_ 8 (d := drising) rfl
  have O_rising := ok_ris F_rising C_least_at tp.list
  have C_rising := cal_mk F_rising (He.glo_ok X G (c.t.d.fact 8 (f := .glo "rising") rfl)) O_rising (fun _ _ _ _ _ _ us hl => match us, hl with | [_], _ => rfl)
  obtain ⟨d_summed, F_summed⟩ : ∃ d, FnP K "summed" ssummed (He.ga K "summed") d := c.t.d.def_ 9 (d := dsummed) rfl
  have O_summed := ok_summed F_summed A
  have C_summed := cal_mk F_summed (He.glo_ok X G (c.t.d.fact 9 (f := .glo "summed") rfl)) O_summed (fun _ _ _ _ _ _ us hl => match us, hl with | [_, _], _ => rfl)
  obtain ⟨d_off, F_off⟩ : ∃ d, FnP K "off" soff (He.ga K "off") d := c.t.d.def_ 10 (d := doff) rfl
  have O_off := ok_off F_off A
  have C_off := cal_mk F_off (He.glo_ok X G (c.t.d.fact 10 (f := .glo "off") rfl)) O_off (fun _ _ _ _ _ _ us hl => match us, hl with | [_, _], _ => rfl)
  obtain ⟨d_mate, F_mate⟩ : ∃ d, FnP K "mate" smate (He.ga K "mate") d := c.t.d.def_ 11 (d := dmate) rfl
  have O_mate := ok_mate F_mate A T
  have C_mate := cal_mk F_mate (He.glo_ok X G (c.t.d.fact 11 (f := .glo "mate") rfl)) O_mate (fun _ _ _ _ _ _ us hl => match us, hl with | [_], _ => rfl)
  obtain ⟨d_often, F_often⟩ : ∃ d, FnP K "often" soften (He.ga K "often") d := c.t.d.def_ 13 (d := doften) rfl
  have O_often := ok_often F_often A
  have C_often := cal_mk F_often (He.glo_ok X G (c.t.d.fact 13 (f := .glo "often") rfl)) O_often (fun _ _ _ _ _ _ us hl => match us, hl with | [_, _], _ => rfl)
  obtain ⟨d_weight, F_weight⟩ : ∃ d, FnP K "weight" sweight (He.ga K "weight") d := c.t.d.def_ 14 (d := dweight) rfl
  have O_weight := ok_weight F_weight A
  have C_weight := cal_mk F_weight (He.glo_ok X G (c.t.d.fact 14 (f := .glo "weight") rfl)) O_weight (fun _ _ _ _ _ _ us hl => match us, hl with | [_], _ => rfl)
  obtain ⟨d_made, F_made⟩ : ∃ d, FnP K "made" smade (He.ga K "made") d := c.t.d.def_ 12 (d := dmade) rfl
  have O_made := ok_made F_made A
  have C_made := cal_mk F_made (He.glo_ok X G (c.t.d.fact 12 (f := .glo "made") rfl)) O_made (fun _ _ _ _ _ _ us hl => match us, hl with | [_, _], _ => rfl)
  obtain ⟨d_copied, F_copied⟩ : ∃ d, FnP K "copied" scopied (He.ga K "copied") d := c.t.d.def_ 16 (d := dcopied) rfl
  have O_copied := ok_copied (P := P) (w := w) (mg := mg) (base := base) F_copied tp.tuple
  have C_copied := cal_mk F_copied (He.glo_ok X G (c.t.d.fact 16 (f := .glo "copied") rfl)) O_copied (fun _ _ _ _ _ _ us hl => match us, hl with | [_], _ => rfl)
  have B : Arrs P w K mg base := ⟨C_summed, C_off, C_mate, C_often, C_weight, C_made, C_copied⟩
  obtain ⟨d_parted, F_parted⟩ : ∃ d, FnP K "parted" sparted (He.ga K "parted") d := c.t.d.def_ 15 (d := dparted) rfl
  have O_parted := ok_parted F_parted A B T
  have C_parted := cal_mk F_parted (He.glo_ok X G (c.t.d.fact 15 (f := .glo "parted") rfl)) O_parted (fun _ _ _ _ _ _ us hl => match us, hl with | [_, _], _ => rfl)
  obtain ⟨d_exchanged, F_exchanged⟩ : ∃ d, FnP K "exchanged" sexchanged (He.ga K "exchanged") d := c.t.d.def_ 26 (d := dexchanged) rfl
  have O_exchanged := ok_exchanged F_exchanged B T C_parted
  have C_exchanged := cal_mk F_exchanged (He.glo_ok X G (c.t.d.fact 26 (f := .glo "exchanged") rfl)) O_exchanged (fun _ _ _ _ _ _ us hl => match us, hl with | [_, _], _ => rfl)
  obtain ⟨d_rods_traded, F_rods_traded⟩ : ∃ d, FnP K "rods_traded" srods_traded (He.ga K "rods_traded") d := c.t.d.def_ 27 (d := drods_traded) rfl
  have O_rods_traded := ok_trd F_rods_traded C_exchanged
  have C_rods_traded := cal_mk F_rods_traded (He.glo_ok X G (c.t.d.fact 27 (f := .glo "rods_traded") rfl)) O_rods_traded (fun _ _ _ _ _ _ us hl => match us, hl with | [_, _], _ => rfl)
  obtain ⟨d_entry, F_entry⟩ : ∃ d, FnP K "entry" sentry (He.ga K "entry") d := c.t.d.def_ 17 (d := dentry) rfl
  have O_entry := ok_entry (P := P) (w := w) (mg := mg) (base := base) F_entry T tp.len
  have C_entry := cal_mk F_entry (He.glo_ok X G (c.t.d.fact 17 (f := .glo "entry") rfl)) O_entry (fun _ _ _ _ _ _ us hl => match us, hl with | [_, _], _ => rfl)
  obtain ⟨d_grown_by, F_grown_by⟩ : ∃ d, FnP K "grown_by" sgrown_by (He.ga K "grown_by") d := c.t.d.def_ 18 (d := dgrown_by) rfl
  have O_grown_by := ok_gr F_grown_by B C_entry tp.len tp.range
  have C_grown_by := cal_mk F_grown_by (He.glo_ok X G (c.t.d.fact 18 (f := .glo "grown_by") rfl)) O_grown_by (fun _ _ _ _ _ _ us hl => match us, hl with | [_, _], _ => rfl)
  obtain ⟨d_whole_of, F_whole_of⟩ : ∃ d, FnP K "whole_of" swhole_of (He.ga K "whole_of") d := c.t.d.def_ 19 (d := dwhole_of) rfl
  have O_whole_of := ok_wh F_whole_of T C_grown_by
  have C_whole_of := cal_mk F_whole_of (He.glo_ok X G (c.t.d.fact 19 (f := .glo "whole_of") rfl)) O_whole_of (fun _ _ _ _ _ _ us hl => match us, hl with | [_], _ => rfl)
  obtain ⟨d_rest_by, F_rest_by⟩ : ∃ d, FnP K "rest_by" srest_by (He.ga K "rest_by") d := c.t.d.def_ 20 (d := drest_by) rfl
  have O_rest_by := ok_rest F_rest_by T A B tp.enumerate
  have C_rest_by := cal_mk F_rest_by (He.glo_ok X G (c.t.d.fact 20 (f := .glo "rest_by") rfl)) O_rest_by (fun _ _ _ _ _ _ us hl => match us, hl with | [_, _], _ => rfl)
  obtain ⟨d_is_folded, F_is_folded⟩ : ∃ d, FnP K "is_folded" sis_folded (He.ga K "is_folded") d := c.t.d.def_ 21 (d := dis_folded) rfl
  have O_is_folded := ok_isf F_is_folded T C_rest_by
  have C_is_folded := cal_mk F_is_folded (He.glo_ok X G (c.t.d.fact 21 (f := .glo "is_folded") rfl)) O_is_folded (fun _ _ _ _ _ _ us hl => match us, hl with | [_, _], _ => rfl)
  obtain ⟨d_folds_of, F_folds_of⟩ : ∃ d, FnP K "folds_of" sfolds_of (He.ga K "folds_of") d := c.t.d.def_ 22 (d := dfolds_of) rfl
  have O_folds_of := ok_fof F_folds_of B C_whole_of C_is_folded C_rising tp.sorted
  have C_folds_of := cal_mk F_folds_of (He.glo_ok X G (c.t.d.fact 22 (f := .glo "folds_of") rfl)) O_folds_of (fun _ _ _ _ _ _ us hl => match us, hl with | [_], _ => rfl)
  obtain ⟨d_is_name, F_is_name⟩ : ∃ d, FnP K "is_name" sis_name (He.ga K "is_name") d := c.t.d.def_ 24 (d := dis_name) rfl
  have O_is_name := ok_name (P := P) (w := w) (mg := mg) (base := base) F_is_name tp
  have C_is_name := cal_mk F_is_name (He.glo_ok X G (c.t.d.fact 24 (f := .glo "is_name") rfl)) O_is_name (fun _ _ _ _ _ _ us hl => match us, hl with | [_], _ => rfl)
  obtain ⟨d_need_rods, F_need_rods⟩ : ∃ d, FnP K "need_rods" sneed_rods (He.ga K "need_rods") d := c.t.d.def_ 25 (d := dneed_rods) rfl
  have O_need_rods := ok_need F_need_rods tp T C_is_name C_copied
  have C_need_rods := cal_mk F_need_rods (He.glo_ok X G (c.t.d.fact 25 (f := .glo "need_rods") rfl)) O_need_rods (fun _ _ _ _ _ _ us hl => match us, hl with | [_], _ => rfl)
  obtain ⟨d_init, F_init⟩ : ∃ d, FunD K "__init__" "Row.__init__" (defArgs sRow_init) (defBody sRow_init) (defScope sRow_init) [] [("start", .ref (He.ga K "ORIGIN"))] (He.ma K (He.ga K "Row") "__init__") d := c.t.d.def_ 41 (d := dRow_init) rfl
  have O_init := ok_init F_init tp R C_need_rods C_copied
  obtain ⟨d_rods, F_rods⟩ : ∃ d, FunD K "rods" "Row.rods" (defArgs sRow_rods) (defBody sRow_rods) (defScope sRow_rods) [] [] (He.ma K (He.ga K "Row") "rods") d := c.t.d.def_ 43 (d := dRow_rods) rfl
  have O_rods := ok_rods (P := P) (w := w) (mg := mg) (base := base) F_rods tp R
  have b_rods := F_rods.bindsN (ps := ["self"]) (fun _ _ _ _ _ _ us hl => match us, hl with | [_], _ => rfl)
  obtain ⟨d_len, F_len⟩ : ∃ d, FunD K "__len__" "Row.__len__" (defArgs sRow_len) (defBody sRow_len) (defScope sRow_len) [] [] (He.ma K (He.ga K "Row") "__len__") d := c.t.d.def_ 42 (d := dRow_len) rfl
  have O_len := ok_len (P := P) (w := w) (mg := mg) (base := base) F_len tp R
  have b_len := F_len.bindsN (ps := ["self"]) (fun _ _ _ _ _ _ us hl => match us, hl with | [_], _ => rfl)
  obtain ⟨d_flat, F_flat⟩ : ∃ d, FunD K "__init__" "Flat.__init__" (defArgs sFlat_init) (defBody sFlat_init) (defScope sFlat_init) [] [] (He.ma K (He.ga K "Flat") "__init__") d := c.t.d.def_ 45 (d := dFlat_init) rfl
  have O_flat := ok_flat (P := P) (w := w) (mg := mg) (base := base) F_flat FL
  have b_flat := F_flat.bindsN (ps := ["self", "at"]) (fun _ _ _ _ _ _ us hl => match us, hl with | [_, _], _ => rfl)
  obtain ⟨d_traded, F_traded⟩ : ∃ d, FunD K "traded" "Row.traded" (defArgs sRow_traded) (defBody sRow_traded) (defScope sRow_traded) [] [] (He.ma K (He.ga K "Row") "traded") d := c.t.d.def_ 44 (d := dRow_traded) rfl
  have O_traded := ok_traded F_traded tp R F_init O_init C_rods_traded FL O_flat b_flat
  have b_traded := F_traded.bindsN (ps := ["self", "at"]) (fun _ _ _ _ _ _ us hl => match us, hl with | [_, _], _ => rfl)
  obtain ⟨d_folded, F_folded⟩ : ∃ d, FnP K "folded" sfolded (He.ga K "folded") d := c.t.d.def_ 23 (d := dfolded) rfl
  have O_folded := ok_folded F_folded R C_folds_of (He.meth_ok (c.t.d.fact 84 (f := .meth "Row" "rods") rfl)) O_rods b_rods
  have C_folded := cal_mk F_folded (He.glo_ok X G (c.t.d.fact 23 (f := .glo "folded") rfl)) O_folded (fun _ _ _ _ _ _ us hl => match us, hl with | [_], _ => rfl)
  obtain ⟨d_law_box, F_law_box⟩ : ∃ d, FnP K "_law_box" s_law_box (He.ga K "_law_box") d := c.t.d.def_ 28 (d := d_law_box) rfl
  have O_law_box := ok_box (P := P) (w := w) (mg := mg) (base := base) F_law_box tp
  have C_law_box := cal_mk F_law_box (He.glo_ok X G (c.t.d.fact 28 (f := .glo "_law_box") rfl)) O_law_box (fun _ _ _ _ _ _ us hl => match us, hl with | [_], _ => rfl)
  obtain ⟨d_law_draw, F_law_draw⟩ : ∃ d, FnP K "_law_draw" s_law_draw (He.ga K "_law_draw") d := c.t.d.def_ 29 (d := d_law_draw) rfl
  have O_law_draw := ok_draw (P := P) (w := w) (mg := mg) (base := base) F_law_draw tp
  have C_law_draw := cal_mk F_law_draw (He.glo_ok X G (c.t.d.fact 29 (f := .glo "_law_draw") rfl)) O_law_draw (fun _ _ _ _ _ _ us hl => match us, hl with | [_, _], _ => rfl)
  obtain ⟨d_law_of, F_law_of⟩ : ∃ d, FnP K "_law_of" s_law_of (He.ga K "_law_of") d := c.t.d.def_ 30 (d := d_law_of) rfl
  have O_law_of := ok_pick F_law_of tp C_law_draw
  have C_law_of := cal_mk F_law_of (He.glo_ok X G (c.t.d.fact 30 (f := .glo "_law_of") rfl)) O_law_of (fun _ _ _ _ _ _ us hl => match us, hl with | [_, _], _ => rfl)
  obtain ⟨d_law_low, F_law_low⟩ : ∃ d, FnP K "_law_low" s_law_low (He.ga K "_law_low") d := c.t.d.def_ 32 (d := d_law_low) rfl
  have O_law_low := ok_low (P := P) (w := w) (mg := mg) (base := base) F_law_low tp
  have C_law_low := cal_mk F_law_low (He.glo_ok X G (c.t.d.fact 32 (f := .glo "_law_low") rfl)) O_law_low (fun _ _ _ _ _ _ us hl => match us, hl with | [_, _], _ => rfl)
  obtain ⟨d_law_small, F_law_small⟩ : ∃ d, FnP K "_law_small" s_law_small (He.ga K "_law_small") d := c.t.d.def_ 33 (d := d_law_small) rfl
  have O_law_small := ok_small F_law_small C_law_low C_law_draw C_law_of
  have C_law_small := cal_mk F_law_small (He.glo_ok X G (c.t.d.fact 33 (f := .glo "_law_small") rfl)) O_law_small (fun _ _ _ _ _ _ us hl => match us, hl with | [_], _ => rfl)
  obtain ⟨d_law_spot, F_law_spot⟩ : ∃ d, FnP K "_law_spot" s_law_spot (He.ga K "_law_spot") d := c.t.d.def_ 34 (d := d_law_spot) rfl
  have O_law_spot := ok_spot F_law_spot C_law_small
  have C_law_spot := cal_mk F_law_spot (He.glo_ok X G (c.t.d.fact 34 (f := .glo "_law_spot") rfl)) O_law_spot (fun _ _ _ _ _ _ us hl => match us, hl with | [_], _ => rfl)
  obtain ⟨d_law_arrow, F_law_arrow⟩ : ∃ d, FnP K "_law_arrow" s_law_arrow (He.ga K "_law_arrow") d := c.t.d.def_ 35 (d := d_law_arrow) rfl
  have O_law_arrow := ok_arr F_law_arrow C_law_draw C_law_of C_law_spot
  have C_law_arrow := cal_mk F_law_arrow (He.glo_ok X G (c.t.d.fact 35 (f := .glo "_law_arrow") rfl)) O_law_arrow (fun _ _ _ _ _ _ us hl => match us, hl with | [_], _ => rfl)
  obtain ⟨d_law_names, F_law_names⟩ : ∃ d, FnP K "_law_names" s_law_names (He.ga K "_law_names") d := c.t.d.def_ 31 (d := d_law_names) rfl
  have O_law_names := ok_names F_law_names tp C_law_draw C_law_of
  have C_law_names := cal_mk F_law_names (He.glo_ok X G (c.t.d.fact 31 (f := .glo "_law_names") rfl)) O_law_names (fun _ _ _ _ _ _ us hl => match us, hl with | [_, _], _ => rfl)
  obtain ⟨d_law_rods, F_law_rods⟩ : ∃ d, FnP K "_law_rods" s_law_rods (He.ga K "_law_rods") d := c.t.d.def_ 36 (d := d_law_rods) rfl
  have O_law_rods := ok_lrods F_law_rods tp C_law_draw C_law_names C_law_arrow
  have C_law_rods := cal_mk F_law_rods (He.glo_ok X G (c.t.d.fact 36 (f := .glo "_law_rods") rfl)) O_law_rods (fun _ _ _ _ _ _ us hl => match us, hl with | [_, _, _], _ => rfl)
  obtain ⟨d_law_word, F_law_word⟩ : ∃ d, FnP K "_law_word" s_law_word (He.ga K "_law_word") d := c.t.d.def_ 37 (d := d_law_word) rfl
  have O_law_word := ok_word F_law_word tp C_law_draw
  have C_law_word := cal_mk F_law_word (He.glo_ok X G (c.t.d.fact 37 (f := .glo "_law_word") rfl)) O_law_word (fun _ _ _ _ _ _ us hl => match us, hl with | [_, _, _], _ => rfl)
  obtain ⟨d_law_tried, F_law_tried⟩ : ∃ d, FnP K "_law_tried" s_law_tried (He.ga K "_law_tried") d := c.t.d.def_ 38 (d := d_law_tried) rfl
  obtain ⟨d_law_like, F_law_like⟩ : ∃ d, FnP K "_law_like" s_law_like (He.ga K "_law_like") d := c.t.d.def_ 39 (d := d_law_like) rfl
  have O_likeI := ok_likeI (P := P) (w := w) (mg := mg) (base := base) F_law_like tp
  have C_likeI := cal_mk F_law_like (He.glo_ok X G (c.t.d.fact 39 (f := .glo "_law_like") rfl)) O_likeI (fun _ _ _ _ _ _ us hl => match us, hl with | [_, _], _ => rfl)
  have O_likeP := ok_likeS F_law_like tp C_likeI
  have C_likeP := cal_mk F_law_like (He.glo_ok X G (c.t.d.fact 39 (f := .glo "_law_like") rfl)) O_likeP (fun _ _ _ _ _ _ us hl => match us, hl with | [_, _], _ => rfl)
  have O_likeL := ok_likeS F_law_like tp C_likeP
  have C_likeL := cal_mk F_law_like (He.glo_ok X G (c.t.d.fact 39 (f := .glo "_law_like") rfl)) O_likeL (fun _ _ _ _ _ _ us hl => match us, hl with | [_, _], _ => rfl)
  have hc : fd.code = .ref (He.cT K ("law", none)).1 := by
    obtain ⟨oc, od, dV, kV, doc, pm, an, cdv, ct, osl, e, lk, hcd, _, _⟩ := F.ex
    obtain ⟨c0, e0⟩ := He.codeIn_ref hcd
    subst e0
    have q : He.codeOf K ("law", none) = c0 := He.codeOf_eq (p := ("law", none)) lk (by rw [e])
    show fd.code = .ref (He.codeOf K ("law", none))
    rw [q, e]
  exact ok_law F hc ⟨tp, R, F_init, O_init, He.meth_ok (c.t.d.fact 85 (f := .meth "Row" "traded") rfl), O_traded, b_traded, He.meth_ok (c.t.d.fact 86 (f := .meth "Row" "__len__") rfl), O_len, b_len, C_law_box, C_law_rods, C_law_spot, C_law_word, C_folded, C_likeL, refs_of X G c, F_law_tried, (He.glo_ok X G (c.t.d.fact 38 (f := .glo "_law_tried") rfl)), TB⟩
end
end CT

/-! W19: the end. -/
namespace CT
open PySem PySem.Spec PyProof.Rows L2 LamX
/-- more is known of the written part -/
theorem fnOk_more {P : Program} {w : World} {K K2 : PySem.W.Frag} {mg : Str → Option Value} {base : Heap} {CX : CXT} {k : Nat} {f : Addr} {fd : FuncData} {ps : List Str} {sp : Sp} (len : ∀ vs H Q E, sp vs H Q E → vs.length = ps.length)
    (sub : ∀ h : Heap, K2.In h → K.In h) (O : L2.Mod K2 mg base → FnOk P w K mg base CX k f fd ps sp) : FnOk P w K2 mg base CX k f fd ps sp :=
  ⟨len, fun A outer s H args us vs Q E hr e hb r hs => (O e.mod).run A outer s H args us vs Q E hr ⟨e.frames, ⟨sub _ e.mod.kin, e.mod.glob, e.mod.blt, e.mod.nolimit⟩, e.bs, e.bsz, e.funs, e.frf, e.hok, e.bare⟩ hb r hs⟩
theorem law_walk {q : Program} {loose : List Str} {XP : (Str → Option Value) → Heap → Prop} {d : DefRec} (hi : importsNone q = true) (hn : d.name = ("law" : Str)) (hdf : d.params.defaults = []) :
    PySem.W.WalkO q loose XP (fun w h => hk.says w h) (PySem.W.OpenLaw.row PySem.Challenge.rw_cornertrade_k17_whole_unfolded_rows_neve).toRowW d [] (fun f vs => PySem.call f vs) := by
  refine Att.attach_callB (l := PySem.Challenge.rw_cornertrade_k17_whole_unfolded_rows_neve) (n := 63) rfl hdf fun w s₀ s₁ mg mb fa o pm cd doc a vs ns G Y ho hd hcd hmg hobj hints hlen hbits hg => ?_
  obtain ⟨K, KX, c⟩ := Y
  rw [hn] at hmg
  have S := G.T.seer hi
  obtain ⟨mc, ⟨o1, es1, ep1, g1, d1, r1⟩, n1, n1'⟩ := S.statics
  obtain ⟨mm, ⟨o2, es2, ep2, g2, d2, r2⟩, n2⟩ := S.mods
  have ge := hmg.symm.trans (He.glo_ok KX G.T.g (c.t.d.fact 40 (f := .glo "law") rfl))
  cases ge
  obtain ⟨fd, F⟩ : ∃ fd, FnP K "law" slaw (He.ga K "law") fd := c.t.d.def_ 40 (d := dlaw) rfl
  obtain ⟨K2, eK⟩ : ∃ K2 : PySem.W.Frag, K2 = K ++ [(cStatics, o1), (sysModules, o2)] := ⟨_, rfl⟩
  -- the longer list
  have look : ∀ (b : Addr) (u : Obj), K2.lookup b = some u → K.lookup b = some u ∨ (b = cStatics ∧ u = o1) ∨ (b = sysModules ∧ u = o2) := fun b u e => by
    rw [eK] at e
    have e' : (K.lookup b).or (([(cStatics, o1), (sysModules, o2)] : PySem.W.Frag).lookup b) = some u := by rw [← e]; exact List.lookup_append.symm
    cases q : K.lookup b with
    | some v =>
      rw [q] at e'
      exact .inl e'
    | none =>
      rw [q] at e'
      have e2 : ([(cStatics, o1), (sysModules, o2)] : PySem.W.Frag).lookup b = some u := e'
      by_cases h1 : b = cStatics
      · subst h1
        have z : some o1 = some u := e2
        cases z
        exact .inr (.inl ⟨rfl, rfl⟩)
      · by_cases h2 : b = sysModules
        · subst h2
          have z : some o2 = some u := e2
          cases z
          exact .inr (.inr ⟨rfl, rfl⟩)
        · have z : (none : Option Obj) = some u := by
            rw [← e2]
            simp [List.lookup, beq_eq_false_iff_ne.mpr h1, beq_eq_false_iff_ne.mpr h2]
          cases z
  have has : ∀ (b : Addr) (u : Obj), K.lookup b = some u → K2.lookup b = some u := fun b u e => by
    rw [eK]
    have e' : (K ++ [(cStatics, o1), (sysModules, o2)]).lookup b = (K.lookup b).or (([(cStatics, o1), (sysModules, o2)] : PySem.W.Frag).lookup b) := List.lookup_append
    rw [e', e]
    rfl
  have sub : ∀ h : Heap, K2.In h → K.In h := fun h x b u e => x b u (has b u e)
  have K2X : K2.In s₁.heap := fun b u e => by
    rcases look b u e with z | ⟨rfl, rfl⟩ | ⟨rfl, rfl⟩
    · exact KX b u z
    · exact g1
    · exact g2
  have two : ∀ (b : Addr) (u : Obj), s₁.heap.get? b = some u → (∃ x, K2.lookup b = some x) → K2.lookup b = some u := fun b u e ⟨x, hx⟩ => by
    have z := K2X b x hx
    rw [e] at z
    cases z
    exact hx
  have has1 : K2.lookup cStatics = some o1 := two _ _ g1 (by
    cases q : K.lookup cStatics with
    | some v => exact ⟨v, has _ _ q⟩
    | none =>
      refine ⟨o1, ?_⟩
      rw [eK]
      have e' : (K ++ [(cStatics, o1), (sysModules, o2)]).lookup cStatics = (K.lookup cStatics).or (([(cStatics, o1), (sysModules, o2)] : PySem.W.Frag).lookup cStatics) := List.lookup_append
      rw [e', q]
      rfl)
  have has2 : K2.lookup sysModules = some o2 := two _ _ g2 (by
    cases q : K.lookup sysModules with
    | some v => exact ⟨v, has _ _ q⟩
    | none =>
      refine ⟨o2, ?_⟩
      rw [eK]
      have e' : (K ++ [(cStatics, o1), (sysModules, o2)]).lookup sysModules = (K.lookup sysModules).or (([(cStatics, o1), (sysModules, o2)] : PySem.W.Frag).lookup sysModules) := List.lookup_append
      rw [e', q]
      rfl)
  have cTm : (("law", none) : He.Defn) ∈ tfL := List.mem_singleton.mpr rfl
  have hE := c.empty _ cTm
  refine law_callTs (K := K2) (cs := [He.cT K ("law", none)]) (fd := fd) (sp := spLaw K (He.cT K ("law", none)).2) (x := "_law_script") (k := 50) (CX := CX0) K2X G.T.g G.T.b G.T.builtins G.T.nolimit hg (fun p hp => by rw [List.mem_singleton.mp hp]; exact hE) (fun p hp => ?_) (fun p hp => by rw [List.mem_singleton.mp hp]; exact PySem.W.codeHd_of_K KX (c.hd _ cTm)) G.T.bmain hobj hints (Nat.le_trans hlen (by rw [sizeLine_eq]; decide)) ⟨rfl, by decide, by decide⟩
    (fun base hK hG hT => ?_) (fun s u => ?_) (fun H hH hS => ?_) (fun _ _ _ z => z)
  · rw [List.mem_singleton.mp hp]
    cases q : K2.lookup (He.cT K ("law", none)).2 with
    | none => rfl
    | some u =>
      have z := K2X _ _ q
      rw [hE] at z
      cases z
      rcases look _ _ q with y | ⟨_, y⟩ | ⟨_, y⟩
      · rw [c.out _ cTm] at y
        cases y
      · rw [← y] at d1
        cases d1
      · rw [← y] at d2
        cases d2
  · have TB := hT _ List.mem_cons_self
    refine fnOk_more (fun vs H Q E h => ?_) sub fun M => law_ok rfl ⟨⟨mc, ⟨o1, es1, ep1, hK _ _ has1, d1, r1⟩, n1, n1'⟩, ⟨mm, ⟨o2, es2, ep2, hK _ _ has2, d2, r2⟩, n2⟩, M.blt, ?_⟩ KX G.T.g c TB F
    · obtain ⟨a, ns, rfl, _⟩ := h
      rfl
    · obtain ⟨bm, ob, b1, _, _, _, b5, b6, b7, _⟩ := TB.bm
      exact ⟨mg, bm, ob, hG, b1, b5, b6, b7⟩
  · exact F.bindsA (ps := ["_law_script"]) (fun _ _ _ _ _ _ us hl => match us, hl with | [_], _ => rfl) s [u] rfl
  · refine ⟨a, ns, rfl, ?_, hH _ List.mem_cons_self, fun _ => rfl⟩
    rcases hS with hS | ⟨u, its, n, l1, l2, l3, l4, l5⟩
    · exact .inl hS
    · rcases look _ _ l1 with y | ⟨_, y⟩ | ⟨_, y⟩
      · exact .inr ⟨u, its, n, y, l2, l3, l4, l5⟩
      · rw [← y, l4] at d1
        cases d1
      · rw [← y, l4] at d2
        cases d2
end CT

open PySem PySem.W PySem.Calls PyProof.Rows
theorem PySem.Challenge.cw_cornertrade_k17_whole_unfolded_rows_neve_holds : PySem.Challenge.rw_cornertrade_k17_whole_unfolded_rows_neve.Holds := by
  w_on; o_law
  refine HandSHeadRun.head_any (r := CT.RR) (q := view CT.RR.prog [73]) (H := CT.hk) (ob := CT.ob) (M := 9000) (loose := CT.namesL) (d := HandSHeadRun.topDef CT.RR.prog 73) (kwd := []) CT.ob_eq (by kernel_rfl) (fun s => by kernel_rfl) CT.run (by kernel_rfl)
    (by kernel_rfl) (by kernel_rfl) (by rfl) (by first | assumption | decide +kernel) (by decide +kernel) ⟨rfl, rfl, rfl, rfl, rfl, by decide +kernel⟩ ?hw ?hc
  case hw => w_witness2
  case hc => exact CT.law_walk (by decide +kernel) (by kernel_rfl) (by kernel_rfl)

