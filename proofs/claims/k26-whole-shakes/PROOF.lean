import PyProof.Rows.All
import Wide.All
import OpenK.AllK
import Wide.FinOn
import HandS.ForMost
import HandS.Defaults
import HandS.MakeKwOnly
import HandS.IsInst
import HandS.Wide
import HandS.TryOnly
import PySem.Challenge.RW_driftgates_k26_whole_shakes
set_option Elab.async false
set_option linter.all false
set_option maxRecDepth 100000
set_option maxHeartbeats 2000000

namespace Dg
/-! the mirror: what the program computes, in plain Lean -/
structure Sig where
  bit : Int
  was : Int
  fresh : Bool
  seen : List Int
def Sig.new (d : Nat) : Sig := ⟨0, 0, false, List.replicate d 0⟩
def Sig.turn (s : Sig) (b : Int) : Sig := if b = s.bit then s else ⟨b, s.bit, true, s.seen⟩
def Sig.first (s : Sig) (late : Bool) : Int := if s.fresh = true ∧ late = true then s.was else s.bit
def Sig.last (s : Sig) : Int := s.seen.getLastD 0
def Sig.read (s : Sig) (late : Bool) : Sig := ⟨s.bit, s.was, false, (s.first late :: s.seen).dropLast⟩
structure Sh where
  ph : Int
  ask : Sig
  ans : Sig
  word : Int
  asked : Int
  told : Int
  sent : List Int
  got : List Int
def Sh.new (d : Nat) (ph : Int) : Sh := ⟨ph, Sig.new d, Sig.new d, 0, 0, 0, [], []⟩
def Sh.ready (S : Sh) : Bool := if S.ph = 2 then decide (S.ask.bit = S.told) else (decide (S.ask.bit = 0) && decide (S.told = 0))
def Sh.send (S : Sh) (w : Int) : Sh := { S with word := w, sent := S.sent ++ [w], ask := S.ask.turn (1 - S.ask.bit) }
def Sh.tickA (S : Sh) (late : Bool) : Sh :=
  if S.ph = 4 ∧ S.ask.bit = 1 ∧ S.ans.last = 1 then { S with told := S.ans.last, ans := S.ans.read late, ask := S.ask.turn 0 }
  else { S with told := S.ans.last, ans := S.ans.read late }
def Sh.isNew (S : Sh) : Bool := if S.ph = 2 then (!decide (S.ask.last = S.asked)) else (decide (S.ask.last = 1) && decide (S.asked = 0))
def Sh.tickB (S : Sh) (late : Bool) : Sh :=
  { S with ask := S.ask.read late, asked := S.ask.last, got := if S.isNew = true then S.got ++ [S.word] else S.got, ans := S.ans.turn S.ask.last }
/-- b: side b ticks -/
def Sh.tick (S : Sh) (b late : Bool) : Sh := if b = true then S.tickB late else S.tickA late

/-! the ring: from a's flag by b's holders, what b read, a's holders, to what a read; one change at most, at place j -/
def rb (v : Int) (j i : Nat) : Int := if i < j then v else 1 - v
structure R (d : Nat) (S : Sh) (v : Int) (j : Nat) : Prop where
  d1 : 1 ≤ d
  hv : v = 0 ∨ v = 1
  j1 : 1 ≤ j
  j2 : j ≤ 2 * d + 3
  askb : S.ask.bit = v
  aseen : S.ask.seen = (List.range d).map fun i => rb v j (i + 1)
  asked : S.asked = rb v j (d + 1)
  ansb : S.ans.bit = rb v j (d + 1)
  nseen : S.ans.seen = (List.range d).map fun i => rb v j (d + 2 + i)
  told : S.told = rb v j (2 * d + 2)
  fa : S.ask.fresh = true → j = 1 ∧ S.ask.was = 1 - v
  fb : S.ans.fresh = true → j = d + 2 ∧ S.ans.was = 1 - v
  ph : S.ph = 2 ∨ S.ph = 4
  n4 : S.ph = 4 → v = 1 → j ≤ 2 * d + 2
  pend : if j ≤ d + 1 ∧ (S.ph = 4 → v = 1) then S.sent = S.got ++ [S.word] else S.sent = S.got

theorem rb_lt {v : Int} {j i : Nat} (h : i < j) : rb v j i = v := if_pos h
theorem rb_ge {v : Int} {j i : Nat} (h : j ≤ i) : rb v j i = 1 - v := if_neg (by omega)
theorem shift {d : Nat} {x : Int} {f g : Nat → Int} (hd : 1 ≤ d) (h0 : g 0 = x) (hs : ∀ i, i + 1 < d → g (i + 1) = f i) : (x :: (List.range d).map f).dropLast = (List.range d).map g := by
  apply List.ext_getElem
  · simp
  · intro n h1 h2
    have hn : n < d := by simpa using h2
    rw [List.getElem_dropLast, List.getElem_map, List.getElem_range]
    cases n with
    | zero => rw [List.getElem_cons_zero]; exact h0.symm
    | succ n => rw [List.getElem_cons_succ, List.getElem_map, List.getElem_range]; exact (hs n hn).symm
theorem last_range {d : Nat} {f : Nat → Int} (hd : 1 ≤ d) : ((List.range d).map f).getLastD 0 = f (d - 1) := by
  obtain ⟨k, rfl⟩ : ∃ k, d = k + 1 := ⟨d - 1, by omega⟩
  rw [List.range_succ, List.map_append, List.map_singleton]
  simp
theorem repl_range (d : Nat) (x : Int) : List.replicate d x = (List.range d).map fun _ => x := by
  apply List.ext_getElem
  · simp
  · intro n h1 h2
    simp

theorem R.new {d : Nat} {ph : Int} (hd : 1 ≤ d) (hp : ph = 2 ∨ ph = 4) : R d (Sh.new d ph) 0 (2 * d + 3) where
  d1 := hd
  hv := .inl rfl
  j1 := by omega
  j2 := Nat.le_refl _
  askb := rfl
  aseen := by
    show List.replicate d 0 = _
    rw [repl_range]
    apply List.map_congr_left
    intro i hi
    have : i < d := by simpa using hi
    rw [rb_lt (by omega)]
  asked := (rb_lt (by omega)).symm
  ansb := (rb_lt (by omega)).symm
  nseen := by
    show List.replicate d 0 = _
    rw [repl_range]
    apply List.map_congr_left
    intro i hi
    have : i < d := by simpa using hi
    rw [rb_lt (by omega)]
  told := (rb_lt (by omega)).symm
  fa := fun h => by cases h
  fb := fun h => by cases h
  ph := hp
  n4 := fun _ h => by omega
  pend := by rw [if_neg (by omega)]; rfl

section
variable {d : Nat} {S : Sh} {v : Int} {j : Nat} {late : Bool}
theorem R.alast (h : R d S v j) : S.ask.last = rb v j d := by
  have := h.d1
  unfold Sig.last
  rw [h.aseen, last_range h.d1, show d - 1 + 1 = d by omega]
theorem R.nlast (h : R d S v j) : S.ans.last = rb v j (2 * d + 1) := by
  have := h.d1
  unfold Sig.last
  rw [h.nseen, last_range h.d1, show d + 2 + (d - 1) = 2 * d + 1 by omega]
theorem R.alen (h : R d S v j) : S.ask.seen.length = d := by rw [h.aseen]; simp
theorem R.nlen (h : R d S v j) : S.ans.seen.length = d := by rw [h.nseen]; simp

theorem R.ready_iff (h : R d S v j) : S.ready = true ↔ j = 2 * d + 3 := by
  have := h.d1
  have := h.j2
  unfold Sh.ready
  rw [h.askb, h.told]
  by_cases hj : j = 2 * d + 3
  · rw [rb_lt (by omega)]
    rcases h.ph with hp | hp
    · rw [if_pos hp]; simp [hj]
    · rw [if_neg (by omega)]
      have h0 : v = 0 := by
        rcases h.hv with z | z
        · exact z
        · have := h.n4 hp z; omega
      simp [hj, h0]
  · rw [rb_ge (by omega)]
    rcases h.ph with hp | hp
    · rw [if_pos hp]
      have : ¬ v = 1 - v := by rcases h.hv with z | z <;> omega
      simp [hj, this]
    · rw [if_neg (by omega)]
      rcases h.hv with z | z <;> simp [hj, z]

/-- how many more were sent than got -/
theorem R.all_got (h : R d S v j) (hj : d + 2 ≤ j) : S.sent = S.got := by
  have p := h.pend
  rw [if_neg (by omega)] at p
  exact p
theorem R.two (h : R d S v j) : S.sent = S.got ∨ S.sent = S.got ++ [S.word] := by
  have p := h.pend
  split at p
  · exact .inr p
  · exact .inl p

theorem R.send (h : R d S v j) (hr : S.ready = true) (w : Int) : R d (S.send w) (1 - v) 1 ∧ (S.send w).ask.fresh = true ∧ (S.ph = 4 → 1 - v = 1) := by
  have hj := h.ready_iff.mp hr
  have hd := h.d1
  subst hj
  have hne : ¬ (1 - S.ask.bit) = S.ask.bit := by rw [h.askb]; rcases h.hv with z | z <;> omega
  have et : S.ask.turn (1 - S.ask.bit) = ⟨1 - S.ask.bit, S.ask.bit, true, S.ask.seen⟩ := by unfold Sig.turn; rw [if_neg hne]
  have h4 : S.ph = 4 → v = 0 := fun q => by
    rcases h.hv with z | z
    · exact z
    · have := h.n4 q z; omega
  have r1 : ∀ i, 1 ≤ i → rb (1 - v) 1 i = v := fun i hi => by rw [rb_ge hi]; omega
  have r2 : ∀ i, i < 2 * d + 3 → rb v (2 * d + 3) i = v := fun i hi => rb_lt hi
  have ea : (S.send w).ask = ⟨1 - S.ask.bit, S.ask.bit, true, S.ask.seen⟩ := et
  refine ⟨⟨hd, by rcases h.hv with z | z <;> omega, Nat.le_refl _, by omega, ?_, ?_, ?_, ?_, ?_, ?_, ?_, ?_, h.ph, ?_, ?_⟩, ?_, fun q => by rw [h4 q]; rfl⟩
  · rw [ea, h.askb]
  · rw [ea]
    show S.ask.seen = _
    rw [h.aseen]
    apply List.map_congr_left
    intro i hi
    have : i < d := by simpa using hi
    rw [r1 _ (by omega), r2 _ (by omega)]
  · show S.asked = _
    rw [h.asked, r1 _ (by omega), r2 _ (by omega)]
  · show S.ans.bit = _
    rw [h.ansb, r1 _ (by omega), r2 _ (by omega)]
  · show S.ans.seen = _
    rw [h.nseen]
    apply List.map_congr_left
    intro i hi
    have : i < d := by simpa using hi
    rw [r1 _ (by omega), r2 _ (by omega)]
  · show S.told = _
    rw [h.told, r1 _ (by omega), r2 _ (by omega)]
  · intro _
    rw [ea]
    exact ⟨rfl, by show S.ask.bit = _; rw [h.askb]; omega⟩
  · intro q
    have := (h.fb q).1
    omega
  · intro _ _
    omega
  · have e : S.sent = S.got := h.all_got (by omega)
    rw [if_pos ⟨by omega, fun q => by rw [h4 q]; rfl⟩]
    show S.sent ++ [w] = S.got ++ [w]
    rw [e]
  · rw [ea]

/-- b's tick -/
def jB (d j : Nat) (f late : Bool) : Nat := if j ≤ d + 1 ∧ ¬ (f = true ∧ late = true) then j + 1 else j
theorem R.isNew_iff (h : R d S v j) : S.isNew = true ↔ (j = d + 1 ∧ (S.ph = 4 → v = 1)) := by
  have hd := h.d1
  unfold Sh.isNew
  rw [h.alast, h.asked]
  by_cases h1 : j ≤ d
  · rw [rb_ge h1, rb_ge (by omega)]
    rcases h.ph with hp | hp
    · rw [if_pos hp]; simp; omega
    · rw [if_neg (by omega)]
      rcases h.hv with z | z <;> simp [z] <;> omega
  · by_cases h2 : j = d + 1
    · rw [rb_lt (by omega), rb_ge (by omega)]
      rcases h.ph with hp | hp
      · rw [if_pos hp]
        have : ¬ v = 1 - v := by rcases h.hv with z | z <;> omega
        simp [this, h2, hp]
      · rw [if_neg (by omega)]
        rcases h.hv with z | z <;> simp [z, h2, hp]
    · rw [rb_lt (by omega), rb_lt (by omega)]
      rcases h.ph with hp | hp
      · rw [if_pos hp]; simp [h2]
      · rw [if_neg (by omega)]
        rcases h.hv with z | z <;> simp [z, h2]
theorem R.tickB (h : R d S v j) : R d (S.tickB late) v (jB d j S.ask.fresh late) := by
  have hd := h.d1
  have hj1 := h.j1
  have hj2 := h.j2
  have hne : ¬ 1 - v = v := by rcases h.hv with z | z <;> omega
  have hff : S.ask.fresh = true → late = true → S.ask.first late = 1 - v ∧ j = 1 := fun f l => by
    unfold Sig.first
    rw [if_pos ⟨f, l⟩]
    exact ⟨(h.fa f).2, (h.fa f).1⟩
  have hfn : ¬ (S.ask.fresh = true ∧ late = true) → S.ask.first late = v := fun q => by
    unfold Sig.first
    rw [if_neg q, h.askb]
  have ea : (S.tickB late).ask = ⟨S.ask.bit, S.ask.was, false, (S.ask.first late :: S.ask.seen).dropLast⟩ := rfl
  have en : (S.tickB late).ans = S.ans.turn (rb v j d) := by show S.ans.turn S.ask.last = _; rw [h.alast]
  have easked : (S.tickB late).asked = rb v j d := h.alast
  -- what stands at b's own flag behind it
  have e1 : rb v (jB d j S.ask.fresh late) (d + 1) = rb v j d := by
    unfold jB
    by_cases q : j ≤ d + 1 ∧ ¬ (S.ask.fresh = true ∧ late = true)
    · rw [if_pos q]
      by_cases z : d < j
      · rw [rb_lt z, rb_lt (by omega)]
      · rw [rb_ge (by omega), rb_ge (by omega)]
    · rw [if_neg q]
      by_cases z : j ≤ d + 1
      · have f : S.ask.fresh = true ∧ late = true := Decidable.not_not.mp fun w => q ⟨z, w⟩
        have := (hff f.1 f.2).2
        rw [rb_ge (by omega), rb_ge (by omega)]
      · rw [rb_lt (by omega), rb_lt (by omega)]
  have e2 : ∀ i, d + 2 ≤ i → rb v (jB d j S.ask.fresh late) i = rb v j i := fun i hi => by
    unfold jB
    by_cases q : j ≤ d + 1 ∧ ¬ (S.ask.fresh = true ∧ late = true)
    · rw [if_pos q, rb_ge (by omega), rb_ge (by omega)]
    · rw [if_neg q]
  have ej1 : j ≤ jB d j S.ask.fresh late := by unfold jB; split <;> omega
  have ej2 : jB d j S.ask.fresh late ≤ 2 * d + 3 := by unfold jB; split <;> omega
  have hans : (S.ans.turn (rb v j d)).bit = rb v j d ∧ (S.ans.turn (rb v j d)).seen = S.ans.seen := by
    unfold Sig.turn
    split
    · rename_i z; exact ⟨z.symm, rfl⟩
    · exact ⟨rfl, rfl⟩
  refine ⟨hd, h.hv, by omega, ej2, ?_, ?_, ?_, ?_, ?_, ?_, ?_, ?_, h.ph, ?_, ?_⟩
  · rw [ea, h.askb]
  · rw [ea]
    show (S.ask.first late :: S.ask.seen).dropLast = _
    rw [h.aseen]
    refine shift hd ?_ fun i hi => ?_
    · unfold jB
      by_cases f : S.ask.fresh = true ∧ late = true
      · have := hff f.1 f.2
        rw [this.1, if_neg (fun w => w.2 f), rb_ge (by omega)]
      · rw [hfn f]
        by_cases z : j ≤ d + 1
        · rw [if_pos ⟨z, f⟩, rb_lt (by omega)]
        · rw [if_neg (fun w => z w.1), rb_lt (by omega)]
    · unfold jB
      by_cases f : S.ask.fresh = true ∧ late = true
      · have := hff f.1 f.2
        rw [if_neg (fun w => w.2 f), rb_ge (by omega), rb_ge (by omega)]
      · by_cases z : j ≤ d + 1
        · rw [if_pos ⟨z, f⟩]
          by_cases y : i + 1 < j
          · rw [rb_lt (by omega), rb_lt y]
          · rw [rb_ge (by omega), rb_ge (by omega)]
        · rw [if_neg (fun w => z w.1), rb_lt (by omega), rb_lt (by omega)]
  · rw [easked, e1]
  · rw [en, hans.1, e1]
  · rw [en, hans.2, h.nseen]
    apply List.map_congr_left
    intro i hi
    rw [e2 _ (by omega)]
  · show S.told = _
    rw [h.told, e2 _ (by omega)]
  · intro f
    rw [ea] at f
    cases f
  · rw [en]
    intro f
    unfold Sig.turn at f ⊢
    rw [h.ansb] at f ⊢
    by_cases z : rb v j d = rb v j (d + 1)
    · rw [if_pos z] at f ⊢
      have q := h.fb f
      refine ⟨?_, q.2⟩
      unfold jB
      rw [if_neg (by omega)]
      exact q.1
    · rw [if_neg z] at f ⊢
      have hj : j = d + 1 := by
        by_cases y : j ≤ d
        · exact absurd (by rw [rb_ge y, rb_ge (by omega)]) z
        · by_cases x : d + 1 < j
          · exact absurd (by rw [rb_lt (by omega), rb_lt x]) z
          · omega
      refine ⟨?_, ?_⟩
      · unfold jB
        rw [if_pos ⟨by omega, fun w => by have := (hff w.1 w.2).2; omega⟩]
        omega
      · show rb v j (d + 1) = _
        rw [rb_ge (by omega)]
  · intro q z
    have := h.n4 q z
    unfold jB
    split <;> omega
  · have p := h.pend
    by_cases n : S.isNew = true
    · have q := h.isNew_iff.mp n
      have eg : (S.tickB late).got = S.got ++ [S.word] := if_pos n
      rw [if_pos ⟨by omega, q.2⟩] at p
      have ej : jB d j S.ask.fresh late = d + 2 := by
        unfold jB
        rw [if_pos ⟨by omega, fun w => by have := (hff w.1 w.2).2; omega⟩]
        omega
      rw [eg, if_neg (fun w => by have := w.1; omega)]
      exact p
    · have eg : (S.tickB late).got = S.got := if_neg n
      rw [eg]
      by_cases hp : S.ph = 4 → v = 1
      · have hj : j ≠ d + 1 := fun z => n (h.isNew_iff.mpr ⟨z, hp⟩)
        by_cases z : j ≤ d
        · rw [if_pos ⟨by omega, hp⟩] at p
          rw [if_pos ⟨by unfold jB; split <;> omega, hp⟩]
          exact p
        · rw [if_neg (by omega)] at p
          rw [if_neg (fun w => by have := w.1; omega)]
          exact p
      · rw [if_neg (fun w => hp w.2)] at p ⊢
        exact p

/-- a's tick -/
theorem R.tickA (h : R d S v j) : (¬ (d + 2 ≤ j ∧ j ≤ 2 * d + 2) ∧ R d (S.tickA late) v j ∧ (S.tickA late).ask = S.ask ∧ ((S.tickA late).ans.fresh = false))
    ∨ ((d + 2 ≤ j ∧ j ≤ 2 * d + 2) ∧ S.ans.fresh = true ∧ late = true ∧ R d (S.tickA late) v j ∧ (S.tickA late).ans.fresh = false ∧ (S.tickA late).ask = S.ask)
    ∨ ((d + 2 ≤ j ∧ j ≤ 2 * d + 2) ∧ R d (S.tickA late) v (j + 1) ∧ (S.tickA late).ans.fresh = false ∧ (S.tickA late).ask = S.ask)
    ∨ (j = 2 * d + 2 ∧ S.ph = 4 ∧ v = 1 ∧ R d (S.tickA late) 0 1) := by
  have hd := h.d1
  have hj1 := h.j1
  have hj2 := h.j2
  have hff : S.ans.fresh = true → late = true → S.ans.first late = 1 - v ∧ j = d + 2 := fun f l => by
    unfold Sig.first
    rw [if_pos ⟨f, l⟩]
    exact ⟨(h.fb f).2, (h.fb f).1⟩
  have hfn : ¬ (S.ans.fresh = true ∧ late = true) → S.ans.first late = rb v j (d + 1) := fun q => by
    unfold Sig.first
    rw [if_neg q, h.ansb]
  have mk : ∀ j' : Nat, j ≤ j' → j' ≤ 2 * d + 3 → (d + 2 ≤ j ∨ j' = j) → S.ans.first late = rb v j' (d + 2) → (∀ i, i + 1 < d → rb v j' (d + 2 + (i + 1)) = rb v j (d + 2 + i)) → rb v j (2 * d + 1) = rb v j' (2 * d + 2) → (S.ph = 4 → v = 1 → j' ≤ 2 * d + 2) →
      R d { S with told := S.ans.last, ans := S.ans.read late } v j' := by
    intro j' a1 a2 a3 b1 b2 b3 b4
    have lo : ∀ i, i ≤ d + 1 → rb v j' i = rb v j i := fun i hi => by
      rcases a3 with z | z
      · rw [rb_lt (by omega), rb_lt (by omega)]
      · rw [z]
    refine ⟨hd, h.hv, by omega, a2, h.askb, ?_, ?_, ?_, ?_, ?_, ?_, ?_, h.ph, b4, ?_⟩
    · show S.ask.seen = _
      rw [h.aseen]
      apply List.map_congr_left
      intro i hi
      have : i < d := by simpa using hi
      rw [lo _ (by omega)]
    · show S.asked = _
      rw [h.asked, lo _ (by omega)]
    · show S.ans.bit = _
      rw [h.ansb, lo _ (by omega)]
    · show (S.ans.first late :: S.ans.seen).dropLast = _
      rw [h.nseen]
      exact shift hd b1.symm b2
    · show S.ans.last = _
      rw [h.nlast, b3]
    · intro f
      have q := h.fa f
      refine ⟨?_, q.2⟩
      rcases a3 with z | z <;> omega
    · intro f
      cases (show false = true from f)
    · have p := h.pend
      show if _ then S.sent = S.got ++ [S.word] else S.sent = S.got
      by_cases z : j' ≤ d + 1 ∧ (S.ph = 4 → v = 1)
      · rw [if_pos z]
        rw [if_pos ⟨by omega, z.2⟩] at p
        exact p
      · rw [if_neg z]
        by_cases y : j ≤ d + 1 ∧ (S.ph = 4 → v = 1)
        · exfalso
          apply z
          refine ⟨?_, y.2⟩
          rcases a3 with x | x <;> omega
        · rw [if_neg y] at p
          exact p
  by_cases hr : d + 2 ≤ j ∧ j ≤ 2 * d + 2
  · by_cases hl : j = 2 * d + 2 ∧ S.ph = 4 ∧ v = 1
    · -- a lowers its flag
      obtain ⟨l1, l2, l3⟩ := hl
      refine .inr (.inr (.inr ⟨l1, l2, l3, ?_⟩))
      have nf : ¬ (S.ans.fresh = true ∧ late = true) := fun w => by have := (hff w.1 w.2).2; omega
      have el : S.ans.last = 1 := by rw [h.nlast, rb_lt (by omega), l3]
      have eb : S.ask.bit = 1 := by rw [h.askb, l3]
      have e : S.tickA late = { S with told := S.ans.last, ans := S.ans.read late, ask := S.ask.turn 0 } := by
        unfold Sh.tickA
        rw [if_pos ⟨l2, eb, el⟩]
      have et : S.ask.turn 0 = ⟨0, 1, true, S.ask.seen⟩ := by unfold Sig.turn; rw [if_neg (by omega), eb]
      have r1 : ∀ i, 1 ≤ i → rb 0 1 i = 1 := fun i hi => by rw [rb_ge hi]; rfl
      have r2 : ∀ i, i < 2 * d + 2 → rb v j i = 1 := fun i hi => by rw [rb_lt (by omega), l3]
      rw [e, et]
      refine ⟨hd, .inl rfl, Nat.le_refl _, by omega, rfl, ?_, ?_, ?_, ?_, ?_, ?_, ?_, h.ph, ?_, ?_⟩
      · show S.ask.seen = _
        rw [h.aseen]
        apply List.map_congr_left
        intro i hi
        have : i < d := by simpa using hi
        rw [r1 _ (by omega), r2 _ (by omega)]
      · show S.asked = _
        rw [h.asked, r1 _ (by omega), r2 _ (by omega)]
      · show S.ans.bit = _
        rw [h.ansb, r1 _ (by omega), r2 _ (by omega)]
      · show (S.ans.first late :: S.ans.seen).dropLast = _
        rw [h.nseen]
        refine shift hd ?_ fun i hi => ?_
        · rw [hfn nf, r1 _ (by omega), r2 _ (by omega)]
        · rw [r1 _ (by omega), r2 _ (by omega)]
      · show S.ans.last = _
        rw [el, r1 _ (by omega)]
      · intro _
        exact ⟨rfl, rfl⟩
      · intro f
        cases (show false = true from f)
      · intro _ z
        cases z
      · have p := h.all_got (by omega)
        rw [if_neg (fun w => absurd (w.2 l2) (by decide))]
        exact p
    · have e : S.tickA late = { S with told := S.ans.last, ans := S.ans.read late } := by
        unfold Sh.tickA
        rw [if_neg]
        rintro ⟨x, y, z⟩
        rw [h.askb] at y
        rw [h.nlast] at z
        apply hl
        refine ⟨?_, x, y⟩
        by_cases q : 2 * d + 1 < j
        · omega
        · rw [rb_ge (by omega), y] at z
          cases z
      by_cases f : S.ans.fresh = true ∧ late = true
      · have q := hff f.1 f.2
        refine .inr (.inl ⟨hr, f.1, f.2, ?_, ?_, ?_⟩)
        · rw [e]
          refine mk j (Nat.le_refl _) hj2 (.inr rfl) ?_ ?_ ?_ h.n4
          · rw [q.1, rb_ge (by omega)]
          · intro i hi
            rw [rb_ge (by omega), rb_ge (by omega)]
          · rw [rb_ge (by omega), rb_ge (by omega)]
        · rw [e]; rfl
        · rw [e]
      · refine .inr (.inr (.inl ⟨hr, ?_, ?_, ?_⟩))
        · rw [e]
          refine mk (j + 1) (by omega) (by omega) (.inl hr.1) ?_ ?_ ?_ ?_
          · rw [hfn f, rb_lt (by omega), rb_lt (by omega)]
          · intro i hi
            by_cases y : d + 2 + i < j
            · rw [rb_lt y, rb_lt (by omega)]
            · rw [rb_ge (by omega), rb_ge (by omega)]
          · by_cases y : 2 * d + 1 < j
            · rw [rb_lt y, rb_lt (by omega)]
            · rw [rb_ge (by omega), rb_ge (by omega)]
          · intro x y
            have : ¬ j = 2 * d + 2 := fun z => hl ⟨z, x, y⟩
            omega
        · rw [e]; rfl
        · rw [e]
  · have e : S.tickA late = { S with told := S.ans.last, ans := S.ans.read late } := by
      unfold Sh.tickA
      rw [if_neg]
      rintro ⟨x, y, z⟩
      rw [h.askb] at y
      have := h.n4 x y
      rw [h.nlast, rb_ge (by omega), y] at z
      cases z
    have f : ¬ (S.ans.fresh = true ∧ late = true) := fun w => by have := (hff w.1 w.2).2; omega
    refine .inl ⟨hr, ?_, ?_, ?_⟩
    · rw [e]
      refine mk j (Nat.le_refl _) hj2 (.inr rfl) ?_ ?_ ?_ h.n4
      · rw [hfn f]
        by_cases y : j ≤ d + 1
        · rw [rb_ge (by omega), rb_ge (by omega)]
        · rw [rb_lt (by omega), rb_lt (by omega)]
      · intro i hi
        by_cases y : j ≤ d + 1
        · rw [rb_ge (by omega), rb_ge (by omega)]
        · rw [rb_lt (by omega), rb_lt (by omega)]
      · by_cases y : j ≤ d + 1
        · rw [rb_ge (by omega), rb_ge (by omega)]
        · rw [rb_lt (by omega), rb_lt (by omega)]
    · rw [e]
    · rw [e]; rfl

theorem R.tickA_any (h : R d S v j) : ∃ v' j', R d (S.tickA late) v' j' := by
  rcases h.tickA (late := late) with q | q | q | q
  · exact ⟨_, _, q.2.1⟩
  · exact ⟨_, _, q.2.2.2.1⟩
  · exact ⟨_, _, q.2.1⟩
  · exact ⟨_, _, q.2.2.2⟩
theorem R.tick_any (h : R d S v j) (b : Bool) : ∃ v' j', R d (S.tick b late) v' j' := by
  unfold Sh.tick
  split
  · exact ⟨_, _, h.tickB⟩
  · exact h.tickA_any
end
theorem tickA_sent (S : Sh) (late : Bool) : (S.tickA late).sent = S.sent ∧ (S.tickA late).got = S.got ∧ (S.tickA late).ph = S.ph := by
  unfold Sh.tickA
  split <;> exact ⟨rfl, rfl, rfl⟩
theorem tick_sent (S : Sh) (b late : Bool) : (S.tick b late).sent = S.sent ∧ (S.tick b late).ph = S.ph := by
  unfold Sh.tick
  split
  · exact ⟨rfl, rfl⟩
  · exact ⟨(tickA_sent S late).1, (tickA_sent S late).2.2⟩
theorem tick_got (S : Sh) (b late : Bool) : (S.tick b late).got = if (b && S.isNew) = true then S.got ++ [S.word] else S.got := by
  cases b with
  | true => rfl
  | false => exact (tickA_sent S late).2.1

/-! rounds of both sides: how far it is until all stands still -/
def mu (d : Nat) (S : Sh) (v : Int) (j : Nat) : Nat :=
  (if j = 2 * d + 3 then 0 else (2 * d + 3 - j) + (if j ≤ d + 1 then (if S.ask.fresh = true then 2 else 1) else (if S.ans.fresh = true then 1 else 0))) + (if S.ph = 4 ∧ v = 1 then 2 * d + 4 else 0)
def muC (d : Nat) (ph v : Int) : Nat := if ph = 4 ∧ v = 1 then 2 * d + 4 else 0
theorem mu_lo {d : Nat} {S : Sh} {v : Int} {j : Nat} (h : j ≤ d + 1) : mu d S v j = (2 * d + 3 - j) + (if S.ask.fresh = true then 2 else 1) + muC d S.ph v := by
  unfold mu muC
  rw [if_neg (show ¬ j = 2 * d + 3 by omega), if_pos h]
theorem mu_hi {d : Nat} {S : Sh} {v : Int} {j : Nat} (h : d + 2 ≤ j) (h2 : j ≤ 2 * d + 2) : mu d S v j = (2 * d + 3 - j) + (if S.ans.fresh = true then 1 else 0) + muC d S.ph v := by
  unfold mu muC
  rw [if_neg (show ¬ j = 2 * d + 3 by omega), if_neg (show ¬ j ≤ d + 1 by omega)]
theorem mu_N {d : Nat} {S : Sh} {v : Int} : mu d S v (2 * d + 3) = muC d S.ph v := by
  unfold mu muC
  rw [if_pos rfl, Nat.zero_add]
theorem muC_le (d : Nat) (ph v : Int) : muC d ph v ≤ 2 * d + 4 := by
  unfold muC
  split <;> omega
theorem mu_le {d : Nat} {S : Sh} {v : Int} {j : Nat} (h : R d S v j) : mu d S v j ≤ 4 * d + 8 := by
  have h1 := h.j1
  have h2 := h.j2
  have c := muC_le d S.ph v
  by_cases a : j ≤ d + 1
  · rw [mu_lo a]
    split <;> omega
  · by_cases b : j ≤ 2 * d + 2
    · rw [mu_hi (by omega) b]
      split <;> omega
    · have e : j = 2 * d + 3 := by omega
      subst e
      rw [mu_N]
      omega
theorem mu_zero {d : Nat} {S : Sh} {v : Int} {j : Nat} (h : R d S v j) (z : mu d S v j = 0) : j = 2 * d + 3 := by
  have h2 := h.j2
  by_cases a : j ≤ d + 1
  · rw [mu_lo a] at z
    omega
  · by_cases b : j ≤ 2 * d + 2
    · rw [mu_hi (by omega) b] at z
      omega
    · omega
theorem mu_end {d : Nat} {S : Sh} {v : Int} (h : R d S v (2 * d + 3)) : mu d S v (2 * d + 3) = 0 := by
  rw [mu_N]
  unfold muC
  rw [if_neg]
  rintro ⟨x, y⟩
  have := h.n4 x y
  omega
theorem ite21 (f : Bool) : (if f = true then 2 else 1 : Nat) = 2 ∨ (if f = true then 2 else 1 : Nat) = 1 := by cases f <;> simp
theorem ite10 (f : Bool) : (if f = true then 1 else 0 : Nat) = 1 ∨ (if f = true then 1 else 0 : Nat) = 0 := by cases f <;> simp
theorem mu_A {d : Nat} {S : Sh} {v : Int} {j : Nat} (late : Bool) (h : R d S v j) : ∃ v' j', R d (S.tickA late) v' j' ∧ mu d (S.tickA late) v' j' ≤ mu d S v j ∧
    ((d + 2 ≤ j ∧ j ≤ 2 * d + 2 ∧ mu d (S.tickA late) v' j' < mu d S v j) ∨ (¬ (d + 2 ≤ j ∧ j ≤ 2 * d + 2) ∧ j' = j)) := by
  have hd := h.d1
  have hj1 := h.j1
  have hj2 := h.j2
  have hp := (tickA_sent S late).2.2
  rcases h.tickA (late := late) with ⟨q1, q2, q3, q4⟩ | ⟨q1, f, l, q2, q3, q4⟩ | ⟨q1, q2, q3, q4⟩ | ⟨q1, q2, q3, q4⟩
  · have e : mu d (S.tickA late) v j ≤ mu d S v j := by
      by_cases a : j ≤ d + 1
      · rw [mu_lo a, mu_lo a, q3, hp]
        exact Nat.le_refl _
      · have e : j = 2 * d + 3 := by omega
        subst e
        rw [mu_N, mu_N, hp]
        exact Nat.le_refl _
    exact ⟨v, j, q2, e, .inr ⟨q1, rfl⟩⟩
  · have e : mu d (S.tickA late) v j < mu d S v j := by
      rw [mu_hi q1.1 q1.2, mu_hi q1.1 q1.2, q3, hp, if_pos f, if_neg (by decide)]
      omega
    exact ⟨v, j, q2, Nat.le_of_lt e, .inl ⟨q1.1, q1.2, e⟩⟩
  · have e : mu d (S.tickA late) v (j + 1) < mu d S v j := by
      rw [mu_hi q1.1 q1.2]
      by_cases z : j + 1 = 2 * d + 3
      · rw [z, mu_N, hp]
        omega
      · rw [mu_hi (by omega) (by omega), q3, hp, if_neg (by decide)]
        omega
    exact ⟨v, j + 1, q2, Nat.le_of_lt e, .inl ⟨q1.1, q1.2, e⟩⟩
  · have e : mu d (S.tickA late) 0 1 < mu d S v j := by
      rw [mu_hi (j := j) (by omega) (by omega), mu_lo (j := 1) (by omega), hp]
      have c1 : muC d S.ph v = 2 * d + 4 := if_pos ⟨q2, q3⟩
      have c2 : muC d S.ph 0 = 0 := if_neg (fun w => absurd w.2 (by decide))
      rw [c1, c2]
      rcases ite21 (S.tickA late).ask.fresh with w | w <;> rw [w] <;> omega
    exact ⟨0, 1, q4, Nat.le_of_lt e, .inl ⟨by omega, by omega, e⟩⟩
theorem mu_B {d : Nat} {S : Sh} {v : Int} {j : Nat} (late : Bool) (h : R d S v j) : ∃ j', R d (S.tickB late) v j' ∧ mu d (S.tickB late) v j' ≤ mu d S v j ∧ (j ≤ d + 1 → mu d (S.tickB late) v j' < mu d S v j) := by
  have hd := h.d1
  have hj1 := h.j1
  have hj2 := h.j2
  have r := h.tickB (late := late)
  have ef : (S.tickB late).ask.fresh = false := rfl
  have hp : (S.tickB late).ph = S.ph := rfl
  refine ⟨jB d j S.ask.fresh late, r, ?_⟩
  by_cases z : j ≤ d + 1
  · have e : mu d (S.tickB late) v (jB d j S.ask.fresh late) < mu d S v j := by
      rw [mu_lo z]
      by_cases f : S.ask.fresh = true ∧ late = true
      · have ej : jB d j S.ask.fresh late = j := by unfold jB; rw [if_neg (fun w => w.2 f)]
        rw [ej, mu_lo z, ef, hp, if_neg (by decide), if_pos f.1]
        omega
      · have ej : jB d j S.ask.fresh late = j + 1 := by unfold jB; rw [if_pos ⟨z, f⟩]
        rw [ej]
        by_cases y : j + 1 ≤ d + 1
        · rw [mu_lo y, ef, hp, if_neg (by decide)]
          rcases ite21 S.ask.fresh with w | w <;> rw [w] <;> omega
        · have hf : ¬ S.ask.fresh = true := fun w => by have := (h.fa w).1; omega
          rw [mu_hi (by omega) (by omega), hp, if_neg hf]
          rcases ite10 (S.tickB late).ans.fresh with w | w <;> rw [w] <;> omega
    exact ⟨Nat.le_of_lt e, fun _ => e⟩
  · have ej : jB d j S.ask.fresh late = j := by unfold jB; rw [if_neg (fun w => z w.1)]
    refine ⟨?_, fun w => absurd w z⟩
    rw [ej]
    have es : S.ask.last = S.ans.bit := by rw [h.alast, h.ansb, rb_lt (by omega), rb_lt (by omega)]
    have en : (S.tickB late).ans = S.ans := by
      show S.ans.turn S.ask.last = S.ans
      unfold Sig.turn
      rw [if_pos es]
    by_cases b : j ≤ 2 * d + 2
    · rw [mu_hi (by omega) b, mu_hi (by omega) b, en, hp]
      exact Nat.le_refl _
    · have e : j = 2 * d + 3 := by omega
      subst e
      rw [mu_N, mu_N, hp]
      exact Nat.le_refl _
/-- a round: a, then b -/
theorem mu_round {d : Nat} {S : Sh} {v : Int} {j : Nat} (l1 l2 : Bool) (h : R d S v j) : ∃ v' j', R d ((S.tickA l1).tickB l2) v' j' ∧ mu d ((S.tickA l1).tickB l2) v' j' ≤ mu d S v j - 1 := by
  obtain ⟨v1, j1, r1, m1, c1⟩ := mu_A l1 h
  obtain ⟨j2, r2, m2, c2⟩ := mu_B l2 r1
  refine ⟨v1, j2, r2, ?_⟩
  rcases c1 with ⟨_, _, c1⟩ | ⟨c1, rfl⟩
  · omega
  · by_cases z : j1 ≤ d + 1
    · have := c2 z
      omega
    · have hj : j1 = 2 * d + 3 := by have := h.j2; omega
      subst hj
      have := mu_end h
      omega

/-! words fed ahead of ticks -/
def feed1 (X : Sh × List Int) (t : Bool × Bool) : Sh × List Int :=
  match X with
  | (S, []) => (S.tick t.1 t.2, [])
  | (S, w :: r) => if S.ready = true then ((S.send w).tick t.1 t.2, r) else (S.tick t.1 t.2, w :: r)
def feed (d : Nat) (ph : Int) (words : List Int) (ts : List (Bool × Bool)) : Sh × List Int := ts.foldl feed1 (Sh.new d ph, words)
theorem feed_snoc (d : Nat) (ph : Int) (words : List Int) (ts : List (Bool × Bool)) (t : Bool × Bool) : feed d ph words (ts ++ [t]) = feed1 (feed d ph words ts) t := by
  unfold feed
  rw [List.foldl_append]
  rfl
/-- what holds of a shake and the words left -/
def Fed (d : Nat) (ph : Int) (words : List Int) (X : Sh × List Int) : Prop := (∃ v j, R d X.1 v j) ∧ X.1.sent ++ X.2 = words ∧ X.1.ph = ph
theorem fed_new {d : Nat} {ph : Int} {words : List Int} (hd : 1 ≤ d) (hp : ph = 2 ∨ ph = 4) : Fed d ph words (Sh.new d ph, words) := ⟨⟨_, _, R.new hd hp⟩, rfl, rfl⟩
theorem fed_turn {d : Nat} {ph : Int} {words : List Int} {X : Sh × List Int} (h : Fed d ph words X) (t : Bool × Bool) : Fed d ph words (feed1 X t) := by
  obtain ⟨S, l⟩ := X
  obtain ⟨⟨v, j, r⟩, e, p⟩ := h
  cases l with
  | nil =>
    refine ⟨r.tick_any t.1, ?_, ?_⟩
    · show (S.tick t.1 t.2).sent ++ [] = words
      rw [(tick_sent S t.1 t.2).1]
      exact e
    · exact (tick_sent S t.1 t.2).2.trans p
  | cons w l =>
    unfold feed1
    show Fed d ph words (if S.ready = true then ((S.send w).tick t.1 t.2, l) else (S.tick t.1 t.2, w :: l))
    split
    · rename_i hr
      have r2 := (r.send hr w).1
      refine ⟨r2.tick_any t.1, ?_, ?_⟩
      · show ((S.send w).tick t.1 t.2).sent ++ l = words
        rw [(tick_sent _ t.1 t.2).1, ← e]
        show (S.sent ++ [w]) ++ l = S.sent ++ (w :: l)
        simp
      · exact (tick_sent _ t.1 t.2).2.trans p
    · refine ⟨r.tick_any t.1, ?_, ?_⟩
      · show (S.tick t.1 t.2).sent ++ (w :: l) = words
        rw [(tick_sent S t.1 t.2).1]
        exact e
      · exact (tick_sent S t.1 t.2).2.trans p
theorem fed_all {d : Nat} {ph : Int} {words : List Int} (hd : 1 ≤ d) (hp : ph = 2 ∨ ph = 4) (ts : List (Bool × Bool)) : Fed d ph words (feed d ph words ts) := by
  have : ∀ (ts : List (Bool × Bool)) (X : Sh × List Int), Fed d ph words X → Fed d ph words (ts.foldl feed1 X) := by
    intro ts
    induction ts with
    | nil => intro X h; exact h
    | cons t r ih => intro X h; exact ih _ (fed_turn h t)
  exact this ts _ (fed_new hd hp)
/-- one word led over: k ticks of b behind its sending, the first one late -/
def Led (d : Nat) (S : Sh) (v : Int) (k : Nat) : Prop := (S.ph = 4 → v = 1) ∧ ((k = 0 ∧ R d S v 1 ∧ S.ask.fresh = true) ∨ (1 ≤ k ∧ k ≤ d + 2 ∧ R d S v k ∧ S.ask.fresh = false))
theorem led_len {d : Nat} {S : Sh} {v : Int} {k : Nat} (h : Led d S v k) : (k < d + 2 → S.sent = S.got ++ [S.word]) ∧ (k = d + 2 → S.sent = S.got) := by
  obtain ⟨h4, ⟨rfl, r, f⟩ | ⟨h1, h2, r, f⟩⟩ := h
  · have p := r.pend
    have := r.d1
    rw [if_pos ⟨by omega, h4⟩] at p
    exact ⟨fun _ => p, fun z => by omega⟩
  · refine ⟨fun z => ?_, fun z => r.all_got (by omega)⟩
    have p := r.pend
    rw [if_pos ⟨by omega, h4⟩] at p
    exact p
theorem led_tick {d : Nat} {S : Sh} {v : Int} {k : Nat} (h : Led d S v k) (hk : k < d + 2) : Led d (S.tickB (decide (k = 0))) v (k + 1) := by
  obtain ⟨h4, ⟨rfl, r, f⟩ | ⟨h1, h2, r, f⟩⟩ := h
  · refine ⟨h4, .inr ⟨by omega, by omega, ?_, rfl⟩⟩
    have q := r.tickB (late := decide (0 = 0))
    have ej : jB d 1 S.ask.fresh (decide (0 = 0)) = 1 := by unfold jB; rw [if_neg (fun w => w.2 ⟨f, rfl⟩)]
    rw [ej] at q
    exact q
  · refine ⟨h4, .inr ⟨by omega, by omega, ?_, rfl⟩⟩
    have q := r.tickB (late := decide (k = 0))
    have ej : jB d k S.ask.fresh (decide (k = 0)) = k + 1 := by unfold jB; rw [if_pos ⟨by omega, fun w => by rw [f] at w; exact absurd w.1 (by decide)⟩]
    rw [ej] at q
    exact q
theorem led_start {d : Nat} {S : Sh} {v : Int} {j : Nat} (h : R d S v j) (hr : S.ready = true) (w : Int) : Led d (S.send w) (1 - v) 0 := by
  have q := h.send hr w
  exact ⟨q.2.2, .inl ⟨rfl, q.1, q.2.1⟩⟩
end Dg

/-! rules of our own: an attribute as a target in a tuple, a star ahead in a tuple's targets, a method called with keywords, len of an own instance -/
namespace DgR
open PySem PySem.Spec PyProof.Rows L2
section
variable {X : Cx} {pos : Pos}
/-- o.f as a target -/
def gAt (K : PySem.W.Frag) (to : TE) (f : Str) : TG := fun v σ H Q => to σ H fun x G => ∃ a C dx fs, x = .ref a ∧ G a = some (.ins C dx fs) ∧ Cls K C ∧ NoAttr K C f ∧ fs.length < 1000 ∧ Q σ (upd G a (.ins C dx (putF f v fs)))
theorem pg_at {o : Expr} {f : Str} {to : TE} (ho : PE X o to)
    (eq : ∀ v, assign (.Attribute o f pos) X.env v = (do
      let r ← holding [v] (eval o X.env)
      standAt pos.atName
      holding [v, r] (setAttr r f v)
      release [v, r] []) := by intro _; rfl) : PG X (.Attribute o f pos) (gAt X.K to f) := by
  refine ⟨fun ps s σ H v u Q inv rv want => ?_⟩
  rw [eq]
  refine wpAny_bind (wpAny_holding (thn (ho.run ps s σ H _ inv want) ?_))
  rintro r s1 ⟨x, G, inv1, rx, a, C, dx, fs, hx, ha, cl, na, sz, fin⟩
  subst hx
  obtain rfl : r = Value.ref a := rx
  refine wpAny_bind (wpAny_standAt (wpAny_bind (wpAny_holding (setattr_ok inv1 ha cl na sz rv fun s2 inv2 => ?_))))
  exact wpAny_release ⟨σ, _, inv2, fin⟩
/-- *t, .. -/
theorem pgs_star {t : Expr} {p : Pos} {es : List Expr} {g : TG} {gs : TGs} (h1 : PG X t g) (h2 : PGs X es gs)
    (hs : (assignEach (.Starred t p :: es) X.env).map (·.2) = assign t X.env :: (assignEach es X.env).map (·.2) := by rfl) : PGs X (.Starred t p :: es) (gCons g gs) := by
  refine ⟨fun ps s σ H vs us Q inv rs want => ?_⟩
  obtain ⟨x, xs, rfl, want⟩ := want
  cases rs with
  | cons r rr =>
    rw [hs]
    refine assignInOrder_cons (thn (h1.run ps s σ H _ _ _ inv r want) ?_)
    rintro _ s1 ⟨σ1, G, inv1, q⟩
    exact h2.run ps s1 σ1 G _ _ Q inv1 rr q
/-- the star ahead: a list is cut into a new list and the last ones -/
def gStar0 (K : PySem.W.Frag) (n : Nat) (gs : TGs) : TG := fun v σ H Q => ∃ a xs, v = .ref a ∧ SqL K H a xs ∧ n ≤ xs.length + 1 ∧ ∀ p, H p = none →
  gs (.ref p :: xs.drop (xs.length + 1 - n)) σ (upd H p (.lst (xs.take (xs.length + 1 - n)))) Q
theorem pg_star0 {es : List Expr} {k n : Nat} {gs : TGs} (hc : X.calm = true) (h : PGs X es gs) (h0 : 0 < n)
    (hn : (assignEach es X.env).length = n := by rfl) (hst : (assignEach es X.env).findIdx? (·.1) = some 0 := by rfl) : PG X (.Tuple es k pos) (gStar0 X.K n gs) := by
  refine ⟨fun ps s σ H v u Q inv rv want => ?_⟩
  obtain ⟨a, xs, rfl, hq, hle, want⟩ := want
  cases rv
  obtain ⟨its, rs, pl, hz⟩ := inv.list hq
  have li : s.heap.IsList a its.toArray := pl.isList
  have ln : xs.length = its.length := rs.length
  have off : a ≠ s.heap.objs.size := by
    obtain ⟨o, ho, _⟩ := li
    exact Nat.ne_of_lt (Heap.lt_size ho)
  rw [PyProof.Rows.assign_Tuple]
  refine wpAny_bind (wpAny_standAt ?_)
  unfold unpack
  rw [hn, hst]
  refine wpAny_bind (wpAny_holding ?_)
  unfold unpackItems
  refine wpAny_bind ?_
  unfold notIterableAtAll
  refine wpAny_bind (wpAny_specialOf li.typeIs slot_list_iter.lookup (wpAny_pure ?_))
  simp only [Bool.false_eq_true, if_false]
  refine wpAny_bind (wpAny_holding (wpAny_pyIter_list li ?_))
  have lit : Heap.IsListIter (s.heap.push { cls := .type "list_iterator", data := .fields #[.ref a, .int 0 0] }) s.heap.objs.size a 0 := ⟨_, Heap.get?_push_size _ rfl, rfl, rfl⟩
  have li1 : Heap.IsList (s.heap.push { cls := .type "list_iterator", data := .fields #[.ref a, .int 0 0] }) a its.toArray := li.push _
  refine wpAny_bind (wpAny_holding ?_)
  refine wpAny_pure (a := ([] : List Value)) ?_
  rw [if_neg (by simp)]
  have t1 : (s.heap.push { cls := .type "list_iterator", data := .fields #[.ref a, .int 0 0] }).objs.size = s.heap.objs.size + 1 := Heap.size_push _ _
  have alt : a < s.heap.objs.size := by
    obtain ⟨o, ho, _⟩ := li
    exact Heap.lt_size ho
  have walks := Walks.list (prog := X.prog) (w := X.w) (A := X.A.in1) (inv.ok.hd hc) s.heap.objs.size a off its.toArray
  refine wpAny_bind (wpAny_holding (PySem.W.kun_collect (k := 0) (T := "list_iterator") (.inr (.inr (.inl rfl))) walks (fun _ _ st => st.1.typeIs) (Nat.zero_le _) ⟨lit, li1⟩ (by show _ < (s.heap.push _).objs.size; rw [t1]; exact Nat.lt_succ_self _) (by show _ < (s.heap.push _).objs.size; rw [t1]; exact Nat.lt_succ_of_lt alt) (fun h2 tk kp => ?_) (by rw [List.size_toArray, ← ln]; exact hz)))
  have old : ∀ b o, s.heap.get? b = some o → h2.get? b = some o := fun b o e => kp b o (Nat.ne_of_lt (Heap.lt_size e)) (Heap.get?_push_of_some _ e)
  have inv2 : Inv X ps σ H { s with heap := h2, toks := tk } := inv.kept old
  have len : (List.drop 0 its.toArray.toList).length = xs.length := by simpa using ln.symm
  have dr : List.drop 0 its.toArray.toList = its := by simp
  rw [if_neg (by rw [len]; omega), dr]
  have cut : its.length - (n - 1 - 0) = xs.length + 1 - n := by omega
  rw [cut]
  refine wpAny_bind (wpAny_newList (wpAny_pure ?_) (by rw [List.length_take]; omega))
  have inv3 := inv2.lnew (t' := tk) (rs.take (xs.length + 1 - n)) (by rw [List.length_take]; omega)
  have vals : Vals (V.ref h2.objs.size :: xs.drop (xs.length + 1 - n)) ([] ++ [Value.ref h2.objs.size] ++ its.drop (xs.length + 1 - n)) := .cons rfl (rs.drop _)
  exact h.run ps _ σ _ _ _ Q inv3 vals (want _ inv2.fresh)
/-- o.m(e, .., k = v, ..) -/
def tMethK (C : Addr) (m : Str) (n r : Nat) (sp : Sp) (gV : List V → List V → List V) (E : XK) (to : TE) (t tk : TA) : TE := fun σ H Q => to σ H fun x G => ∃ a dx fs, x = .ref a ∧ G a = some (.ins C dx fs) ∧ fs.lookup m = none ∧
  t σ G fun vs G1 => tk σ G1 fun zs G2 => vs.length = n ∧ zs.length = r ∧ sp (gV (x :: vs) zs) G2 Q E
theorem pe_methN {o e : Expr} {es : List Expr} {m : Str} {apos : Pos} {kws : List Keyword} {CX : CXT} {C f : Addr} {fd : FuncData} {ps ks : List Str} {sp : Sp} {E : XK} {to : TE} {t tk : TA} {k n : Nat} {pl : Sem Bool}
    {g : List Value → List Value → List Value} {gV : List V → List V → List V} (ho : PE X o to) (cl : Cls X.K C) (hm : Meth X.K C m f) (F : FnOk X.prog X.w X.K X.mg X.base CX k f fd ps sp) (hr : Room k X.A) (hb : KBn X.K fd ps (n + 1) ks g gV) (hx : Passes CX X E)
    (ha : PA X (e :: es) t) (hk : PK X kws tk) (all : (backToKw pos (keywordEach kws X.env)).all (·.1.isSome) = true := by rfl) (hks : (backToKw pos (keywordEach kws X.env)).filterMap (·.1) = ks := by rfl)
    (st : starEach (e :: es) X.env = (false, eval e X.env) :: starEach es X.env := by rfl) (plain : ((backTo pos (starEach (e :: es) X.env)).any (·.1) || (backToKw pos (keywordEach kws X.env)).any (·.1.isNone)) = false := by rfl)
    (eq : eval (.Call (.Attribute o m apos) (e :: es) kws pos) X.env = (do
      let r ← eval o X.env
      standAt apos.atName
      let (h, first) ← holding [r] (getMethod r m pl)
      callWith pos h first (backTo pos (starEach (e :: es) X.env)) (backToKw pos (keywordEach kws X.env))) := by rfl) :
    PE X (.Call (.Attribute o m apos) (e :: es) kws pos) (tMethK C m n ks.length sp gV E to t tk) := by
  refine ⟨fun pn s σ H Q inv want => ?_⟩
  refine PySem.W.methodCall_KW (pl := pl) (thn (ho.run pn s σ H _ inv want) ?_) eq
  rintro r s1 ⟨x, G, inv1, rx, a, dx, fs, hx', ha', nl, q⟩
  subst hx'
  obtain rfl : r = Value.ref a := rx
  refine getmeth_ok inv1 ha' cl hm nl ?_
  refine PySem.W.callWith_KW (first := [.ref a]) (h₀ := X.base) inv1.ok.mod.kin hm.kp all (thn (ha.run pos pn s1 σ G _ inv1 q) ?_) plain st
  rintro us s2 ⟨vs, G1, inv2, rv, q1⟩
  refine thn (hk.run pos pn s2 σ G1 _ inv2 q1) ?_
  rintro ws s3 ⟨zs, G2, inv3, rz, l1, l2, q2⟩
  refine ⟨inv3.kIn, ?_⟩
  rw [hks]
  exact run_fnN (us := .ref a :: us) (vs := .ref a :: vs) F hr hb hx inv3 (.cons rfl rv) rz (congrArg Nat.succ l1) l2 q2
/-- len of an own instance -/
def rLenO (C : Addr) (sp : Sp) (E : XK) : List V → Hp → VK → Prop := fun xs H Q => ∃ a dx fs, xs = [.ref a] ∧ H a = some (.ins C dx fs) ∧
  sp [.ref a] H (fun v H' => ∃ n : Nat, v = .int (n : Int) ∧ n < 2 ^ 63 ∧ Q (.int (n : Int)) H') E
theorem call_lenO {CX : CXT} {C f : Addr} {fd : FuncData} {x : Str} {sp : Sp} {E : XK} {k : Nat} (F : FnOk X.prog X.w X.K X.mg X.base CX k f fd [x] sp) (hr : Room (k + 1) X.A)
    (hs : PySem.W.findIn X.K (.ref C) "__len__" = some (some (.ref f))) (hf : PySem.W.isFn X.K (.ref f) = true) (hb : Binds X.K fd [x] []) (hx : Passes CX X E) : CallR X (.builtin "len") (rLenO C sp E) := by
  intro pn s σ H xs us Q inv rs want
  obtain ⟨a, dx, fs, rfl, ha, want⟩ := want
  obtain ⟨u, rfl, ru⟩ := vals1 rs
  obtain rfl : u = Value.ref a := ru
  obtain ⟨mA, J, _⟩ := ins_get inv.hok ha
  obtain ⟨od, J, _⟩ := J.look
  obtain ⟨m, fr⟩ := inv.fr
  refine PySem.W.len_K fr inv.ok.mod.kin J hs hf ?_
  have bt : BindsTo s fd ⟨[.ref a], []⟩ ([x].zip [.ref a]) := by simpa using hb s [.ref a] inv.kIn rfl
  refine wpAny_call (codeAny_mono (F.run X.A.in1 X.stack s H ⟨[.ref a], []⟩ [.ref a] [.ref a] _ E hr.in1 inv.env0.in1 bt (.cons rfl .nil) want) fun r s' out => ?_)
  cases r with
  | error e => exact hx pn σ H s e s' inv out
  | ok fl =>
    cases fl with
    | ret u =>
      obtain ⟨v, H', inv', rv, n, rfl, hn, q⟩ := inv.after out
      obtain ⟨t, rfl⟩ := rv
      exact ⟨⟨by omega, by omega⟩, .int n, H', inv'.tok _, ⟨_, rfl⟩, q⟩
    | next => exact out.elim
    | brk => exact out.elim
    | cont => exact out.elim
end
end DgR

namespace Dgw
open PySem L2 DgR
/-! ### the text by places -/
def top (i : Nat) : Stmt := PySem.Challenge.pw_driftgates_k26_whole_shakes.main.body.getD i (.Pass ⟨0, 0, 0, 0⟩)
abbrev sIsN : Stmt := top 7
abbrev sNeed : Stmt := top 8
abbrev sSgInit : Stmt := inClass (top 12) 0
abbrev sTurn : Stmt := inClass (top 12) 1
abbrev sRead : Stmt := inClass (top 12) 2
abbrev sInit : Stmt := inClass (top 13) 0
abbrev sReady : Stmt := inClass (top 13) 1
abbrev sSend : Stmt := inClass (top 13) 2
abbrev sTickA : Stmt := inClass (top 13) 3
abbrev sTickB : Stmt := inClass (top 13) 4
abbrev sTick : Stmt := inClass (top 13) 5
abbrev sSent : Stmt := inClass (top 13) 7
abbrev sGot : Stmt := inClass (top 13) 8
abbrev sLen : Stmt := inClass (top 13) 9
abbrev sOver : Stmt := top 14
abbrev sDrawn : Stmt := top 16
abbrev sLed : Stmt := top 17
abbrev sLaw : Stmt := top 18
/-- the built-ins that no name of the module hides -/
structure Bl (mg : Str → Option Value) : Prop where
  isi : mg "isinstance" = none
  int : mg "int" = none
  bool : mg "bool" = none
  str : mg "str" = none
  list : mg "list" = none
  tuple : mg "tuple" = none
  all : mg "all" = none
  len : mg "len" = none
  range : mg "range" = none
theorem b_isi : bootBuiltins "isinstance" = some (.builtin "isinstance") := by decide +kernel
theorem b_int : bootBuiltins "int" = some (.type "int") := by decide +kernel
theorem b_bool : bootBuiltins "bool" = some (.type "bool") := by decide +kernel
theorem b_str : bootBuiltins "str" = some (.type "str") := by decide +kernel
theorem b_list : bootBuiltins "list" = some (.type "list") := by decide +kernel
theorem b_tuple : bootBuiltins "tuple" = some (.type "tuple") := by decide +kernel
theorem b_all : bootBuiltins "all" = some (.builtin "all") := by decide +kernel
theorem b_len : bootBuiltins "len" = some (.builtin "len") := by decide +kernel
section
variable {P : Program} {w : World} {K : PySem.W.Frag} {mg : Str → Option Value} {base : Heap}
/-! ### is_number, need_number: of numbers that are -/
theorem kb (a b : String) (r : Bool) (h : kitB a b = some r := by decide +kernel) {K : PySem.W.Frag} : PySem.W.kitOne K (.type a) (.type b) = some r := kit_ty h
theorem scIsN : FnScope ["thing", "least", "most"] ["thing", "least", "most"] (defScope sIsN) := ⟨rfl, rfl, rfl, by decide +kernel, rfl, by decide +kernel, by decide +kernel⟩
def spIsN : Sp := fun vs H Q _ => ∃ i lo hi : Int, vs = [.int i, .int lo, .int hi] ∧ lo ≤ i ∧ i ≤ hi ∧ Q (.bl true) H
theorem ok_isn {f : Addr} {fd : FuncData} (F : Fun K "is_number" "is_number" sIsN f fd) (B : Bl mg) : FnOk P w K mg base CX0 1 f fd ["thing", "least", "most"] spIsN := by
  refine F.ok scIsN (fun vs H Q E h => ?_) (fun cdv A outer s H vs Q E hr h => ?_)
  · obtain ⟨i, lo, hi, rfl, _⟩ := h
    rfl
  · obtain ⟨i, lo, hi, rfl, h1, h2, q⟩ := h
    refine ⟨_, pss_one (ps_ret (pe_and (pe_callB call_isi (by rfl) B.isi b_isi (pa_cons (pv 0) (pa_cons (pe_bltn (v := .ty "int") (by rfl) B.int b_int rfl) pa_nil)))
      (pe_and (pe_not (pe_callB call_isi (by rfl) B.isi b_isi (pa_cons (pv 0) (pa_cons (pe_bltn (v := .ty "bool") (by rfl) B.bool b_bool rfl) pa_nil))))
        (pe_one (pe_chain op_le op_le (pv 1) (pv 0) (pv 2)))))), ?_⟩
    refine ⟨_, rfl, _, _, .type "int", .type "int", true, rfl, .ty _, .base (.int _), kb "int" "int" true, true, rfl, iteT ?_⟩
    refine ⟨_, rfl, _, _, .type "int", .type "bool", false, rfl, .ty _, .base (.int _), kb "int" "bool" false, false, rfl, true, rfl, iteT ?_⟩
    refine ⟨_, rfl, _, rfl, lo, i, rfl, rfl, _, rfl, ?_⟩
    rw [decide_eq_true h1]
    refine iteT ⟨_, rfl, i, hi, rfl, rfl, ?_⟩
    show Q (V.bl (decide (i ≤ hi))) H
    rw [decide_eq_true h2]
    exact q
theorem scNeed : FnScope ["thing", "which", "least", "most"] ["thing", "which", "least", "most"] (defScope sNeed) := ⟨rfl, rfl, rfl, by decide +kernel, rfl, by decide +kernel, by decide +kernel⟩
def spNeed : Sp := fun vs H Q _ => ∃ (i lo hi : Int) (z : Str), vs = [.int i, .str z, .int lo, .int hi] ∧ lo ≤ i ∧ i ≤ hi ∧ Q .non H
def kwNeed : List (Str × V) := [("least", .int 0), ("most", .int 999)]
theorem ok_need {f fI : Addr} {fd fdI : FuncData} (F : FunD K "need_number" "need_number" (defArgs sNeed) (defBody sNeed) (defScope sNeed) [] kwNeed f fd) (B : Bl mg)
    (GI : FnOk P w K mg base CX0 1 fI fdI ["thing", "least", "most"] spIsN) (mI : mg "is_number" = some (.ref fI)) (kI : PySem.W.keepIn K (.ref fI) = true) (bI : Binds K fdI ["thing", "least", "most"] []) : FnOk P w K mg base CX0 2 f fd ["thing", "which", "least", "most"] spNeed := by
  refine F.ok (CX := CX0) scNeed (fun vs H Q E h => ?_) (fun cdv A outer s H vs Q E hr h => ?_)
  · obtain ⟨i, lo, hi, z, rfl, _⟩ := h
    rfl
  · obtain ⟨i, lo, hi, z, rfl, h1, h2, q⟩ := h
    refine ⟨_, PSs.nox (pss_one (ps_if (pt_not (pt_val (pe_call GI hr (by rfl) mI kI bI .nil pass0 (pa_cons (pv 0) (pa_cons (pv 2) (pa_cons (pv 3) pa_nil)))))) pss_never pss_nil)), ?_⟩
    refine ⟨_, rfl, _, rfl, _, rfl, i, lo, hi, rfl, h1, h2, true, rfl, ?_⟩
    exact iteF q
end
end Dgw

namespace Dgw
open PySem L2 DgR Dg
/-! ### a signal in the heap -/
def sgF (b w : Int) (f : Bool) (l : Addr) : List (Str × V) := [("bit", .int b), ("was", .int w), ("is_fresh", .bl f), ("seen", .ref l)]
section
variable (b w b' w' : Int) (f f' : Bool) (l l' : Addr)
theorem sg_bit : (sgF b w f l).lookup ("bit" : Str) = some (.int b) := by rfl
theorem sg_was : (sgF b w f l).lookup ("was" : Str) = some (.int w) := by rfl
theorem sg_fr : (sgF b w f l).lookup ("is_fresh" : Str) = some (.bl f) := by rfl
theorem sg_seen : (sgF b w f l).lookup ("seen" : Str) = some (.ref l) := by rfl
theorem sg_pb : putF "bit" (.int b') (sgF b w f l) = sgF b' w f l := by rfl
theorem sg_pw : putF "was" (.int w') (sgF b w f l) = sgF b w' f l := by rfl
theorem sg_pf : putF "is_fresh" (.bl f') (sgF b w f l) = sgF b w f' l := by rfl
theorem sg_ps : putF "seen" (.ref l') (sgF b w f l) = sgF b w f l' := by rfl
theorem sg_new : putF "seen" (.ref l) (putF "is_fresh" (.bl f) (putF "was" (.int w) (putF "bit" (.int b) []))) = sgF b w f l := by rfl
theorem sg_turn : (sgF b w f l).lookup ("turn" : Str) = none := by rfl
theorem sg_read : (sgF b w f l).lookup ("read" : Str) = none := by rfl
end
/-- behind the frame F (all of it kept, q and its list not in it) a signal stands at q that holds s -/
def SigAt (CS : Addr) (F H : Hp) (q : Addr) (s : Sig) : Prop :=
  Same F H ∧ F q = none ∧ ∃ (dx l : Addr), F l = none ∧ H q = some (.ins CS dx (sgF s.bit s.was s.fresh l)) ∧ H l = some (.lst (s.seen.map V.int))
def spSgInit (CS : Addr) : Sp := fun vs H Q _ => ∃ (F : Hp) (q dx : Addr) (d : Nat), vs = [.ref q, .int (d : Int)] ∧ Same F H ∧ F q = none ∧ H q = some (.ins CS dx []) ∧ d ≤ 1000 ∧ ∀ H', SigAt CS F H' q (Sig.new d) → Q .non H'
def spTurn (CS : Addr) : Sp := fun vs H Q _ => ∃ (F : Hp) (q : Addr) (s : Sig) (b : Int), vs = [.ref q, .int b] ∧ SigAt CS F H q s ∧ ∀ H', SigAt CS F H' q (s.turn b) → Q .non H'
def spRead (CS : Addr) : Sp := fun vs H Q _ => ∃ (F : Hp) (q : Addr) (s : Sig) (late : Bool), vs = [.ref q, .bl late] ∧ SigAt CS F H q s ∧ 1 ≤ s.seen.length ∧ s.seen.length ≤ 1000 ∧ ∀ H', SigAt CS F H' q (s.read late) → Q (.int s.last) H'
/-- the class Signal -/
structure Sg (K : PySem.W.Frag) (CS : Addr) : Prop where
  cl : Cls K CS
  nB : NoAttr K CS "bit"
  nW : NoAttr K CS "was"
  nF : NoAttr K CS "is_fresh"
  nS : NoAttr K CS "seen"
section
variable {P : Program} {w : World} {K : PySem.W.Frag} {mg : Str → Option Value} {base : Heap}
theorem same_upd {F H : Hp} {a : Addr} {o : HO} (s : Same F H) (h : F a = none) : Same F (upd H a o) := fun b u e => by
  have n : b ≠ a := fun z => by
    rw [z, h] at e
    cases e
  rw [upd_ne n]
  exact s b u e
theorem scSgI : FnScope ["self", "steps", "step"] ["self", "steps"] (defScope sSgInit) := ⟨rfl, rfl, rfl, by decide +kernel, rfl, by decide +kernel, by decide +kernel⟩
theorem ok_sgInit {f CS : Addr} {fd : FuncData} (F : Fun K "__init__" "Signal.__init__" sSgInit f fd) (T : Sg K CS) (B : Bl mg) : FnOk P w K mg base CX0 1 f fd ["self", "steps"] (spSgInit CS) := by
  refine F.ok scSgI (fun vs H Q E h => ?_) (fun cdv A outer s H vs Q E hr h => ?_)
  · obtain ⟨F, q, dx, d, rfl, _⟩ := h
    rfl
  · obtain ⟨F, q, dx, d, rfl, s0, q0, hq, hd, k⟩ := h
    refine ⟨_, pss_cons (ps_fld (pv 0) pe_int rfl) (pss_cons (ps_fld (pv 0) pe_int rfl) (pss_cons (ps_fld (pv 0) pe_bl rfl) (pss_one (ps_fld (pv 0)
      (pe_lc (own := [("step", 2)]) (g := gName 2) (tt := tYes) rfl scSgI.nd (pi_range1 rfl B.range (pa_cons (pv 1) pa_nil)) (blkOk_by (N := ["self", "steps", "step"]) (sc := defScope sSgInit) (by decide +kernel)) (fun _ _ _ _ _ => pg_name (i := 2) scSgI.nd rfl (Or.inl rfl)) (fun _ _ _ _ _ => pts_nil) (fun _ _ _ _ _ => pe_int)) rfl)))), ?_⟩
    refine ⟨_, rfl, q, CS, dx, [], rfl, hq, T.cl, T.nB, (by show 0 < 1000; decide), ?_⟩
    refine ⟨_, rfl, q, CS, dx, _, rfl, upd_same, T.cl, T.nW, (by show 1 < 1000; decide), ?_⟩
    refine ⟨_, rfl, q, CS, dx, _, rfl, upd_same, T.cl, T.nF, (by show 2 < 1000; decide), ?_⟩
    rw [upd_upd, upd_upd]
    refine ⟨_, rfl, d, rfl, by omega, by omega, fun D hD => ?_⟩
    have hqD : q ≠ D := ne_of_none upd_same hD
    have hDH : H D = none := by
      rw [upd_ne hqD.symm] at hD
      exact hD
    have hDF : F D = none := s0.free hDH
    generalize hG : upd H q (HO.ins CS dx (putF "is_fresh" (V.bl false) (putF "was" (V.int 0) (putF "bit" (V.int 0) [])))) = G
    have GG : Same F G := by rw [← hG]; exact same_upd s0 q0
    have Gq : G q = some (HO.ins CS dx (putF "is_fresh" (V.bl false) (putF "was" (V.int 0) (putF "bit" (V.int 0) [])))) := by rw [← hG]; exact upd_same
    refine lc_range (lo := 0) (n := ((d : Nat) : Int).toNat) (fun i H' => H' = upd G D (.lst ((List.replicate i (0 : Int)).map V.int))) rfl ?_ ?_
    · rintro i H' hi rfl
      refine ⟨rfl, ?_⟩
      unfold tYes
      refine iteT ⟨_, upd_same, ?_, ?_⟩
      · rw [List.length_map, List.length_replicate]
        exact Nat.lt_of_lt_of_le hi (by have : (1000 : Nat) ≤ sizeLine := by decide
                                        omega)
      · show upd (upd G D _) D _ = _
        rw [upd_upd, List.replicate_succ', List.map_append]
        rfl
    · rintro H' rfl
      refine ⟨_, rfl, q, CS, dx, _, rfl, (by rw [upd_ne hqD]; exact Gq), T.cl, T.nS, (by show 3 < 1000; decide), ?_⟩
      rw [sg_new]
      have e : ((d : Nat) : Int).toNat = d := Int.toNat_natCast d
      refine k _ ⟨same_upd (same_upd GG hDF) q0, q0, dx, D, hDF, upd_same, ?_⟩
      rw [upd_ne hqD.symm, upd_same, e]
      rfl
theorem scTurn : FnScope ["self", "bit"] ["self", "bit"] (defScope sTurn) := ⟨rfl, rfl, rfl, by decide +kernel, rfl, by decide +kernel, by decide +kernel⟩
theorem ok_turn {f CS : Addr} {fd : FuncData} (F : Fun K "turn" "Signal.turn" sTurn f fd) (T : Sg K CS) : FnOk P w K mg base CX0 1 f fd ["self", "bit"] (spTurn CS) := by
  refine F.ok scTurn (fun vs H Q E h => ?_) (fun cdv A outer s H vs Q E hr h => ?_)
  · obtain ⟨F, q, s, b, rfl, _⟩ := h
    rfl
  · obtain ⟨F, q, g, b, rfl, hs, k⟩ := h
    obtain ⟨s0, q0, dx, l, l0, hq, hl⟩ := id hs
    refine ⟨_, pss_one (ps_if (pt_cmpR op_ne (pv 1) (pe_fld (pv 0) rfl) (nomark _)) (pss_one (ps_asg (pe_tup (pa_cons (pv 1) (pa_cons (pe_fld (pv 0) rfl) (pa_cons pe_bl pa_nil))))
      (pg_tup rfl (pgs_cons (pg_at (pv 0)) (pgs_cons (pg_at (pv 0)) (pgs_cons (pg_at (pv 0)) pgs_nil)))))) pss_nil), ?_⟩
    refine ⟨_, rfl, _, rfl, q, CS, dx, _, _, rfl, hq, T.cl, T.nB, sg_bit _ _ _ _, rfl, _, rfl, ?_⟩
    by_cases hb : b = g.bit
    · have e : (!decide (V.int b = V.int g.bit)) = false := by rw [hb]; simp
      rw [e]
      refine iteF (k _ ?_)
      unfold Sig.turn
      rw [if_pos hb]
      exact hs
    · have e : (!decide (V.int b = V.int g.bit)) = true := by simp [hb]
      rw [e]
      refine iteT ?_
      refine ⟨_, rfl, _, rfl, q, CS, dx, _, _, rfl, hq, T.cl, T.nB, sg_bit _ _ _ _, (by show 3 ≤ sizeLine; decide), fun t ht => ?_⟩
      have nqt : q ≠ t := ne_of_none hq ht
      have nlt : l ≠ t := ne_of_none hl ht
      have nlq : l ≠ q := ne_of hl hq (by intro z; cases z)
      refine ⟨t, _, rfl, SqT.of upd_same, rfl, _, _, rfl, _, rfl, q, CS, dx, _, rfl, (by rw [upd_ne nqt]; exact hq), T.cl, T.nB, (by show 4 < 1000; decide), ?_⟩
      rw [sg_pb]
      refine ⟨_, _, rfl, _, rfl, q, CS, dx, _, rfl, upd_same, T.cl, T.nW, (by show 4 < 1000; decide), ?_⟩
      rw [sg_pw, upd_upd]
      refine ⟨_, _, rfl, _, rfl, q, CS, dx, _, rfl, upd_same, T.cl, T.nF, (by show 4 < 1000; decide), rfl, ?_⟩
      rw [sg_pf, upd_upd]
      refine k _ ?_
      have et : g.turn b = ⟨b, g.bit, true, g.seen⟩ := if_neg hb
      rw [et]
      exact ⟨same_upd (same_upd s0 (s0.free ht)) q0, q0, dx, l, l0, upd_same, by rw [upd_ne nlq, upd_ne nlt]; exact hl⟩
/-- what the first holder takes -/
theorem first_run {H : Hp} {q CS dx l : Addr} {g : Sig} {late : Bool} {σ : St} {Q : VK} (T : Sg K CS) (hq : H q = some (.ins CS dx (sgF g.bit g.was g.fresh l))) (h0 : σ[0]? = some (some (V.ref q))) (h1 : σ[1]? = some (some (V.bl late)))
    (h : Q (.int (g.first late)) H) : tIf (tAnd (tB (tFld K (tVar 0) "is_fresh")) (tB (tVar 1))) (tFld K (tVar 0) "was") (tFld K (tVar 0) "bit") σ H Q := by
  refine ⟨_, h0, q, CS, dx, _, _, rfl, hq, T.cl, T.nF, sg_fr _ _ _ _, g.fresh, rfl, ?_⟩
  unfold Sig.first at h
  cases hf : g.fresh with
  | false =>
    rw [hf, if_neg (by simp)] at h
    exact iteF (iteF ⟨_, h0, q, CS, dx, _, _, rfl, hq, T.cl, T.nB, sg_bit _ _ _ _, h⟩)
  | true =>
    refine iteT ⟨_, h1, late, rfl, ?_⟩
    cases late with
    | false =>
      rw [if_neg (by simp)] at h
      exact iteF ⟨_, h0, q, CS, dx, _, _, rfl, hq, T.cl, T.nB, sg_bit _ _ _ _, h⟩
    | true =>
      rw [hf, if_pos (by simp)] at h
      exact iteT ⟨_, h0, q, CS, dx, _, _, rfl, hq, T.cl, T.nW, sg_was _ _ _ _, h⟩
theorem scRead : FnScope ["self", "is_late", "found", "first", "rest", "last"] ["self", "is_late"] (defScope sRead) := ⟨rfl, rfl, rfl, by decide +kernel, rfl, by decide +kernel, by decide +kernel⟩
theorem ok_read {f CS : Addr} {fd : FuncData} (F : Fun K "read" "Signal.read" sRead f fd) (T : Sg K CS) : FnOk P w K mg base CX0 1 f fd ["self", "is_late"] (spRead CS) := by
  refine F.ok scRead (fun vs H Q E h => ?_) (fun cdv A outer s H vs Q E hr h => ?_)
  · obtain ⟨F, q, s, b, rfl, _⟩ := h
    rfl
  · obtain ⟨F, q, g, late, rfl, ⟨s0, q0, dx, l, l0, hq, hl⟩, h1, h2, k⟩ := h
    have nlq : l ≠ q := ne_of hl hq (by intro z; cases z)
    refine ⟨_, pss_cons (ps_set (i := 2) scRead.nd rfl (Or.inl rfl) (pe_ix ix_list (pe_fld (pv 0) rfl) (pe_un un_neg pe_int) (fun _ _ => rfl)))
      (pss_cons (ps_set (i := 3) scRead.nd rfl (Or.inl rfl) (pe_ifExp (PW.pt (pw_and (pt_val (pe_fld (pv 0) rfl)) (pw_and1 (pt_val (pv 1))))) (pe_fld (pv 0) rfl) (pe_fld (pv 0) rfl)))
      (pss_cons (ps_asg (pe_op op_cat (pe_lst (pa_cons (pv 3) pa_nil)) (pe_fld (pv 0) rfl)) (pg_star0 (n := 2) rfl (pgs_star (pg_name (i := 4) scRead.nd rfl (Or.inl rfl)) (pgs_cons (pg_name (i := 5) scRead.nd rfl (Or.inl rfl)) pgs_nil)) (by decide)))
      (pss_cons (ps_fld (pv 0) (pv 4) rfl) (pss_cons (ps_fld (pv 0) pe_bl rfl) (pss_one (ps_ret (pv 2))))))), ?_⟩
    have hlast : atI (g.seen.map V.int) (-1) = some (V.int g.last) := by
      obtain ⟨ys, y, e⟩ : ∃ ys y, g.seen = ys ++ [y] := ⟨g.seen.dropLast, g.seen.getLast (by intro z; rw [z] at h1; exact absurd h1 (by decide)), (List.dropLast_concat_getLast _).symm⟩
      have el : g.last = y := by unfold Sig.last; rw [e]; simp
      rw [e, List.map_append, el]
      exact atI_last _ _
    refine ⟨_, rfl, q, CS, dx, _, _, rfl, hq, T.cl, T.nS, sg_seen _ _ _ _, 1, rfl, l, _, _, _, rfl, rfl, SqL.of hl, hlast, ?_⟩
    refine first_run T hq rfl rfl ?_
    -- the holders go on
    refine ⟨_, rfl, (by show 1 ≤ sizeLine; decide), fun p hp => ?_⟩
    have nqp : q ≠ p := ne_of_none hq hp
    have nlp : l ≠ p := ne_of_none hl hp
    refine ⟨_, rfl, q, CS, dx, _, _, rfl, (by rw [upd_ne nqp]; exact hq), T.cl, T.nS, sg_seen _ _ _ _, p, l, _, _, rfl, rfl, upd_same, (by rw [upd_ne nlp]; exact hl), ?_, fun r hr2 => ?_⟩
    · rw [List.length_map]
      have : (1001 : Nat) ≤ sizeLine := by decide
      show 1 + _ ≤ _
      omega
    have nqr : q ≠ r := ne_of_none (by rw [upd_ne nqp]; exact hq) hr2
    have nlr : l ≠ r := ne_of_none (by rw [upd_ne nlp]; exact hl) hr2
    have npr : p ≠ r := ne_of_none upd_same hr2
    have hr0 : H r = none := by
      rw [upd_ne npr.symm] at hr2
      exact hr2
    have elen : ([V.int (g.first late)] ++ g.seen.map V.int).length = g.seen.length + 1 := by simp
    refine ⟨r, _, rfl, SqL.of upd_same, (by rw [elen]; omega), fun n hn => ?_⟩
    have nqn : q ≠ n := ne_of_none (by rw [upd_ne nqr, upd_ne nqp]; exact hq) hn
    have nln : l ≠ n := ne_of_none (by rw [upd_ne nlr, upd_ne nlp]; exact hl) hn
    have nrn : r ≠ n := ne_of_none upd_same hn
    have npn : p ≠ n := ne_of_none (by rw [upd_ne npr]; exact upd_same) hn
    have hn0 : H n = none := by
      rw [upd_ne nrn.symm, upd_ne npn.symm] at hn
      exact hn
    have cut : ([V.int (g.first late)] ++ g.seen.map V.int).length + 1 - 2 = g.seen.length := by rw [elen]; omega
    rw [cut]
    have es : [V.int (g.first late)] ++ g.seen.map V.int = (g.first late :: g.seen).map V.int := rfl
    have e1 : ([V.int (g.first late)] ++ g.seen.map V.int).take g.seen.length = ((g.first late :: g.seen).dropLast).map V.int := by
      rw [es, ← List.map_take, List.dropLast_eq_take]
      rfl
    obtain ⟨y, e2⟩ : ∃ y, ([V.int (g.first late)] ++ g.seen.map V.int).drop g.seen.length = [y] := by
      rw [es, ← List.map_drop]
      have : ((g.first late :: g.seen).drop g.seen.length).length = 1 := by rw [List.length_drop, List.length_cons]; omega
      match hz : (g.first late :: g.seen).drop g.seen.length, this with
      | [z], _ => exact ⟨_, rfl⟩
    rw [e1, e2]
    refine ⟨_, _, rfl, _, _, rfl, rfl, ?_⟩
    -- what is stored, what is told
    refine ⟨_, rfl, _, rfl, q, CS, dx, _, rfl, (by rw [upd_ne nqn, upd_ne nqr, upd_ne nqp]; exact hq), T.cl, T.nS, (by show 4 < 1000; decide), ?_⟩
    rw [sg_ps]
    refine ⟨_, rfl, q, CS, dx, _, rfl, upd_same, T.cl, T.nF, (by show 4 < 1000; decide), ?_⟩
    rw [sg_pf, upd_upd]
    refine ⟨_, rfl, k _ ⟨?_, q0, dx, n, s0.free hn0, upd_same, ?_⟩⟩
    · exact same_upd (same_upd (same_upd (same_upd s0 (s0.free hp)) (s0.free hr0)) (s0.free hn0)) q0
    · rw [upd_ne nqn.symm, upd_same]
      rfl
end
end Dgw

namespace Dgw
open PySem L2 DgR Dg
/-! ### a shake in the heap -/
def shF (ph : Int) (qa qb : Addr) (w ak td : Int) (ls lg : Addr) : List (Str × V) :=
  [("phases", .int ph), ("ask", .ref qa), ("answer", .ref qb), ("word", .int w), ("asked", .int ak), ("told", .int td), ("sent", .ref ls), ("got", .ref lg)]
section
variable (ph : Int) (qa qb : Addr) (w ak td x : Int) (ls lg : Addr)
theorem sh_ph : (shF ph qa qb w ak td ls lg).lookup ("phases" : Str) = some (.int ph) := by rfl
theorem sh_ask : (shF ph qa qb w ak td ls lg).lookup ("ask" : Str) = some (.ref qa) := by rfl
theorem sh_ans : (shF ph qa qb w ak td ls lg).lookup ("answer" : Str) = some (.ref qb) := by rfl
theorem sh_word : (shF ph qa qb w ak td ls lg).lookup ("word" : Str) = some (.int w) := by rfl
theorem sh_asked : (shF ph qa qb w ak td ls lg).lookup ("asked" : Str) = some (.int ak) := by rfl
theorem sh_told : (shF ph qa qb w ak td ls lg).lookup ("told" : Str) = some (.int td) := by rfl
theorem sh_sent : (shF ph qa qb w ak td ls lg).lookup ("sent" : Str) = some (.ref ls) := by rfl
theorem sh_got : (shF ph qa qb w ak td ls lg).lookup ("got" : Str) = some (.ref lg) := by rfl
theorem sh_pw : putF "word" (.int x) (shF ph qa qb w ak td ls lg) = shF ph qa qb x ak td ls lg := by rfl
theorem sh_pk : putF "asked" (.int x) (shF ph qa qb w ak td ls lg) = shF ph qa qb w x td ls lg := by rfl
theorem sh_pt : putF "told" (.int x) (shF ph qa qb w ak td ls lg) = shF ph qa qb w ak x ls lg := by rfl
theorem sh_new : putF "got" (.ref lg) (putF "sent" (.ref ls) (putF "told" (.int td) (putF "asked" (.int ak) (putF "word" (.int w) (putF "answer" (.ref qb) (putF "ask" (.ref qa) (putF "phases" (.int ph) []))))))) = shF ph qa qb w ak td ls lg := by rfl
theorem sh_m1 : (shF ph qa qb w ak td ls lg).lookup ("is_ready" : Str) = none := by rfl
theorem sh_m2 : (shF ph qa qb w ak td ls lg).lookup ("send" : Str) = none := by rfl
theorem sh_m3 : (shF ph qa qb w ak td ls lg).lookup ("tick_a" : Str) = none := by rfl
theorem sh_m4 : (shF ph qa qb w ak td ls lg).lookup ("tick_b" : Str) = none := by rfl
theorem sh_m5 : (shF ph qa qb w ak td ls lg).lookup ("tick" : Str) = none := by rfl
theorem sh_m6 : (shF ph qa qb w ak td ls lg).lookup ("words_sent" : Str) = none := by rfl
theorem sh_m7 : (shF ph qa qb w ak td ls lg).lookup ("words_got" : Str) = none := by rfl
end
/-- H without a and b -/
def hide (H : Hp) (a b : Addr) : Hp := fun c => if c = a ∨ c = b then none else H c
theorem hide_a {H : Hp} {a b : Addr} : hide H a b a = none := if_pos (.inl rfl)
theorem hide_b {H : Hp} {a b : Addr} : hide H a b b = none := if_pos (.inr rfl)
theorem hide_ne {H : Hp} {a b c : Addr} (h1 : c ≠ a) (h2 : c ≠ b) : hide H a b c = H c := if_neg (fun z => z.elim h1 h2)
theorem hide_same {H : Hp} {a b : Addr} : Same (hide H a b) H := fun c o e => by
  unfold hide at e
  split at e
  · cases e
  · exact e
/-- where the parts of a shake stand -/
structure Pl where
  dx : Addr
  qa : Addr
  da : Addr
  la : Addr
  qb : Addr
  db : Addr
  lb : Addr
  ls : Addr
  lg : Addr
structure ShAt (CS C : Addr) (F H : Hp) (p : Addr) (L : Pl) (S : Sh) : Prop where
  same : Same F H
  fp : F p = none
  fqa : F L.qa = none
  fla : F L.la = none
  fqb : F L.qb = none
  flb : F L.lb = none
  fls : F L.ls = none
  flg : F L.lg = none
  hp : H p = some (.ins C L.dx (shF S.ph L.qa L.qb S.word S.asked S.told L.ls L.lg))
  hqa : H L.qa = some (.ins CS L.da (sgF S.ask.bit S.ask.was S.ask.fresh L.la))
  hla : H L.la = some (.lst (S.ask.seen.map V.int))
  hqb : H L.qb = some (.ins CS L.db (sgF S.ans.bit S.ans.was S.ans.fresh L.lb))
  hlb : H L.lb = some (.lst (S.ans.seen.map V.int))
  hls : H L.ls = some (.lst (S.sent.map V.int))
  hlg : H L.lg = some (.lst (S.got.map V.int))
  nq : L.qa ≠ L.qb
  n1 : L.la ≠ L.lb
  n2 : L.la ≠ L.ls
  n3 : L.la ≠ L.lg
  n4 : L.lb ≠ L.ls
  n5 : L.lb ≠ L.lg
  n6 : L.ls ≠ L.lg
def ShakeAt (CS C : Addr) (F H : Hp) (p : Addr) (S : Sh) : Prop := ∃ L, ShAt CS C F H p L S
section
variable {CS C : Addr} {F H H' F' : Hp} {p : Addr} {L : Pl} {S : Sh}
theorem sh_sg {C CS dx da : Addr} {ph w ak td b u : Int} {qa qb ls lg l : Addr} {f : Bool} : HO.ins C dx (shF ph qa qb w ak td ls lg) ≠ .ins CS da (sgF b u f l) := fun z => by
  injection z with _ _ z
  have q : (8 : Nat) = 4 := congrArg List.length z
  exact absurd q (by decide)
theorem ShAt.pqa (h : ShAt CS C F H p L S) : p ≠ L.qa := ne_of h.hp h.hqa sh_sg
theorem ShAt.pqb (h : ShAt CS C F H p L S) : p ≠ L.qb := ne_of h.hp h.hqb sh_sg
theorem ShAt.pla (h : ShAt CS C F H p L S) : p ≠ L.la := ne_of h.hp h.hla (by intro z; cases z)
theorem ShAt.plb (h : ShAt CS C F H p L S) : p ≠ L.lb := ne_of h.hp h.hlb (by intro z; cases z)
theorem ShAt.pls (h : ShAt CS C F H p L S) : p ≠ L.ls := ne_of h.hp h.hls (by intro z; cases z)
theorem ShAt.plg (h : ShAt CS C F H p L S) : p ≠ L.lg := ne_of h.hp h.hlg (by intro z; cases z)
theorem ShAt.ala (h : ShAt CS C F H p L S) : L.qa ≠ L.la := ne_of h.hqa h.hla (by intro z; cases z)
theorem ShAt.alb (h : ShAt CS C F H p L S) : L.qa ≠ L.lb := ne_of h.hqa h.hlb (by intro z; cases z)
theorem ShAt.als (h : ShAt CS C F H p L S) : L.qa ≠ L.ls := ne_of h.hqa h.hls (by intro z; cases z)
theorem ShAt.alg (h : ShAt CS C F H p L S) : L.qa ≠ L.lg := ne_of h.hqa h.hlg (by intro z; cases z)
theorem ShAt.bla (h : ShAt CS C F H p L S) : L.qb ≠ L.la := ne_of h.hqb h.hla (by intro z; cases z)
theorem ShAt.blb (h : ShAt CS C F H p L S) : L.qb ≠ L.lb := ne_of h.hqb h.hlb (by intro z; cases z)
theorem ShAt.bls (h : ShAt CS C F H p L S) : L.qb ≠ L.ls := ne_of h.hqb h.hls (by intro z; cases z)
theorem ShAt.blg (h : ShAt CS C F H p L S) : L.qb ≠ L.lg := ne_of h.hqb h.hlg (by intro z; cases z)
/-- another heap and frame that agree on the parts -/
theorem ShAt.move (h : ShAt CS C F H p L S) (s : Same F' H') (f : ∀ b o, H b = some o → F b = none → F' b = none ∧ H' b = some o) : ShAt CS C F' H' p L S where
  same := s
  fp := (f _ _ h.hp h.fp).1
  fqa := (f _ _ h.hqa h.fqa).1
  fla := (f _ _ h.hla h.fla).1
  fqb := (f _ _ h.hqb h.fqb).1
  flb := (f _ _ h.hlb h.flb).1
  fls := (f _ _ h.hls h.fls).1
  flg := (f _ _ h.hlg h.flg).1
  hp := (f _ _ h.hp h.fp).2
  hqa := (f _ _ h.hqa h.fqa).2
  hla := (f _ _ h.hla h.fla).2
  hqb := (f _ _ h.hqb h.fqb).2
  hlb := (f _ _ h.hlb h.flb).2
  hls := (f _ _ h.hls h.fls).2
  hlg := (f _ _ h.hlg h.flg).2
  nq := h.nq
  n1 := h.n1
  n2 := h.n2
  n3 := h.n3
  n4 := h.n4
  n5 := h.n5
  n6 := h.n6
theorem ShakeAt.same (h : ShakeAt CS C F H p S) : Same F H := h.elim fun _ q => q.same
/-- more is there -/
theorem ShakeAt.more (h : ShakeAt CS C F H p S) (e : Same H H') : ShakeAt CS C F H' p S := by
  obtain ⟨L, h⟩ := h
  exact ⟨L, h.move (h.same.trans e) fun b o hb fb => ⟨fb, e b o hb⟩⟩
theorem same_new {H : Hp} {t : Addr} {o : HO} (h : H t = none) : Same H (upd H t o) := fun b u e => by
  rw [upd_ne (ne_of_none e h)]
  exact e
/-- a new thing that the frame keeps -/
theorem ShakeAt.lay (h : ShakeAt CS C F H p S) {t : Addr} {o : HO} (n : H t = none) : ShakeAt CS C (upd F t o) (upd H t o) p S := by
  obtain ⟨L, h⟩ := h
  refine ⟨L, h.move (fun b u e => ?_) fun b u hb fb => ?_⟩
  · by_cases z : b = t
    · subst z
      rw [upd_same] at e ⊢
      exact e
    · rw [upd_ne z] at e ⊢
      exact h.same b u e
  · have z : b ≠ t := ne_of_none hb n
    rw [upd_ne z, upd_ne z]
    exact ⟨fb, hb⟩
/-- a thing of the frame is changed -/
theorem ShakeAt.put (h : ShakeAt CS C F H p S) {t : Addr} {o u : HO} (n : F t = some u) : ShakeAt CS C (upd F t o) (upd H t o) p S := by
  obtain ⟨L, h⟩ := h
  refine ⟨L, h.move (fun b v e => ?_) fun b v hb fb => ?_⟩
  · by_cases z : b = t
    · subst z
      rw [upd_same] at e ⊢
      exact e
    · rw [upd_ne z] at e ⊢
      exact h.same b v e
  · have z : b ≠ t := fun q => by
      rw [q, n] at fb
      cases fb
    rw [upd_ne z, upd_ne z]
    exact ⟨fb, hb⟩
/-- a's flag as a signal by itself -/
theorem ShAt.ask (h : ShAt CS C F H p L S) : SigAt CS (hide H L.qa L.la) H L.qa S.ask := ⟨hide_same, hide_a, L.da, L.la, hide_b, h.hqa, h.hla⟩
theorem ShAt.ans (h : ShAt CS C F H p L S) : SigAt CS (hide H L.qb L.lb) H L.qb S.ans := ⟨hide_same, hide_a, L.db, L.lb, hide_b, h.hqb, h.hlb⟩
theorem ShAt.askPut (h : ShAt CS C F H p L S) {s : Sig} (g : SigAt CS (hide H L.qa L.la) H' L.qa s) : ∃ da la, ShAt CS C F H' p { L with da := da, la := la } { S with ask := s } := by
  obtain ⟨s1, _, dx, l, l0, hq, hl⟩ := g
  have kp : ∀ b o, b ≠ L.qa → b ≠ L.la → H b = some o → H' b = some o := fun b o z1 z2 e => s1 b o (by rw [hide_ne z1 z2]; exact e)
  have ap : ∀ b o, b ≠ L.qa → b ≠ L.la → H b = some o → l ≠ b := fun b o z1 z2 e z => by
    rw [z, hide_ne z1 z2, e] at l0
    cases l0
  have fl : F l = none := by
    by_cases z1 : l = L.qa
    · rw [z1]; exact h.fqa
    · by_cases z2 : l = L.la
      · rw [z2]; exact h.fla
      · rw [hide_ne z1 z2] at l0
        exact h.same.free l0
  exact ⟨dx, l, {
    same := fun b o e => kp b o (fun z => by rw [z, h.fqa] at e; cases e) (fun z => by rw [z, h.fla] at e; cases e) (h.same b o e)
    fp := h.fp, fqa := h.fqa, fla := fl, fqb := h.fqb, flb := h.flb, fls := h.fls, flg := h.flg
    hp := kp _ _ h.pqa h.pla h.hp
    hqa := hq, hla := hl
    hqb := kp _ _ h.nq.symm h.bla h.hqb
    hlb := kp _ _ h.alb.symm h.n1.symm h.hlb
    hls := kp _ _ h.als.symm h.n2.symm h.hls
    hlg := kp _ _ h.alg.symm h.n3.symm h.hlg
    nq := h.nq
    n1 := ap _ _ h.alb.symm h.n1.symm h.hlb
    n2 := ap _ _ h.als.symm h.n2.symm h.hls
    n3 := ap _ _ h.alg.symm h.n3.symm h.hlg
    n4 := h.n4, n5 := h.n5, n6 := h.n6 }⟩
theorem ShAt.ansPut (h : ShAt CS C F H p L S) {s : Sig} (g : SigAt CS (hide H L.qb L.lb) H' L.qb s) : ∃ db lb, ShAt CS C F H' p { L with db := db, lb := lb } { S with ans := s } := by
  obtain ⟨s1, _, dx, l, l0, hq, hl⟩ := g
  have kp : ∀ b o, b ≠ L.qb → b ≠ L.lb → H b = some o → H' b = some o := fun b o z1 z2 e => s1 b o (by rw [hide_ne z1 z2]; exact e)
  have ap : ∀ b o, b ≠ L.qb → b ≠ L.lb → H b = some o → l ≠ b := fun b o z1 z2 e z => by
    rw [z, hide_ne z1 z2, e] at l0
    cases l0
  have fl : F l = none := by
    by_cases z1 : l = L.qb
    · rw [z1]; exact h.fqb
    · by_cases z2 : l = L.lb
      · rw [z2]; exact h.flb
      · rw [hide_ne z1 z2] at l0
        exact h.same.free l0
  exact ⟨dx, l, {
    same := fun b o e => kp b o (fun z => by rw [z, h.fqb] at e; cases e) (fun z => by rw [z, h.flb] at e; cases e) (h.same b o e)
    fp := h.fp, fqa := h.fqa, fla := h.fla, fqb := h.fqb, flb := fl, fls := h.fls, flg := h.flg
    hp := kp _ _ h.pqb h.plb h.hp
    hqa := kp _ _ h.nq h.alb h.hqa
    hla := kp _ _ h.bla.symm h.n1 h.hla
    hqb := hq, hlb := hl
    hls := kp _ _ h.bls.symm h.n4.symm h.hls
    hlg := kp _ _ h.blg.symm h.n5.symm h.hlg
    nq := h.nq
    n1 := (ap _ _ h.bla.symm h.n1 h.hla).symm
    n2 := h.n2, n3 := h.n3
    n4 := ap _ _ h.bls.symm h.n4.symm h.hls
    n5 := ap _ _ h.blg.symm h.n5.symm h.hlg
    n6 := h.n6 }⟩
theorem ShAt.self (h : ShAt CS C F H p L S) (w ak td : Int) : ShAt CS C F (upd H p (.ins C L.dx (shF S.ph L.qa L.qb w ak td L.ls L.lg))) p L { S with word := w, asked := ak, told := td } where
  same := same_upd h.same h.fp
  fp := h.fp
  fqa := h.fqa
  fla := h.fla
  fqb := h.fqb
  flb := h.flb
  fls := h.fls
  flg := h.flg
  hp := upd_same
  hqa := by rw [upd_ne h.pqa.symm]; exact h.hqa
  hla := by rw [upd_ne h.pla.symm]; exact h.hla
  hqb := by rw [upd_ne h.pqb.symm]; exact h.hqb
  hlb := by rw [upd_ne h.plb.symm]; exact h.hlb
  hls := by rw [upd_ne h.pls.symm]; exact h.hls
  hlg := by rw [upd_ne h.plg.symm]; exact h.hlg
  nq := h.nq
  n1 := h.n1
  n2 := h.n2
  n3 := h.n3
  n4 := h.n4
  n5 := h.n5
  n6 := h.n6
theorem ShAt.sentPut (h : ShAt CS C F H p L S) (xs : List Int) : ShAt CS C F (upd H L.ls (.lst (xs.map V.int))) p L { S with sent := xs } where
  same := same_upd h.same h.fls
  fp := h.fp
  fqa := h.fqa
  fla := h.fla
  fqb := h.fqb
  flb := h.flb
  fls := h.fls
  flg := h.flg
  hp := by rw [upd_ne h.pls]; exact h.hp
  hqa := by rw [upd_ne h.als]; exact h.hqa
  hla := by rw [upd_ne h.n2]; exact h.hla
  hqb := by rw [upd_ne h.bls]; exact h.hqb
  hlb := by rw [upd_ne h.n4]; exact h.hlb
  hls := upd_same
  hlg := by rw [upd_ne h.n6.symm]; exact h.hlg
  nq := h.nq
  n1 := h.n1
  n2 := h.n2
  n3 := h.n3
  n4 := h.n4
  n5 := h.n5
  n6 := h.n6
theorem ShAt.gotPut (h : ShAt CS C F H p L S) (xs : List Int) : ShAt CS C F (upd H L.lg (.lst (xs.map V.int))) p L { S with got := xs } where
  same := same_upd h.same h.flg
  fp := h.fp
  fqa := h.fqa
  fla := h.fla
  fqb := h.fqb
  flb := h.flb
  fls := h.fls
  flg := h.flg
  hp := by rw [upd_ne h.plg]; exact h.hp
  hqa := by rw [upd_ne h.alg]; exact h.hqa
  hla := by rw [upd_ne h.n3]; exact h.hla
  hqb := by rw [upd_ne h.blg]; exact h.hqb
  hlb := by rw [upd_ne h.n5]; exact h.hlb
  hls := by rw [upd_ne h.n6]; exact h.hls
  hlg := upd_same
  nq := h.nq
  n1 := h.n1
  n2 := h.n2
  n3 := h.n3
  n4 := h.n4
  n5 := h.n5
  n6 := h.n6
end
end Dgw

namespace Dgw
open PySem L2 DgR Dg
/-! ### the promises of Shake's methods -/
/-- the bounds that the lists keep -/
structure Ok (S : Sh) : Prop where
  a1 : 1 ≤ S.ask.seen.length
  a2 : S.ask.seen.length ≤ 1000
  b1 : 1 ≤ S.ans.seen.length
  b2 : S.ans.seen.length ≤ 1000
  s : S.sent.length < 1000
  g : S.got.length < 1000
def spInit (CS C : Addr) : Sp := fun vs H Q _ => ∃ (F : Hp) (p dx : Addr) (d : Nat) (ph : Int), vs = [.ref p, .int (d : Int), .int ph] ∧ Same F H ∧ F p = none ∧ H p = some (.ins C dx []) ∧ 1 ≤ d ∧ d ≤ 9 ∧ (ph = 2 ∨ ph = 4) ∧
  ∀ H', ShakeAt CS C F H' p (Sh.new d ph) → Q .non H'
def spReady (CS C : Addr) : Sp := fun vs H Q _ => ∃ (F : Hp) (p : Addr) (S : Sh), vs = [.ref p] ∧ ShakeAt CS C F H p S ∧ Q (.bl S.ready) H
def spSend (CS C : Addr) : Sp := fun vs H Q _ => ∃ (F : Hp) (p : Addr) (S : Sh) (x : Int), vs = [.ref p, .int x] ∧ ShakeAt CS C F H p S ∧ Ok S ∧ 0 ≤ x ∧ x ≤ 255 ∧ S.ready = true ∧ ∀ H', ShakeAt CS C F H' p (S.send x) → Q .non H'
def spTickA (CS C : Addr) : Sp := fun vs H Q _ => ∃ (F : Hp) (p : Addr) (S : Sh) (late : Bool), vs = [.ref p, .bl late] ∧ ShakeAt CS C F H p S ∧ Ok S ∧ ∀ H', ShakeAt CS C F H' p (S.tickA late) → Q .non H'
def spTickB (CS C : Addr) : Sp := fun vs H Q _ => ∃ (F : Hp) (p : Addr) (S : Sh) (late : Bool), vs = [.ref p, .bl late] ∧ ShakeAt CS C F H p S ∧ Ok S ∧ ∀ H', ShakeAt CS C F H' p (S.tickB late) → Q (.bl S.isNew) H'
/-- what tick tells -/
def told (S : Sh) (b : Bool) : V := if (b && S.isNew) = true then .int S.word else .non
def sd (b : Bool) : Str := if b = true then "b" else "a"
def spTick (CS C : Addr) : Sp := fun vs H Q _ => ∃ (F : Hp) (p : Addr) (S : Sh) (b late : Bool), vs = [.ref p, .str (sd b), .bl late] ∧ ShakeAt CS C F H p S ∧ Ok S ∧ ∀ H', ShakeAt CS C F H' p (S.tick b late) → Q (told S b) H'
def spSent (CS C : Addr) : Sp := fun vs H Q _ => ∃ (F : Hp) (p : Addr) (S : Sh), vs = [.ref p] ∧ ShakeAt CS C F H p S ∧ ∀ l, H l = none → Q (.ref l) (upd H l (.lst (S.sent.map V.int)))
def spGot (CS C : Addr) : Sp := fun vs H Q _ => ∃ (F : Hp) (p : Addr) (S : Sh), vs = [.ref p] ∧ ShakeAt CS C F H p S ∧ ∀ l, H l = none → Q (.ref l) (upd H l (.lst (S.got.map V.int)))
def spLen (CS C : Addr) : Sp := fun vs H Q _ => ∃ (F : Hp) (p : Addr) (S : Sh), vs = [.ref p] ∧ ShakeAt CS C F H p S ∧ Ok S ∧ ∀ l o, H l = none → Q (.int ((S.sent.length - S.got.length : Nat) : Int)) (upd H l o)
/-- the class Shake -/
structure Sk (K : PySem.W.Frag) (C : Addr) : Prop where
  cl : Cls K C
  n1 : NoAttr K C "phases"
  n2 : NoAttr K C "ask"
  n3 : NoAttr K C "answer"
  n4 : NoAttr K C "word"
  n5 : NoAttr K C "asked"
  n6 : NoAttr K C "told"
  n7 : NoAttr K C "sent"
  n8 : NoAttr K C "got"
/-- a def of the module, called by its name -/
structure Cal (P : Program) (w : World) (K : PySem.W.Frag) (mg : Str → Option Value) (base : Heap) (k : Nat) (x : Str) (ps : List Str) (sp : Sp) (f : Addr) (fd : FuncData) : Prop where
  ok : FnOk P w K mg base CX0 k f fd ps sp
  mg : mg x = some (.ref f)
  kp : PySem.W.keepIn K (.ref f) = true
  bd : Binds K fd ps []
/-- a method -/
structure Met (P : Program) (w : World) (K : PySem.W.Frag) (mg : Str → Option Value) (base : Heap) (k : Nat) (C : Addr) (m : Str) (ps : List Str) (sp : Sp) (f : Addr) (fd : FuncData) : Prop where
  ok : FnOk P w K mg base CX0 k f fd ps sp
  mt : Meth K C m f
  bd : Binds K fd ps []
section
variable {P : Program} {w : World} {K : PySem.W.Frag} {mg : Str → Option Value} {base : Heap} {CS C : Addr}
theorem scReady : FnScope ["self"] ["self"] (defScope sReady) := ⟨rfl, rfl, rfl, by decide +kernel, rfl, by decide +kernel, by decide +kernel⟩
theorem ok_ready {f : Addr} {fd : FuncData} (F : Fun K "is_ready" "Shake.is_ready" sReady f fd) (T : Sk K C) (TS : Sg K CS) : FnOk P w K mg base CX0 1 f fd ["self"] (spReady CS C) := by
  refine F.ok scReady (fun vs H Q E h => ?_) (fun cdv A outer s H vs Q E hr h => ?_)
  · obtain ⟨F, p, S, rfl, _⟩ := h
    rfl
  · obtain ⟨F, p, S, rfl, ⟨L, h⟩, k⟩ := h
    refine ⟨_, pss_cons (ps_if (pt_cmpR op_eq (pe_fld (pv 0) rfl) pe_int (nomark _)) (pss_one (ps_ret (pe_cmpR op_eq (pe_fld (pe_fld (pv 0) rfl) rfl) (pe_fld (pv 0) rfl) (nomark _)))) pss_nil)
      (pss_one (ps_ret (pe_and (pe_cmpR op_eq (pe_fld (pe_fld (pv 0) rfl) rfl) pe_int (nomark _)) (pe_one (pe_cmpR op_eq (pe_fld (pv 0) rfl) pe_int (nomark _)))))), ?_⟩
    refine ⟨_, rfl, p, C, L.dx, _, _, rfl, h.hp, T.cl, T.n1, sh_ph _ _ _ _ _ _ _ _, rfl, _, rfl, ?_⟩
    unfold Sh.ready at k
    by_cases hp : S.ph = 2
    · rw [if_pos hp] at k
      rw [show decide (V.int S.ph = V.int 2) = true by simp [hp]]
      refine iteT ⟨_, rfl, p, C, L.dx, _, _, rfl, h.hp, T.cl, T.n2, sh_ask _ _ _ _ _ _ _ _, L.qa, CS, L.da, _, _, rfl, h.hqa, TS.cl, TS.nB, sg_bit _ _ _ _, _, rfl, p, C, L.dx, _, _, rfl, h.hp, T.cl, T.n6, sh_told _ _ _ _ _ _ _ _, rfl, ?_⟩
      rw [show decide (V.int S.ask.bit = V.int S.told) = decide (S.ask.bit = S.told) by rw [dec_int]; exact Bool.beq_eq_decide_eq _ _]
      exact k
    · rw [if_neg hp] at k
      rw [show decide (V.int S.ph = V.int 2) = false by simp [hp]]
      refine iteF ⟨_, rfl, p, C, L.dx, _, _, rfl, h.hp, T.cl, T.n2, sh_ask _ _ _ _ _ _ _ _, L.qa, CS, L.da, _, _, rfl, h.hqa, TS.cl, TS.nB, sg_bit _ _ _ _, rfl, _, rfl, ?_⟩
      rw [show decide (V.int S.ask.bit = V.int 0) = decide (S.ask.bit = 0) by rw [dec_int]; exact Bool.beq_eq_decide_eq _ _]
      cases hb : decide (S.ask.bit = 0) with
      | false =>
        rw [hb] at k
        exact iteF k
      | true =>
        rw [hb] at k
        refine iteT ⟨_, rfl, p, C, L.dx, _, _, rfl, h.hp, T.cl, T.n6, sh_told _ _ _ _ _ _ _ _, rfl, ?_⟩
        rw [show decide (V.int S.told = V.int 0) = decide (S.told = 0) by rw [dec_int]; exact Bool.beq_eq_decide_eq _ _]
        exact k
theorem scSend : FnScope ["self", "word"] ["self", "word"] (defScope sSend) := ⟨rfl, rfl, rfl, by decide +kernel, rfl, by decide +kernel, by decide +kernel⟩
theorem ok_send {f fN fR fT : Addr} {fd fdN fdR fdT : FuncData} {g : List Value → List Value → List Value} (F : Fun K "send" "Shake.send" sSend f fd) (T : Sk K C) (TS : Sg K CS)
    (GN : FnOk P w K mg base CX0 2 fN fdN ["thing", "which", "least", "most"] spNeed) (mN : mg "need_number" = some (.ref fN)) (kN : PySem.W.keepIn K (.ref fN) = true) (bN : KBn K fdN ["thing", "which", "least", "most"] 1 ["which", "most"] g (fun vs zs => vs ++ (zs.take 1 ++ ([V.int 0] ++ zs.drop 1))))
    (MW : ∃ u, mg "MOST_WORD" = some u ∧ RelV (.int 255) u) (R : Met P w K mg base 1 C "is_ready" ["self"] (spReady CS C) fR fdR) (U : Met P w K mg base 1 CS "turn" ["self", "bit"] (spTurn CS) fT fdT) : FnOk P w K mg base CX0 3 f fd ["self", "word"] (spSend CS C) := by
  refine F.ok scSend (fun vs H Q E h => ?_) (fun cdv A outer s H vs Q E hr h => ?_)
  · obtain ⟨F, p, S, x, rfl, _⟩ := h
    rfl
  · obtain ⟨F, p, S, x, rfl, hs, hok, h0, h1, hrd, k⟩ := h
    obtain ⟨u, mW, rW⟩ := MW
    have hr1 : Room 1 _ := hr.mono (by decide)
    refine ⟨_, pss_cons (ps_expr (pe_callN GN hr (by rfl) mN kN bN pass0 (pa_cons (pv 1) pa_nil) (pk_cons pe_str (pk_cons (pe_glob (by rfl) mW rW) pk_nil))))
      (pss_cons (ps_if (pt_not (pt_val (pe_meth0 (pv 0) T.cl R.mt R.ok hr1 R.bd .nil pass0))) pss_never pss_nil)
      (pss_cons (ps_fld (pv 0) (pv 1) rfl)
      (pss_cons (ps_expr (pe_bm PySem.F.plainAttrs_list PySem.F.slot_list_append PySem.F.type_list_append mt_append (pe_fld (pv 0) rfl) (pa_cons (pv 1) pa_nil)))
      (pss_one (ps_expr (pe_meth (pe_fld (pv 0) rfl) TS.cl U.mt U.ok hr1 U.bd .nil pass0 (pa_cons (pe_op op_sub pe_int (pe_fld (pe_fld (pv 0) rfl) rfl)) pa_nil))))))), ?_⟩
    refine ⟨_, rfl, rfl, rfl, x, 0, 255, "word", rfl, h0, h1, ?_⟩
    obtain ⟨L, h⟩ := id hs
    refine ⟨_, rfl, p, L.dx, _, rfl, h.hp, sh_m1 _ _ _ _ _ _ _ _, F, p, S, rfl, hs, S.ready, rfl, ?_⟩
    rw [hrd]
    refine iteF ?_
    refine ⟨_, rfl, _, rfl, p, C, L.dx, _, rfl, h.hp, T.cl, T.n4, (by show 8 < 1000; decide), ?_⟩
    rw [sh_pw]
    have a1 := h.self x S.asked S.told
    refine ⟨_, rfl, p, C, L.dx, _, _, rfl, upd_same, T.cl, T.n7, sh_sent _ _ _ _ _ _ _ _, .inl ⟨rfl, _, SqL.of a1.hls⟩, _, rfl, L.ls, _, _, rfl, rfl, a1.hls, ?_, ?_⟩
    · rw [List.length_map]
      exact Nat.lt_trans hok.s (by decide)
    have a2 := a1.sentPut (S.sent ++ [x])
    rw [show (S.sent ++ [x]).map V.int = S.sent.map V.int ++ [V.int x] by rw [List.map_append]; rfl] at a2
    refine ⟨_, rfl, p, C, L.dx, _, _, rfl, a2.hp, T.cl, T.n2, sh_ask _ _ _ _ _ _ _ _, L.qa, L.da, _, rfl, a2.hqa, sg_turn _ _ _ _, _, rfl, p, C, L.dx, _, _, rfl, a2.hp, T.cl, T.n2, sh_ask _ _ _ _ _ _ _ _, L.qa, CS, L.da, _, _, rfl, a2.hqa, TS.cl, TS.nB, sg_bit _ _ _ _, _, _, rfl, rfl, ?_⟩
    refine ⟨_, L.qa, S.ask, 1 - S.ask.bit, rfl, a2.ask, fun H' g => ?_⟩
    obtain ⟨da, la, a3⟩ := a2.askPut g
    exact k _ ⟨_, a3⟩
end
end Dgw

namespace Dgw
open PySem L2 DgR Dg
theorem dI {i j : Int} : decide (V.int i = V.int j) = decide (i = j) := by rw [dec_int]; exact Bool.beq_eq_decide_eq _ _
section
variable {P : Program} {w : World} {K : PySem.W.Frag} {mg : Str → Option Value} {base : Heap} {CS C : Addr}
theorem scTickA : FnScope ["self", "is_late"] ["self", "is_late"] (defScope sTickA) := ⟨rfl, rfl, rfl, by decide +kernel, rfl, by decide +kernel, by decide +kernel⟩
theorem ok_tickA {f fR fT : Addr} {fd fdR fdT : FuncData} (F : Fun K "tick_a" "Shake.tick_a" sTickA f fd) (T : Sk K C) (TS : Sg K CS)
    (R : Met P w K mg base 1 CS "read" ["self", "is_late"] (spRead CS) fR fdR) (U : Met P w K mg base 1 CS "turn" ["self", "bit"] (spTurn CS) fT fdT) : FnOk P w K mg base CX0 2 f fd ["self", "is_late"] (spTickA CS C) := by
  refine F.ok scTickA (fun vs H Q E h => ?_) (fun cdv A outer s H vs Q E hr h => ?_)
  · obtain ⟨F, p, S, x, rfl, _⟩ := h
    rfl
  · obtain ⟨F, p, S, late, rfl, ⟨L, h⟩, hok, k⟩ := h
    refine ⟨_, pss_cons (ps_fld (pv 0) (pe_meth (pe_fld (pv 0) rfl) TS.cl R.mt R.ok hr R.bd .nil pass0 (pa_cons (pv 1) pa_nil)) rfl)
      (pss_one (ps_if (PW.pt (pw_and (pt_cmpR op_eq (pe_fld (pv 0) rfl) pe_int (nomark _)) (pw_and (pt_cmpR op_eq (pe_fld (pe_fld (pv 0) rfl) rfl) pe_int (nomark _)) (pw_and1 (pt_cmpR op_eq (pe_fld (pv 0) rfl) pe_int (nomark _))))))
        (pss_one (ps_expr (pe_meth (pe_fld (pv 0) rfl) TS.cl U.mt U.ok hr U.bd .nil pass0 (pa_cons pe_int pa_nil)))) pss_nil)), ?_⟩
    refine ⟨_, rfl, p, C, L.dx, _, _, rfl, h.hp, T.cl, T.n3, sh_ans _ _ _ _ _ _ _ _, L.qb, L.db, _, rfl, h.hqb, sg_read _ _ _ _, _, rfl, _, L.qb, S.ans, late, rfl, h.ans, hok.b1, hok.b2, fun H1 g => ?_⟩
    obtain ⟨db, lb, a1⟩ := h.ansPut g
    refine ⟨_, rfl, p, C, L.dx, _, rfl, a1.hp, T.cl, T.n6, (by show 8 < 1000; decide), ?_⟩
    rw [sh_pt]
    have a2 := a1.self S.word S.asked S.ans.last
    unfold Sh.tickA at k
    -- the test
    refine ⟨_, rfl, p, C, L.dx, _, _, rfl, a2.hp, T.cl, T.n1, sh_ph _ _ _ _ _ _ _ _, rfl, _, rfl, ?_⟩
    rw [dI]
    by_cases h4 : S.ph = 4
    · rw [show decide (S.ph = 4) = true from decide_eq_true h4]
      refine iteT ⟨_, rfl, p, C, L.dx, _, _, rfl, a2.hp, T.cl, T.n2, sh_ask _ _ _ _ _ _ _ _, L.qa, CS, L.da, _, _, rfl, a2.hqa, TS.cl, TS.nB, sg_bit _ _ _ _, rfl, _, rfl, ?_⟩
      rw [dI]
      by_cases hb : S.ask.bit = 1
      · rw [show decide (S.ask.bit = 1) = true from decide_eq_true hb]
        refine iteT ⟨_, rfl, p, C, L.dx, _, _, rfl, a2.hp, T.cl, T.n6, sh_told _ _ _ _ _ _ _ _, rfl, _, rfl, ?_⟩
        rw [dI]
        by_cases ht : S.ans.last = 1
        · rw [show decide (S.ans.last = 1) = true from decide_eq_true ht]
          rw [if_pos ⟨h4, hb, ht⟩] at k
          refine iteT ⟨_, rfl, p, C, L.dx, _, _, rfl, a2.hp, T.cl, T.n2, sh_ask _ _ _ _ _ _ _ _, L.qa, L.da, _, rfl, a2.hqa, sg_turn _ _ _ _, _, L.qa, S.ask, 0, rfl, a2.ask, fun H2 g2 => ?_⟩
          obtain ⟨da, la, a3⟩ := a2.askPut g2
          exact k _ ⟨_, a3⟩
        · rw [show decide (S.ans.last = 1) = false from decide_eq_false ht]
          rw [if_neg (fun z => ht z.2.2)] at k
          exact iteF (k _ ⟨_, a2⟩)
      · rw [show decide (S.ask.bit = 1) = false from decide_eq_false hb]
        rw [if_neg (fun z => hb z.2.1)] at k
        exact iteF (iteF (k _ ⟨_, a2⟩))
    · rw [show decide (S.ph = 4) = false from decide_eq_false h4]
      rw [if_neg (fun z => h4 z.1)] at k
      exact iteF (iteF (k _ ⟨_, a2⟩))
theorem scTickB : FnScope ["self", "is_late", "seen", "is_new"] ["self", "is_late"] (defScope sTickB) := ⟨rfl, rfl, rfl, by decide +kernel, rfl, by decide +kernel, by decide +kernel⟩
theorem new_run {H : Hp} {p dx qa qb ls lg : Addr} {ph w' ak td seen : Int} {σ : St} {Q : VK} (T : Sk K C) (hp : H p = some (.ins C dx (shF ph qa qb w' ak td ls lg))) (h0 : σ[0]? = some (some (V.ref p))) (h2 : σ[2]? = some (some (V.int seen)))
    (h : Q (.bl (if ph = 2 then (!decide (seen = ak)) else (decide (seen = 1) && decide (ak = 0)))) H) :
    tIf (tTest (tOp rEq (tFld K (tVar 0) "phases") (tC (.int 2)))) (tOp rNe (tVar 2) (tFld K (tVar 0) "asked")) (tAndV (tOp rEq (tVar 2) (tC (.int 1))) (tOp rEq (tFld K (tVar 0) "asked") (tC (.int 0)))) σ H Q := by
  refine ⟨_, h0, p, C, dx, _, _, rfl, hp, T.cl, T.n1, sh_ph _ _ _ _ _ _ _ _, rfl, _, rfl, ?_⟩
  rw [dI]
  by_cases h2' : ph = 2
  · rw [if_pos h2'] at h
    rw [show decide (ph = 2) = true from decide_eq_true h2']
    refine iteT ⟨_, h2, _, h0, p, C, dx, _, _, rfl, hp, T.cl, T.n5, sh_asked _ _ _ _ _ _ _ _, rfl, ?_⟩
    rw [dI]
    exact h
  · rw [if_neg h2'] at h
    rw [show decide (ph = 2) = false from decide_eq_false h2']
    refine iteF ⟨_, h2, rfl, _, rfl, ?_⟩
    rw [dI]
    cases hb : decide (seen = 1) with
    | false =>
      rw [hb] at h
      exact iteF h
    | true =>
      rw [hb] at h
      refine iteT ⟨_, h0, p, C, dx, _, _, rfl, hp, T.cl, T.n5, sh_asked _ _ _ _ _ _ _ _, rfl, ?_⟩
      rw [dI]
      exact h
theorem ok_tickB {f fR fT : Addr} {fd fdR fdT : FuncData} (F : Fun K "tick_b" "Shake.tick_b" sTickB f fd) (T : Sk K C) (TS : Sg K CS)
    (R : Met P w K mg base 1 CS "read" ["self", "is_late"] (spRead CS) fR fdR) (U : Met P w K mg base 1 CS "turn" ["self", "bit"] (spTurn CS) fT fdT) : FnOk P w K mg base CX0 2 f fd ["self", "is_late"] (spTickB CS C) := by
  refine F.ok scTickB (fun vs H Q E h => ?_) (fun cdv A outer s H vs Q E hr h => ?_)
  · obtain ⟨F, p, S, x, rfl, _⟩ := h
    rfl
  · obtain ⟨F, p, S, late, rfl, ⟨L, h⟩, hok, k⟩ := h
    refine ⟨_, pss_cons (ps_set (i := 2) scTickB.nd rfl (Or.inl rfl) (pe_meth (pe_fld (pv 0) rfl) TS.cl R.mt R.ok hr R.bd .nil pass0 (pa_cons (pv 1) pa_nil)))
      (pss_cons (ps_set (i := 3) scTickB.nd rfl (Or.inl rfl) (pe_ifExp (pt_cmpR op_eq (pe_fld (pv 0) rfl) pe_int (nomark _)) (pe_cmpR op_ne (pv 2) (pe_fld (pv 0) rfl) (nomark _))
        (pe_and (pe_cmpR op_eq (pv 2) pe_int (nomark _)) (pe_one (pe_cmpR op_eq (pe_fld (pv 0) rfl) pe_int (nomark _))))))
      (pss_cons (ps_fld (pv 0) (pv 2) rfl)
      (pss_cons (ps_if (pt_val (pv 3)) (pss_one (ps_expr (pe_bm PySem.F.plainAttrs_list PySem.F.slot_list_append PySem.F.type_list_append mt_append (pe_fld (pv 0) rfl) (pa_cons (pe_fld (pv 0) rfl) pa_nil)))) pss_nil)
      (pss_cons (ps_expr (pe_meth (pe_fld (pv 0) rfl) TS.cl U.mt U.ok hr U.bd .nil pass0 (pa_cons (pv 2) pa_nil)))
      (pss_one (ps_ret (pv 3))))))), ?_⟩
    refine ⟨_, rfl, p, C, L.dx, _, _, rfl, h.hp, T.cl, T.n2, sh_ask _ _ _ _ _ _ _ _, L.qa, L.da, _, rfl, h.hqa, sg_read _ _ _ _, _, rfl, _, L.qa, S.ask, late, rfl, h.ask, hok.a1, hok.a2, fun H1 g => ?_⟩
    obtain ⟨da, la, a1⟩ := h.askPut g
    refine new_run T a1.hp rfl rfl ?_
    refine ⟨_, rfl, _, rfl, p, C, L.dx, _, rfl, a1.hp, T.cl, T.n5, (by show 8 < 1000; decide), ?_⟩
    rw [sh_pk]
    have a2 := a1.self S.word S.ask.last S.told
    have en : (if S.ph = 2 then (!decide (S.ask.last = S.asked)) else (decide (S.ask.last = 1) && decide (S.asked = 0))) = S.isNew := rfl
    refine ⟨_, rfl, S.isNew, congrArg V.bl en, ?_⟩
    have fin : ∀ (G : Hp) (xs : List Int), ShAt CS C F G p { L with da := da, la := la } { S with ask := S.ask.read late, asked := S.ask.last, got := xs } → (if S.isNew = true then S.got ++ [S.word] else S.got) = xs →
        (tSeq (tDrop (tMeth CS "turn" (spTurn CS) [] E0 (tFld K (tVar 0) "answer") (tCons (tVar 2) tNil))) (tRet (tVar 3))) { nx := fun _ H' => Q .non H', rt := Q }
          [some (V.ref p), some (V.bl late), some (V.int S.ask.last), some (V.bl S.isNew)] G := by
      intro G xs a3 ex
      refine ⟨_, rfl, p, C, L.dx, _, _, rfl, a3.hp, T.cl, T.n3, sh_ans _ _ _ _ _ _ _ _, L.qb, L.db, _, rfl, a3.hqb, sg_turn _ _ _ _, _, rfl, _, L.qb, S.ans, S.ask.last, rfl, a3.ans, fun H2 g2 => ?_⟩
      obtain ⟨db, lb, a4⟩ := a3.ansPut g2
      refine ⟨_, rfl, k _ ?_⟩
      unfold Sh.tickB
      rw [ex]
      exact ⟨_, a4⟩
    refine ite2 (fun hn => ?_) (fun hn => ?_)
    · refine ⟨_, rfl, p, C, L.dx, _, _, rfl, a2.hp, T.cl, T.n8, sh_got _ _ _ _ _ _ _ _, .inl ⟨rfl, _, SqL.of a2.hlg⟩, _, rfl, p, C, L.dx, _, _, rfl, a2.hp, T.cl, T.n4, sh_word _ _ _ _ _ _ _ _, L.lg, _, _, rfl, rfl, a2.hlg, ?_, ?_⟩
      · rw [List.length_map]
        exact Nat.lt_trans hok.g (by decide)
      have a3 := a2.gotPut (S.got ++ [S.word])
      rw [show (S.got ++ [S.word]).map V.int = S.got.map V.int ++ [V.int S.word] by rw [List.map_append]; rfl] at a3
      exact fin _ _ a3 (if_pos hn)
    · exact fin _ S.got a2 (if_neg hn)
end
end Dgw

namespace Dgw
open PySem L2 DgR Dg
def kwTick : List (Str × V) := [("late", .bl false)]
def kwInit : List (Str × V) := [("steps", .int 2), ("phases", .int 2)]
/-- SIDES of the module -/
def Sides (K : PySem.W.Frag) (mg : Str → Option Value) : Prop := ∃ a, mg "SIDES" = some (.ref a) ∧ ∀ H : Hp, SqT K H a [V.str "a", V.str "b"]
section
variable {P : Program} {w : World} {K : PySem.W.Frag} {mg : Str → Option Value} {base : Heap} {CS C : Addr}
theorem scTick : FnScope ["self", "side", "late"] ["self", "side", "late"] (defScope sTick) := ⟨rfl, rfl, rfl, by decide +kernel, rfl, by decide +kernel, by decide +kernel⟩
theorem sd_a : decide (V.str (sd false) = V.str "a") = true := by decide +kernel
theorem sd_b : decide (V.str (sd true) = V.str "a") = false := by decide +kernel
theorem sd_in (b : Bool) : (if true = true then !inV (V.str (sd b)) [V.str "a", V.str "b"] else inV (V.str (sd b)) [V.str "a", V.str "b"]) = false := by cases b <;> decide +kernel
theorem ok_tick {f fA fB : Addr} {fd fdA fdB : FuncData} (F : FunD K "tick" "Shake.tick" (defArgs sTick) (defBody sTick) (defScope sTick) [] kwTick f fd) (T : Sk K C) (B : Bl mg) (Z : Sides K mg)
    (TA : Met P w K mg base 2 C "tick_a" ["self", "is_late"] (spTickA CS C) fA fdA) (TB : Met P w K mg base 2 C "tick_b" ["self", "is_late"] (spTickB CS C) fB fdB) : FnOk P w K mg base CX0 3 f fd ["self", "side", "late"] (spTick CS C) := by
  refine F.ok (CX := CX0) scTick (fun vs H Q E h => ?_) (fun cdv A outer s H vs Q E hr h => ?_)
  · obtain ⟨F, p, S, b, x, rfl, _⟩ := h
    rfl
  · obtain ⟨F, p, S, b, late, rfl, hs, hok, k⟩ := h
    obtain ⟨za, zm, zq⟩ := Z
    obtain ⟨L, h⟩ := id hs
    refine ⟨_, PSs.nox (pss_cons (ps_if (PW.pt (pw_or (pt_not (pt_val (pe_callB call_isi (by rfl) B.isi b_isi (pa_cons (pv 1) (pa_cons (pe_bltn (v := .ty "str") (by rfl) B.str b_str rfl) pa_nil)))))
        (pw_or (pt_cmpR op_notIn_seq (pv 1) (pe_glob (v := .ref za) (by rfl) zm rfl) (by rfl))
          (pw_or1 (pt_not (pt_val (pe_callB call_isi (by rfl) B.isi b_isi (pa_cons (pv 2) (pa_cons (pe_bltn (v := .ty "bool") (by rfl) B.bool b_bool rfl) pa_nil))))))))) pss_never pss_nil)
      (pss_cons (ps_if (pt_cmpR op_eq (pv 1) pe_str (nomark _)) (pss_cons (ps_expr (pe_meth (pv 0) T.cl TA.mt TA.ok hr TA.bd .nil pass0 (pa_cons (pv 2) pa_nil))) (pss_one (ps_ret pe_non))) pss_nil)
      (pss_one (ps_ret (pe_ifExp (pt_val (pe_meth (pv 0) T.cl TB.mt TB.ok hr TB.bd .nil pass0 (pa_cons (pv 2) pa_nil))) (pe_ix ix_list (pe_fld (pv 0) rfl) (pe_un un_neg pe_int) (fun _ _ => rfl)) pe_non))))), ?_⟩
    refine ⟨_, rfl, _, _, .type "str", .type "str", true, rfl, .ty _, .base (.str _), kb "str" "str" true, true, rfl, iteF ?_⟩
    refine ⟨_, rfl, za, _, rfl, .inr (zq _), rfl, rfl, _, rfl, ?_⟩
    rw [sd_in]
    refine iteF ⟨_, rfl, _, _, .type "bool", .type "bool", true, rfl, .ty _, .base (.bl _), kb "bool" "bool" true, true, rfl, iteF ?_⟩
    refine ⟨_, rfl, rfl, _, rfl, ?_⟩
    cases b with
    | false =>
      rw [sd_a]
      refine iteT ⟨_, rfl, p, L.dx, _, rfl, h.hp, sh_m3 _ _ _ _ _ _ _ _, _, rfl, F, p, S, late, rfl, hs, hok, fun H' q => ?_⟩
      exact k _ q
    | true =>
      rw [sd_b]
      refine iteF ⟨_, rfl, p, L.dx, _, rfl, h.hp, sh_m4 _ _ _ _ _ _ _ _, _, rfl, F, p, S, late, rfl, hs, hok, fun H' q => ?_⟩
      have k' := k _ q
      refine ⟨_, rfl, ite2 (fun hn => ?_) (fun hn => ?_)⟩
      · obtain ⟨L2, a⟩ := q
        have et : told S true = V.int S.word := if_pos (by rw [hn]; rfl)
        rw [et] at k'
        have eg : (S.tickB late).got = S.got ++ [S.word] := if_pos hn
        refine ⟨_, rfl, p, C, L2.dx, _, _, rfl, a.hp, T.cl, T.n8, sh_got _ _ _ _ _ _ _ _, 1, rfl, L2.lg, _, _, _, rfl, rfl, SqL.of a.hlg, ?_, k'⟩
        rw [eg, List.map_append]
        exact atI_last _ _
      · have et : told S true = V.non := if_neg (fun z => hn z)
        rw [et] at k'
        exact k'
theorem scSent : FnScope ["self"] ["self"] (defScope sSent) := ⟨rfl, rfl, rfl, by decide +kernel, rfl, by decide +kernel, by decide +kernel⟩
theorem ok_sent {f : Addr} {fd : FuncData} (F : Fun K "words_sent" "Shake.words_sent" sSent f fd) (T : Sk K C) (B : Bl mg) : FnOk P w K mg base CX0 1 f fd ["self"] (spSent CS C) := by
  refine F.ok scSent (fun vs H Q E h => ?_) (fun cdv A outer s H vs Q E hr h => ?_)
  · obtain ⟨F, p, S, rfl, _⟩ := h
    rfl
  · obtain ⟨F, p, S, rfl, ⟨L, h⟩, k⟩ := h
    refine ⟨_, pss_one (ps_ret (pe_callTy call_list_of (by rfl) B.list b_list (pa_cons (pe_fld (pv 0) rfl) pa_nil))), ?_⟩
    exact ⟨_, rfl, p, C, L.dx, _, _, rfl, h.hp, T.cl, T.n7, sh_sent _ _ _ _ _ _ _ _, L.ls, _, rfl, .inl (SqL.of h.hls), fun l hl => k l hl⟩
theorem scGot : FnScope ["self"] ["self"] (defScope sGot) := ⟨rfl, rfl, rfl, by decide +kernel, rfl, by decide +kernel, by decide +kernel⟩
theorem ok_got {f : Addr} {fd : FuncData} (F : Fun K "words_got" "Shake.words_got" sGot f fd) (T : Sk K C) (B : Bl mg) : FnOk P w K mg base CX0 1 f fd ["self"] (spGot CS C) := by
  refine F.ok scGot (fun vs H Q E h => ?_) (fun cdv A outer s H vs Q E hr h => ?_)
  · obtain ⟨F, p, S, rfl, _⟩ := h
    rfl
  · obtain ⟨F, p, S, rfl, ⟨L, h⟩, k⟩ := h
    refine ⟨_, pss_one (ps_ret (pe_callTy call_list_of (by rfl) B.list b_list (pa_cons (pe_fld (pv 0) rfl) pa_nil))), ?_⟩
    exact ⟨_, rfl, p, C, L.dx, _, _, rfl, h.hp, T.cl, T.n8, sh_got _ _ _ _ _ _ _ _, L.lg, _, rfl, .inl (SqL.of h.hlg), fun l hl => k l hl⟩
theorem scLen : FnScope ["self"] ["self"] (defScope sLen) := ⟨rfl, rfl, rfl, by decide +kernel, rfl, by decide +kernel, by decide +kernel⟩
theorem ok_len {f : Addr} {fd : FuncData} (F : Fun K "__len__" "Shake.__len__" sLen f fd) (T : Sk K C) (B : Bl mg) : FnOk P w K mg base CX0 1 f fd ["self"] (spLen CS C) := by
  refine F.ok scLen (fun vs H Q E h => ?_) (fun cdv A outer s H vs Q E hr h => ?_)
  · obtain ⟨F, p, S, rfl, _⟩ := h
    rfl
  · obtain ⟨F, p, S, rfl, ⟨L, h⟩, hok, k⟩ := h
    refine ⟨_, pss_one (ps_ret (pe_callB call_len_seq (by rfl) B.len b_len (pa_cons (pe_slice sl_list (pe_fld (pv 0) rfl) (po_some (pe_callB call_len_seq (by rfl) B.len b_len (pa_cons (pe_fld (pv 0) rfl) pa_nil))) po_none) pa_nil))), ?_⟩
    refine ⟨_, rfl, p, C, L.dx, _, _, rfl, h.hp, T.cl, T.n7, sh_sent _ _ _ _ _ _ _ _, _, rfl, p, C, L.dx, _, _, rfl, h.hp, T.cl, T.n8, sh_got _ _ _ _ _ _ _ _, L.lg, _, rfl, .inl (SqL.of h.hlg), _, rfl, L.ls, _, rfl, SqL.of h.hls, fun l hl => ?_⟩
    refine ⟨l, _, rfl, .inl (SqL.of upd_same), ?_⟩
    have e : (cutV (S.sent.map V.int) (some ((S.got.map V.int).length : Int)) none).length = S.sent.length - S.got.length := by
      unfold cutV
      rw [HT.sIx_nat, HT.sIx_none, List.length_take, List.length_drop, List.length_map, List.length_map]
      omega
    rw [e]
    exact k l _ hl
theorem scInit : FnScope ["self", "steps", "phases"] ["self", "steps", "phases"] (defScope sInit) := ⟨rfl, rfl, rfl, by decide +kernel, rfl, by decide +kernel, by decide +kernel⟩
theorem ok_init {f fN fI fG : Addr} {fd fdN fdI fdG : FuncData} {g : List Value → List Value → List Value} (F : FunD K "__init__" "Shake.__init__" (defArgs sInit) (defBody sInit) (defScope sInit) [] kwInit f fd) (T : Sk K C)
    (GN : FnOk P w K mg base CX0 2 fN fdN ["thing", "which", "least", "most"] spNeed) (mN : mg "need_number" = some (.ref fN)) (kN : PySem.W.keepIn K (.ref fN) = true) (bN : KBn K fdN ["thing", "which", "least", "most"] 1 ["which", "least", "most"] g (fun vs zs => vs ++ zs))
    (I : Cal P w K mg base 1 "is_number" ["thing", "least", "most"] spIsN fI fdI) (MS : Mk K CS fG) (mS : mg "Signal" = some (.ref CS)) (GS : FnOk P w K mg base CX0 1 fG fdG ["self", "steps"] (spSgInit CS)) (bS : Binds K fdG ["self", "steps"] []) :
    FnOk P w K mg base CX0 3 f fd ["self", "steps", "phases"] (spInit CS C) := by
  refine F.ok (CX := CX0) scInit (fun vs H Q E h => ?_) (fun cdv A outer s H vs Q E hr h => ?_)
  · obtain ⟨F, p, dx, d, ph, rfl, _⟩ := h
    rfl
  · obtain ⟨F, p, dx, d, ph, rfl, s0, p0, hp, hd1, hd9, hph, k⟩ := h
    have hr1 : Room 1 _ := hr.mono (by decide)
    refine ⟨_, PSs.nox (pss_cons (ps_expr (pe_callN GN hr (by rfl) mN kN bN pass0 (pa_cons (pv 1) pa_nil) (pk_cons pe_str (pk_cons pe_int (pk_cons pe_int pk_nil)))))
      (pss_cons (ps_if (PW.pt (pw_or (pt_not (pt_val (pe_call I.ok hr1 (by rfl) I.mg I.kp I.bd .nil pass0 (pa_cons (pv 2) (pa_cons pe_int (pa_cons pe_int pa_nil)))))) (pw_or1 (pt_cmpR op_eq (pv 2) pe_int (nomark _))))) pss_never pss_nil)
      (pss_cons (ps_fld (pv 0) (pv 2) rfl)
      (pss_cons (ps_fld (pv 0) (pe_make MS GS hr (by rfl) mS bS .nil pass0 (pa_cons (pv 1) pa_nil)) rfl)
      (pss_cons (ps_fld (pv 0) (pe_make MS GS hr (by rfl) mS bS .nil pass0 (pa_cons (pv 1) pa_nil)) rfl)
      (pss_cons (ps_fld (pv 0) pe_int rfl) (pss_cons (ps_fld (pv 0) pe_int rfl) (pss_cons (ps_fld (pv 0) pe_int rfl)
      (pss_cons (ps_fld (pv 0) (pe_lst pa_nil) rfl) (pss_one (ps_fld (pv 0) (pe_lst pa_nil) rfl))))))))))), ?_⟩
    refine ⟨_, rfl, rfl, rfl, d, 1, 9, "steps", rfl, by omega, by omega, ?_⟩
    refine ⟨_, rfl, ph, 2, 4, rfl, by omega, by omega, true, rfl, iteF ⟨_, rfl, rfl, _, rfl, ?_⟩⟩
    rw [show decide (V.int ph = V.int 3) = false by rw [dI]; exact decide_eq_false (by omega)]
    refine iteF ⟨_, rfl, _, rfl, p, C, dx, _, rfl, hp, T.cl, T.n1, (by show 0 < 1000; decide), ?_⟩
    generalize hH1 : upd H p (HO.ins C dx (putF "phases" (V.int ph) [])) = H1
    have q1 : H1 p = some (HO.ins C dx (putF "phases" (V.int ph) [])) := by rw [← hH1]; exact upd_same
    have s1 : Same F H1 := by rw [← hH1]; exact same_upd s0 p0
    -- the first flag
    refine ⟨_, rfl, fun qa xa na nxa nea => ⟨H1, qa, xa, d, rfl, (same_new nxa).trans (same_new (by rw [upd_ne nea.symm]; exact na)), na, upd_same, by omega, fun H2 g2 => ⟨rfl, ?_⟩⟩⟩
    obtain ⟨e2, _, da, la, fla, hqa, hla⟩ := g2
    have q2 := e2 _ _ q1
    refine ⟨_, rfl, p, C, dx, _, rfl, q2, T.cl, T.n2, (by show 1 < 1000; decide), ?_⟩
    generalize hH3 : upd H2 p (HO.ins C dx (putF "ask" (V.ref qa) (putF "phases" (V.int ph) []))) = H3
    have q3 : H3 p = some (HO.ins C dx (putF "ask" (V.ref qa) (putF "phases" (V.int ph) []))) := by rw [← hH3]; exact upd_same
    have s3 : Same F H3 := by rw [← hH3]; exact same_upd (s1.trans e2) p0
    have npqa : qa ≠ p := fun z => by
      rw [z, q1] at na
      cases na
    have npla : la ≠ p := fun z => by
      rw [z, q1] at fla
      cases fla
    have hqa3 : H3 qa = some (HO.ins CS da (sgF 0 0 false la)) := by rw [← hH3, upd_ne npqa]; exact hqa
    have hla3 : H3 la = some (HO.lst ((List.replicate d (0 : Int)).map V.int)) := by rw [← hH3, upd_ne npla]; exact hla
    -- the second flag
    refine ⟨_, rfl, fun qb xb nb nxb neb => ⟨H3, qb, xb, d, rfl, (same_new nxb).trans (same_new (by rw [upd_ne neb.symm]; exact nb)), nb, upd_same, by omega, fun H4 g4 => ⟨rfl, ?_⟩⟩⟩
    obtain ⟨e4, _, db, lb, flb, hqb, hlb⟩ := g4
    have q4 := e4 _ _ q3
    have hqa4 := e4 _ _ hqa3
    have hla4 := e4 _ _ hla3
    refine ⟨_, rfl, p, C, dx, _, rfl, q4, T.cl, T.n3, (by show 2 < 1000; decide), ?_⟩
    refine ⟨_, rfl, p, C, dx, _, rfl, upd_same, T.cl, T.n4, (by show 3 < 1000; decide), ?_⟩
    refine ⟨_, rfl, p, C, dx, _, rfl, upd_same, T.cl, T.n5, (by show 4 < 1000; decide), ?_⟩
    refine ⟨_, rfl, p, C, dx, _, rfl, upd_same, T.cl, T.n6, (by show 5 < 1000; decide), ?_⟩
    rw [upd_upd, upd_upd, upd_upd]
    generalize hfs : putF "told" (V.int 0) (putF "asked" (V.int 0) (putF "word" (V.int 0) (putF "answer" (V.ref qb) (putF "ask" (V.ref qa) (putF "phases" (V.int ph) []))))) = fs
    have npqb : qb ≠ p := fun z => by
      rw [z, q3] at nb
      cases nb
    have nplb : lb ≠ p := fun z => by
      rw [z, q3] at flb
      cases flb
    generalize hH5 : upd H4 p (HO.ins C dx fs) = H5
    have q5 : H5 p = some (HO.ins C dx fs) := by rw [← hH5]; exact upd_same
    have s5 : Same F H5 := by rw [← hH5]; exact same_upd (s3.trans e4) p0
    have hqa5 : H5 qa = some (HO.ins CS da (sgF 0 0 false la)) := by rw [← hH5, upd_ne npqa]; exact hqa4
    have hla5 : H5 la = some (HO.lst ((List.replicate d (0 : Int)).map V.int)) := by rw [← hH5, upd_ne npla]; exact hla4
    have hqb5 : H5 qb = some (HO.ins CS db (sgF 0 0 false lb)) := by rw [← hH5, upd_ne npqb]; exact hqb
    have hlb5 : H5 lb = some (HO.lst ((List.replicate d (0 : Int)).map V.int)) := by rw [← hH5, upd_ne nplb]; exact hlb
    have nqab : qa ≠ qb := fun z => by
      rw [← z, hqa3] at nb
      cases nb
    have nlab : la ≠ lb := fun z => by
      rw [← z, hla3] at flb
      cases flb
    have lfs : fs.length = 6 := by rw [← hfs]; rfl
    -- the list of words sent
    refine ⟨Nat.zero_le _, fun ls nls => ⟨_, rfl, p, C, dx, _, rfl, (by rw [upd_ne (ne_of_none q5 nls)]; exact q5), T.cl, T.n7, (by rw [lfs]; decide), ?_⟩⟩
    generalize hH6 : upd (upd H5 ls (HO.lst [])) p (HO.ins C dx (putF "sent" (V.ref ls) fs)) = H6
    have npls : ls ≠ p := (ne_of_none q5 nls).symm
    have q6 : H6 p = some (HO.ins C dx (putF "sent" (V.ref ls) fs)) := by rw [← hH6]; exact upd_same
    have s6 : Same F H6 := by rw [← hH6]; exact same_upd (s5.trans (same_new nls)) p0
    have k6 : ∀ b o, b ≠ p → H5 b = some o → H6 b = some o := fun b o z e => by rw [← hH6, upd_ne z, upd_ne (ne_of_none e nls)]; exact e
    have hls6 : H6 ls = some (HO.lst []) := by rw [← hH6, upd_ne npls]; exact upd_same
    -- the list of words got
    refine ⟨Nat.zero_le _, fun lg nlg => ⟨_, rfl, p, C, dx, _, rfl, (by rw [upd_ne (ne_of_none q6 nlg)]; exact q6), T.cl, T.n8, (by rw [← hfs]; show 7 < 1000; decide), ?_⟩⟩
    have nplg : lg ≠ p := (ne_of_none q6 nlg).symm
    rw [← hfs, sh_new]
    have k7 : ∀ b o, b ≠ p → H6 b = some o → (upd (upd H6 lg (HO.lst [])) p (HO.ins C dx (shF ph qa qb 0 0 0 ls lg))) b = some o := fun b o z e => by rw [upd_ne z, upd_ne (ne_of_none e nlg)]; exact e
    refine k _ ⟨⟨dx, qa, da, la, qb, db, lb, ls, lg⟩, {
      same := same_upd (s6.trans (same_new nlg)) p0
      fp := p0
      fqa := s1.free na
      fla := s1.free fla
      fqb := s3.free nb
      flb := s3.free flb
      fls := s5.free nls
      flg := s6.free nlg
      hp := upd_same
      hqa := k7 _ _ npqa (k6 _ _ npqa hqa5)
      hla := k7 _ _ npla (k6 _ _ npla hla5)
      hqb := k7 _ _ npqb (k6 _ _ npqb hqb5)
      hlb := k7 _ _ nplb (k6 _ _ nplb hlb5)
      hls := k7 _ _ npls hls6
      hlg := by rw [upd_ne nplg]; exact upd_same
      nq := nqab
      n1 := nlab
      n2 := ne_of_none hla5 nls
      n3 := ne_of_none (k6 _ _ npla hla5) nlg
      n4 := ne_of_none hlb5 nls
      n5 := ne_of_none (k6 _ _ nplb hlb5) nlg
      n6 := ne_of_none hls6 nlg }⟩
end
end Dgw

namespace Dgw
open PySem L2 DgR Dg
theorem feed_take {d : Nat} {ph : Int} {words : List Int} {ts : List (Bool × Bool)} {i : Nat} {t : Bool × Bool} (h : ts[i]? = some t) : feed d ph words (ts.take (i + 1)) = feed1 (feed d ph words (ts.take i)) t := by
  rw [List.take_succ, h]
  exact feed_snoc d ph words (ts.take i) t
theorem Ok.of {d : Nat} {S : Sh} {v : Int} {j : Nat} (h : R d S v j) (hd : d ≤ 1000) (hs : S.sent.length < 1000) : Ok S where
  a1 := by rw [h.alen]; exact h.d1
  a2 := by rw [h.alen]; exact hd
  b1 := by rw [h.nlen]; exact h.d1
  b2 := by rw [h.nlen]; exact hd
  s := hs
  g := by
    rcases h.two with e | e
    · rw [← e]; exact hs
    · rw [e, List.length_append] at hs
      omega
theorem fed_ok {d : Nat} {ph : Int} {words : List Int} {X : Sh × List Int} (h : Fed d ph words X) (hd : d ≤ 1000) (hw : words.length < 1000) : Ok X.1 := by
  obtain ⟨⟨v, j, r⟩, e, _⟩ := h
  refine Ok.of r hd ?_
  have := congrArg List.length e
  rw [List.length_append] at this
  omega
/-- ticks as a list of tuples -/
def TicksAt (H : Hp) (l : Addr) (ts : List (Bool × Bool)) : Prop := ∃ rs : List Addr, H l = some (.lst (rs.map V.ref)) ∧ rs.length = ts.length ∧ ∀ (i : Nat) r t, rs[i]? = some r → ts[i]? = some t → H r = some (.tup [.str (sd t.1), .bl t.2])
theorem TicksAt.more {H H' : Hp} {l : Addr} {ts : List (Bool × Bool)} (h : TicksAt H l ts) (e : Same H H') : TicksAt H' l ts := by
  obtain ⟨rs, h1, h2, h3⟩ := h
  exact ⟨rs, e _ _ h1, h2, fun i r t a b => e _ _ (h3 i r t a b)⟩
/-- what stands of the program's classes and defs -/
structure Lib (P : Program) (w : World) (K : PySem.W.Frag) (mg : Str → Option Value) (base : Heap) (CS C : Addr) : Prop where
  bl : Bl mg
  sk : Sk K C
  mC : mg "Shake" = some (.ref C)
  mw : ∃ u, mg "MOST_WORD" = some u ∧ RelV (.int 255) u
  isn : ∃ f fd, Cal P w K mg base 1 "is_number" ["thing", "least", "most"] spIsN f fd
  made : ∃ f fd g, Mk K C f ∧ FnOk P w K mg base CX0 3 f fd ["self", "steps", "phases"] (spInit CS C) ∧ KBn K fd ["self", "steps", "phases"] 1 ["steps", "phases"] g (fun vs zs => vs ++ zs)
  ready : ∃ f fd, Met P w K mg base 1 C "is_ready" ["self"] (spReady CS C) f fd
  send : ∃ f fd, Met P w K mg base 3 C "send" ["self", "word"] (spSend CS C) f fd
  tick : ∃ f fd g, Meth K C "tick" f ∧ FnOk P w K mg base CX0 3 f fd ["self", "side", "late"] (spTick CS C) ∧ KBn K fd ["self", "side", "late"] 2 ["late"] g (fun vs zs => vs ++ zs)
  sent : ∃ f fd, Met P w K mg base 1 C "words_sent" ["self"] (spSent CS C) f fd
  got : ∃ f fd, Met P w K mg base 1 C "words_got" ["self"] (spGot CS C) f fd
  len : ∃ f fd, FnOk P w K mg base CX0 1 f fd ["self"] (spLen CS C) ∧ PySem.W.findIn K (.ref C) "__len__" = some (some (.ref f)) ∧ PySem.W.isFn K (.ref f) = true ∧ Binds K fd ["self"] []
def kwOver : List (Str × V) := [("steps", .int 2), ("phases", .int 2)]
def spOver : Sp := fun vs H Q _ => ∃ (lw lt : Addr) (d : Nat) (ph : Int) (words : List Int) (ts : List (Bool × Bool)), vs = [.ref lw, .ref lt, .int (d : Int), .int ph] ∧ H lw = some (.lst (words.map V.int)) ∧ (∀ x ∈ words, 0 ≤ x ∧ x ≤ 255) ∧ words.length ≤ 100 ∧
  TicksAt H lt ts ∧ ts.length ≤ 100 ∧ 1 ≤ d ∧ d ≤ 9 ∧ (ph = 2 ∨ ph = 4) ∧ ∀ H' l, Same H H' → H l = none → H' l = some (.lst ((feed d ph words ts).1.got.map V.int)) → Q (.ref l) H'
/-- an int list is not empty, or it is -/
theorem eqv_nil (xs : List Int) : (!PyData.eqv (.list (xs.map PyData.int)) (.list [])) = !xs.isEmpty := by cases xs <;> rfl
section
variable {P : Program} {w : World} {K : PySem.W.Frag} {mg : Str → Option Value} {base : Heap} {CS C : Addr}
theorem dpAll {H : Hp} : ∀ xs : List Int, DpAll K H (xs.map V.int) (xs.map PyData.int)
  | [] => .nil
  | x :: r => .cons (.int x) (dpAll r)
abbrev nOver : List Str := ["words", "ticks", "steps", "phases", "found", "left", "side", "is_late", "word", "tick"]
theorem scOver : FnScope nOver ["words", "ticks", "steps", "phases"] (defScope sOver) := ⟨rfl, rfl, rfl, by decide +kernel, rfl, by decide +kernel, by decide +kernel⟩
def rLn (K : PySem.W.Frag) : List V → Hp → VK → Prop := fun xs H Q => ∃ p ys, xs = [.ref p] ∧ (SqL K H p ys ∨ SqT K H p ys) ∧ Q (.int ys.length) H
theorem call_ln {X : Cx} : CallR X (.builtin "len") (rLn X.K) := call_len_seq
/-- the look at one of the ticks: a tuple of two -/
def tPair (K : PySem.W.Frag) : TE := tAndV (tCB (rIsi K) (tCons (tVar 9) (tCons (tC (.ty "tuple")) tNil))) (tOp rEq (tCB (rLn K) (tCons (tVar 9) tNil)) (tC (.int 2)))
theorem shaped_ints (xs : List Int) : SeqAt.shaped (.list (xs.map PyData.int)) = true := by
  have c : PyData.canLayAll0 (xs.map PyData.int) = true := by
    induction xs with
    | nil => simp [PyData.canLayAll0]
    | cons x r ih => simp [PyData.canLayAll0, PyData.canLay0, ih]
  have e : PyData.depthAll (xs.map PyData.int) = 0 := by
    induction xs with
    | nil => simp [PyData.depthAll]
    | cons x r ih =>
      have c' : PyData.canLayAll0 (r.map PyData.int) = true := by simpa [PyData.canLayAll0, PyData.canLay0] using c
      simp [PyData.depthAll, PyData.depth, ih c']
  unfold SeqAt.shaped
  simp [PyData.canLay0, PyData.depth, c, e]
theorem shaped_nil : SeqAt.shaped (.list []) = true := shaped_ints []
theorem ok_over {f : Addr} {fd : FuncData} (F : FunD K "led_over" "led_over" (defArgs sOver) (defBody sOver) (defScope sOver) [] kwOver f fd) (Y : Lib P w K mg base CS C) : FnOk P w K mg base CX0 5 f fd ["words", "ticks", "steps", "phases"] spOver := by
  refine F.ok (CX := CX0) scOver (fun vs H Q E h => ?_) (fun cdv A outer s H vs Q E hr h => ?_)
  · obtain ⟨lw, lt, d, ph, words, ts, rfl, _⟩ := h
    rfl
  · obtain ⟨lw, lt, d, ph, words, ts, rfl, hw, hws, hwl, ht, htl, hd1, hd9, hph, k⟩ := h
    have hr1 : Room 1 _ := hr.mono (by decide)
    have hr3 : Room 3 _ := hr.mono (by decide)
    have T := Y.sk
    have B := Y.bl
    obtain ⟨u255, mW, rW⟩ := Y.mw
    obtain ⟨fI, fdI, I⟩ := Y.isn
    obtain ⟨fM, fdM, gM, MK, GM, bM⟩ := Y.made
    obtain ⟨fR, fdR, MR⟩ := Y.ready
    obtain ⟨fS, fdS, MS⟩ := Y.send
    obtain ⟨fT, fdT, gT, mT, GT, bT⟩ := Y.tick
    obtain ⟨fG, fdG, MG⟩ := Y.got
    refine ⟨_, PSs.nox (pss_cons (ps_set (i := 4) scOver.nd rfl (Or.inl rfl) (pe_makeK0 MK GM hr (by rfl) Y.mC bM pass0 (pk_cons (pv 2) (pk_cons (pv 3) pk_nil))))
      (pss_cons (ps_if (PW.pt (pw_or (pt_not (pt_val (pe_callB call_isi (by rfl) B.isi b_isi (pa_cons (pv 0) (pa_cons (pe_bltn (v := .ty "list") (by rfl) B.list b_list rfl) pa_nil)))))
          (pw_or1 (pt_not (pt_val (pe_callB (cr_all rfl) (by rfl) B.all b_all (pa_cons
            (pe_lc (own := [("word", 8)]) (g := gName 8) (tt := tYes) rfl scOver.nd (pi_list (pv 0)) (blkOk_by (N := nOver) (sc := defScope sOver) (by decide +kernel)) (fun _ _ _ _ _ => pg_name (i := 8) scOver.nd rfl (Or.inl rfl)) (fun _ _ _ _ _ => pts_nil)
              (fun _ _ _ _ _ => pe_call I.ok hr1 (by rfl) I.mg I.kp I.bd .nil pass0 (pa_cons (pv 8) (pa_cons pe_int (pa_cons (pe_glob (by rfl) mW rW) pa_nil))))) pa_nil))))))) pss_never pss_nil)
      (pss_cons (ps_if (PW.pt (pw_or (pt_not (pt_val (pe_callB call_isi (by rfl) B.isi b_isi (pa_cons (pv 1) (pa_cons (pe_bltn (v := .ty "list") (by rfl) B.list b_list rfl) pa_nil)))))
          (pw_or1 (pt_not (pt_val (pe_callB (cr_all rfl) (by rfl) B.all b_all (pa_cons
            (pe_lc (own := [("tick", 9)]) (g := gName 9) (tt := tYes) (te := tPair K) rfl scOver.nd (pi_list (pv 1)) (blkOk_by (N := nOver) (sc := defScope sOver) (by decide +kernel)) (fun _ _ _ _ _ => pg_name (i := 9) scOver.nd rfl (Or.inl rfl)) (fun _ _ _ _ _ => pts_nil)
              (fun _ _ _ _ _ => pe_and (pe_callB call_isi (by rfl) B.isi b_isi (pa_cons (pv 9) (pa_cons (pe_bltn (v := .ty "tuple") (by rfl) B.tuple b_tuple rfl) pa_nil))) (pe_one (pe_cmpR op_eq (pe_callB call_ln (by rfl) B.len b_len (pa_cons (pv 9) pa_nil)) pe_int (nomark _))))) pa_nil))))))) pss_never pss_nil)
      (pss_cons (ps_set (i := 5) scOver.nd rfl (Or.inl rfl) (pe_callTy call_list_of (by rfl) B.list b_list (pa_cons (pv 0) pa_nil)))
      (pss_cons (ps_for PassesOwn.never rfl (pi_list (pv 1)) (pg_tup rfl (pgs_cons (pg_name (i := 6) scOver.nd rfl (Or.inl rfl)) (pgs_cons (pg_name (i := 7) scOver.nd rfl (Or.inl rfl)) pgs_nil)))
        (pss_cons (ps_if (PW.pt (pw_and (pt_cmpR (op_neD hr.units) (pv 5) (pe_lst pa_nil) (nomark _)) (pw_and1 (pt_val (pe_meth0 (pv 4) T.cl MR.mt MR.ok hr1 MR.bd .nil pass0)))))
            (pss_one (ps_expr (pe_meth (pv 4) T.cl MS.mt MS.ok hr3 MS.bd .nil pass0 (pa_cons (pe_bm PySem.F.plainAttrs_list PySem.F.slot_list_pop PySem.F.type_list_pop mt_popAt (pv 5) (pa_cons pe_int pa_nil)) pa_nil)))) pss_nil)
          (pss_one (ps_expr (pe_methN (pv 4) T.cl mT GT hr3 bT pass0 (pa_cons (pv 6) pa_nil) (pk_cons (pv 7) pk_nil))))))
      (pss_one (ps_ret (pe_meth0 (pv 4) T.cl MG.mt MG.ok hr1 MG.bd .nil pass0)))))))), ?_⟩
    refine ⟨_, rfl, _, rfl, rfl, rfl, fun p dx np ndx ne => ⟨H, p, dx, d, ph, rfl, (same_new ndx).trans (same_new (by rw [upd_ne ne.symm]; exact np)), np, upd_same, hd1, hd9, hph, fun H1 g1 => ⟨rfl, ?_⟩⟩⟩
    have hw1 := g1.same _ _ hw
    -- the look at the words
    refine ⟨_, rfl, _, _, .type "list", .type "list", true, rfl, .ty _, .base (.lst hw1), kb "list" "list" true, true, rfl, iteF ?_⟩
    refine ⟨_, rfl, lw, rfl, ⟨_, SqL.of hw1⟩, fun D hD => ?_⟩
    have nwD : lw ≠ D := ne_of_none hw1 hD
    refine lc_list (K := K) (a := lw) (xs := words.map V.int) (fun i H' => H' = upd H1 D (.lst (List.replicate i (V.bl true)))) rfl ?_ ?_ ?_
    · rintro i H' _ rfl
      exact SqL.of (by rw [upd_ne nwD]; exact hw1)
    · rintro i x H' hx rfl
      rw [List.getElem?_map] at hx
      obtain ⟨z, hz, rfl⟩ := Option.map_eq_some_iff.mp hx
      have hzw := hws z (List.mem_of_getElem? hz)
      have hi : i < words.length := (List.getElem?_eq_some_iff.mp hz).1
      refine ⟨rfl, ?_⟩
      unfold tYes
      refine iteT ⟨_, rfl, z, 0, 255, rfl, hzw.1, hzw.2, _, upd_same, ?_, ?_⟩
      · rw [List.length_replicate]
        exact small1000 (by omega)
      · rw [upd_upd, ← List.replicate_succ']
    rintro H2 rfl
    refine ⟨D, List.replicate (words.map V.int).length true, rfl, SqL.of (by rw [upd_same, List.map_replicate]), true, ?_, iteF ?_⟩
    · rw [show (List.replicate (words.map V.int).length true).all id = true by simp]
    have g2 := g1.more (same_new (o := HO.lst (List.replicate (words.map V.int).length (V.bl true))) hD)
    generalize hH2 : upd H1 D (HO.lst (List.replicate (words.map V.int).length (V.bl true))) = H2 at g2
    obtain ⟨rs, ht1, ht2, ht3⟩ := id ht
    have ht' := g2.same _ _ ht1
    -- the look at the ticks
    refine ⟨_, rfl, _, _, .type "list", .type "list", true, rfl, .ty _, .base (.lst ht'), kb "list" "list" true, true, rfl, iteF ?_⟩
    refine ⟨_, rfl, lt, rfl, ⟨_, SqL.of ht'⟩, fun D3 hD3 => ?_⟩
    have ntD : lt ≠ D3 := ne_of_none ht' hD3
    refine lc_list (K := K) (a := lt) (xs := rs.map V.ref) (fun i H' => H' = upd H2 D3 (.lst (List.replicate i (V.bl true)))) rfl ?_ ?_ ?_
    · rintro i H' _ rfl
      exact SqL.of (by rw [upd_ne ntD]; exact ht')
    · rintro i x H' hx rfl
      rw [List.getElem?_map] at hx
      obtain ⟨r, hz, rfl⟩ := Option.map_eq_some_iff.mp hx
      have hi : i < rs.length := (List.getElem?_eq_some_iff.mp hz).1
      have hr' := g2.same _ _ (ht3 i r ts[i] hz (List.getElem?_eq_getElem (by omega)))
      have nrD : r ≠ D3 := ne_of_none hr' hD3
      have hr2 : (upd H2 D3 (HO.lst (List.replicate i (V.bl true)))) r = some (.tup [.str (sd ts[i].1), .bl ts[i].2]) := by rw [upd_ne nrD]; exact hr'
      refine ⟨rfl, ?_⟩
      unfold tYes
      refine iteT ⟨_, rfl, _, _, .type "tuple", .type "tuple", true, rfl, .ty _, .base (.tup hr2), kb "tuple" "tuple" true, true, rfl, iteT ?_⟩
      refine ⟨_, rfl, r, _, rfl, .inr (SqT.of hr2), rfl, _, upd_same, ?_, ?_⟩
      · rw [List.length_replicate]
        exact small1000 (by omega)
      · rw [upd_upd, show decide (V.int (([V.str (sd ts[i].1), V.bl ts[i].2].length : Nat) : Int) = V.int 2) = true from decide_eq_true rfl, ← List.replicate_succ']
    rintro H3 rfl
    refine ⟨D3, List.replicate (rs.map V.ref).length true, rfl, SqL.of (by rw [upd_same, List.map_replicate]), true, ?_, iteF ?_⟩
    · rw [show (List.replicate (rs.map V.ref).length true).all id = true by simp]
    have g3 := g2.more (same_new (o := HO.lst (List.replicate (rs.map V.ref).length (V.bl true))) hD3)
    generalize hH3 : upd H2 D3 (HO.lst (List.replicate (rs.map V.ref).length (V.bl true))) = H3 at g3
    -- the words left
    refine ⟨_, rfl, lw, _, rfl, .inl (SqL.of (g3.same _ _ hw)), fun ll hll => ?_⟩
    have g4 := g3.lay (o := HO.lst (words.map V.int)) hll
    have hl0 : H ll = none := g3.same.free hll
    have sG := same_new (o := HO.lst (words.map V.int)) hl0
    generalize upd H3 ll (HO.lst (words.map V.int)) = H4 at g4
    have fed : ∀ i, Fed d ph words (feed d ph words (ts.take i)) := fun i => fed_all hd1 hph _
    refine ⟨_, rfl, lt, rfl, ⟨_, SqL.of (g4.same _ _ (sG _ _ ht1))⟩, for_list (K := K) (a := lt) (xs := rs.map V.ref) (fun i σ H' => ∃ (G : Hp) (v6 v7 : Option V), σ = [some (.ref lw), some (.ref lt), some (.int (d : Int)), some (.int ph), some (.ref p), some (.ref ll), v6, v7, none, none] ∧ Same H G ∧ G ll = some (.lst ((feed d ph words (ts.take i)).2.map V.int)) ∧ ShakeAt CS C G H' p (feed d ph words (ts.take i)).1)
      ⟨_, none, none, rfl, sG, upd_same, g4⟩ (fun i σ H' _ ⟨G, _, _, _, sg, _, a⟩ => SqL.of (a.same _ _ (sg _ _ ht1))) ?_ ?_⟩
    · rintro i x σ H' hx ⟨G, v6, v7, rfl, sg, gl, a⟩
      rw [List.getElem?_map] at hx
      obtain ⟨r, hz, rfl⟩ := Option.map_eq_some_iff.mp hx
      have hi : i < rs.length := (List.getElem?_eq_some_iff.mp hz).1
      have hti : ts[i]? = some ts[i] := List.getElem?_eq_getElem (by omega)
      have hr' := a.same _ _ (sg _ _ (ht3 i r ts[i] hz hti))
      have fx := feed_take (d := d) (ph := ph) (words := words) hti
      have fd := fed i
      have fo := fed_ok fd (by omega) (by omega)
      generalize hX : feed d ph words (ts.take i) = X at gl a fx fd fo
      obtain ⟨S, left⟩ := X
      generalize ht : ts[i] = t at hr' fx
      obtain ⟨tb, tl⟩ := t
      refine ⟨r, _, rfl, SqT.of hr', rfl, _, _, rfl, _, _, rfl, rfl, ?_⟩
      have fin : ∀ (D : Ends) (G1 H1 : Hp) (S1 : Sh) (l1 : List Int), (∀ σ' H', (∃ (G : Hp) (v6 v7 : Option V), σ' = [some (.ref lw), some (.ref lt), some (.int (d : Int)), some (.int ph), some (.ref p), some (.ref ll), v6, v7, none, none] ∧ Same H G ∧ G ll = some (.lst ((feed d ph words (ts.take (i + 1))).2.map V.int)) ∧ ShakeAt CS C G H' p (feed d ph words (ts.take (i + 1))).1) → D.nx σ' H') →
          Same H G1 → G1 ll = some (.lst (l1.map V.int)) → ShakeAt CS C G1 H1 p S1 → Ok S1 → feed1 (S, left) (tb, tl) = (S1.tick tb tl, l1) →
          (tDrop (tMethK C "tick" 1 1 (spTick CS C) (fun vs zs => vs ++ zs) E0 (tVar 4) (tCons (tVar 6) tNil) (tCons (tVar 7) tNil))) D [some (.ref lw), some (.ref lt), some (.int (d : Int)), some (.int ph), some (.ref p), some (.ref ll), some (.str (sd tb)), some (.bl tl), none, none] H1 := by
        intro D G1 H1 S1 l1 hD s1 hl a1 o1 e1
        obtain ⟨L, h⟩ := id a1
        refine ⟨_, rfl, p, L.dx, _, rfl, h.hp, sh_m5 _ _ _ _ _ _ _ _, _, rfl, _, rfl, rfl, rfl, G1, p, S1, tb, tl, rfl, a1, o1, fun H2 a2 => ?_⟩
        refine hD _ _ ⟨G1, _, _, rfl, s1, ?_, ?_⟩
        · rw [fx, e1]; exact hl
        · rw [fx, e1]; exact a2
      -- whether words are left
      refine ⟨_, rfl, Nat.zero_le _, fun e he => ?_⟩
      have nle : ll ≠ e := ne_of_none (a.same _ _ gl) he
      have a1 := a.more (same_new (o := HO.lst []) he)
      have gl1 : (upd H' e (HO.lst [])) ll = some (.lst (left.map V.int)) := by rw [upd_ne nle]; exact a.same _ _ gl
      refine ⟨.list (left.map PyData.int), .list [], .lst (SqL.of gl1) (dpAll _), .lst (SqL.of upd_same) .nil, shaped_ints _, shaped_nil, _, rfl, ?_⟩
      rw [eqv_nil]
      cases left with
      | nil => exact iteF (iteF (fin _ _ _ S [] (fun _ _ z => z) sg gl a1 fo rfl))
      | cons y rest =>
        obtain ⟨L, h⟩ := id a1
        refine iteT ⟨_, rfl, p, L.dx, _, rfl, h.hp, sh_m1 _ _ _ _ _ _ _ _, G, p, S, rfl, a1, S.ready, rfl, ?_⟩
        refine ite2 (fun hrd => ?_) (fun hrd => ?_)
        · have hy : 0 ≤ y ∧ y ≤ 255 := hws y (by rw [← fd.2.1]; simp)
          refine ⟨_, rfl, p, L.dx, _, rfl, h.hp, sh_m2 _ _ _ _ _ _ _ _, _, rfl, .inl ⟨rfl, _, SqL.of gl1⟩, ll, _, 0, 0, V.int y, rfl, rfl, gl1, by decide, by decide, by simp [seqIndex?], rfl, ?_⟩
          have a2 := a1.put (t := ll) (o := HO.lst ((V.int y :: rest.map V.int).eraseIdx 0)) gl
          refine ⟨_, p, S, y, rfl, a2, fo, hy.1, hy.2, hrd, fun H5 a3 => ?_⟩
          obtain ⟨v, j, r0⟩ := fd.1
          have e1 : feed1 (S, y :: rest) (tb, tl) = ((S.send y).tick tb tl, rest) := by unfold feed1; exact if_pos hrd
          have o1 : Ok (S.send y) := by
            refine Ok.of (r0.send hrd y).1 (by omega) ?_
            have := congrArg List.length fd.2.1
            rw [List.length_append, List.length_cons] at this
            show (S.sent ++ [y]).length < 1000
            rw [List.length_append, List.length_singleton]
            show S.sent.length + 1 < 1000
            have e : S.sent.length + (rest.length + 1) = words.length := this
            omega
          refine fin _ _ _ (S.send y) rest (fun _ _ z => z) ?_ upd_same a3 o1 e1
          exact same_upd sg hl0
        · have e1 : feed1 (S, y :: rest) (tb, tl) = (S.tick tb tl, y :: rest) := by unfold feed1; exact if_neg hrd
          exact fin _ _ _ S (y :: rest) (fun _ _ z => z) sg gl a1 fo e1
    · rintro σ H' ⟨G, v6, v7, rfl, sg, gl, a⟩
      have el : (rs.map V.ref).length = ts.length := by rw [List.length_map, ht2]
      rw [el, List.take_length] at a
      obtain ⟨L, h⟩ := id a
      refine ⟨_, rfl, p, L.dx, _, rfl, h.hp, sh_m7 _ _ _ _ _ _ _ _, G, p, _, rfl, a, fun l hl => ?_⟩
      exact k _ l ((sg.trans a.same).trans (same_new hl)) ((sg.trans a.same).free hl) upd_same
end
end Dgw

namespace Dgw
open PySem L2 DgR Dg
/-! ### _law_drawn: some number below many -/
def spDrawn (K : PySem.W.Frag) : Sp := fun vs H Q _ => ∃ (a : Addr) (ns : List Int) (k : Nat) (m : Int), vs = [.ref a, .int (k : Int), .int m] ∧ SqL K H a (ns.map V.int) ∧ ns.length ≤ 63 ∧ k ≤ 1000 ∧ 0 < m ∧ ∀ H' r, Same H H' → 0 ≤ r → r < m → Q (.int r) H'
abbrev nDrawn : List Str := ["_law_script", "_law_k", "_law_many", "_law_cell", "_law_turn", "_law_rest"]
abbrev xMod : R2 := rI (fun _ j => 0 < j) fun i j => .int (i % j)
abbrev xAdd : R2 := rI0 fun i j => .int (i + j)
abbrev xMul : R2 := rI CMul fun i j => .int (i * j)
abbrev xDiv : R2 := rI CDiv fun i j => .int (i / j)
/-- the mixing -/
def tMix : TS := tSeq (tAsg (tOp xMod (tOp xAdd (tOp xMul (tOp xMod (tVar 3) (tC (.int 2147483563))) (tC (.int 69069))) (tOp xMul (tC (.int 104723)) (tOp xAdd (tVar 1) (tC (.int 1))))) (tC (.int 2147483563))) (gName 3))
  (tSeq (tAsg (tOp xMod (tOp xAdd (tOp xMul (tVar 3) (tVar 3)) (tOp xDiv (tVar 3) (tC (.int 3)))) (tC (.int 2147483399))) (gName 3))
    (tRet (tOp xMod (tOp xDiv (tOp xMod (tOp xAdd (tOp xMul (tVar 3) (tVar 3)) (tOp xDiv (tVar 3) (tC (.int 7)))) (tC (.int 2147483647))) (tC (.int 11))) (tVar 2))))
def mix1 (c k : Int) : Int := (c % 2147483563 * 69069 + 104723 * (k + 1)) % 2147483563
def mix2 (x : Int) : Int := (x * x + x / 3) % 2147483399
theorem mix1_in (c k : Int) : -(2 ^ 64) < mix1 c k ∧ mix1 c k < 2 ^ 64 := by
  have h0 : 0 ≤ mix1 c k := Int.emod_nonneg _ (by decide)
  have h1 : mix1 c k < 2147483563 := Int.emod_lt_of_pos _ (by decide)
  omega
theorem mix2_in (x : Int) : -(2 ^ 64) < mix2 x ∧ mix2 x < 2 ^ 64 := by
  have h0 : 0 ≤ mix2 x := Int.emod_nonneg _ (by decide)
  have h1 : mix2 x < 2147483399 := Int.emod_lt_of_pos _ (by decide)
  omega
theorem mix_run {a : Addr} {k : Nat} {m c : Int} {v4 v5 : Option V} {H : Hp} {D : Ends} (hm : 0 < m) (h : ∀ r, 0 ≤ r → r < m → D.rt (.int r) H) : tMix D [some (.ref a), some (.int (k : Int)), some (.int m), some (.int c), v4, v5] H := by
  refine ⟨_, rfl, c, 2147483563, rfl, rfl, (by show (0 : Int) < 2147483563; decide), _, 69069, rfl, rfl, .inr (by decide), _, rfl, (k : Int), 1, rfl, rfl, 104723, _, rfl, rfl, .inl (by decide), _, _, rfl, rfl, _, 2147483563, rfl, rfl, (by show (0 : Int) < 2147483563; decide), ?_⟩
  refine ⟨_, rfl, _, rfl, mix1 c k, mix1 c k, rfl, rfl, .inl (mix1_in _ _), _, rfl, mix1 c k, 3, rfl, rfl, ⟨by decide, by decide⟩, _, _, rfl, rfl, _, 2147483399, rfl, rfl, (by show (0 : Int) < 2147483399; decide), ?_⟩
  refine ⟨_, rfl, _, rfl, mix2 (mix1 c k), mix2 (mix1 c k), rfl, rfl, .inl (mix2_in _), _, rfl, mix2 (mix1 c k), 7, rfl, rfl, ⟨by decide, by decide⟩, _, _, rfl, rfl, _, 2147483647, rfl, rfl, (by show (0 : Int) < 2147483647; decide), _, 11, rfl, rfl, ⟨by decide, by decide⟩, _, rfl, _, m, rfl, rfl, hm, ?_⟩
  exact h _ (Int.emod_nonneg _ (by omega)) (Int.emod_lt_of_pos _ hm)
section
variable {P : Program} {w : World} {K : PySem.W.Frag} {mg : Str → Option Value} {base : Heap}
theorem scDrawn : FnScope nDrawn ["_law_script", "_law_k", "_law_many"] (defScope sDrawn) := ⟨rfl, rfl, rfl, by decide +kernel, rfl, by decide +kernel, by decide +kernel⟩
theorem ok_drawn {f : Addr} {fd : FuncData} (F : Fun K "_law_drawn" "_law_drawn" sDrawn f fd) (B : Bl mg) : FnOk P w K mg base CX0 1 f fd ["_law_script", "_law_k", "_law_many"] (spDrawn K) := by
  refine F.ok scDrawn (fun vs H Q E h => ?_) (fun cdv A outer s H vs Q E hr h => ?_)
  · obtain ⟨a, ns, k, m, rfl, _⟩ := h
    rfl
  · obtain ⟨a, ns, k, m, rfl, hq, hl, hk, hm, fin⟩ := h
    have lenC : ∀ {X : Cx}, X.K = K → CallR X (.builtin "len") (rLn K) := fun e => by rw [← e]; exact call_ln
    refine ⟨_, pss_cons (ps_set (i := 3) scDrawn.nd rfl (Or.inl rfl) (pe_op op_mul pe_int (pv 1)))
      (pss_cons (ps_if (pt_cmpR (op_neD hr.units) (pv 0) (pe_lst pa_nil) (nomark _))
        (pss_cons (ps_set (i := 3) scDrawn.nd rfl (Or.inl rfl) (pe_ix ix_list (pv 0) (pe_op op_mod (pv 1) (pe_callB call_len_seq (by rfl) B.len b_len (pa_cons (pv 0) pa_nil))) (fun _ _ => rfl)))
        (pss_cons (ps_set (i := 4) scDrawn.nd rfl (Or.inl rfl) (pe_op op_fdiv (pv 1) (pe_callB call_len_seq (by rfl) B.len b_len (pa_cons (pv 0) pa_nil))))
        (pss_cons (ps_if (PW.pt (pw_and (pt_cmpR op_ge (pv 3) (pe_op op_pow pe_int pe_int) (nomark _)) (pw_and1 (pt_cmpR op_lt (pv 4) pe_int (nomark _)))))
          (pss_cons (ps_set (i := 5) scDrawn.nd rfl (Or.inl rfl) (pe_op op_fdivW (pv 3) (pe_op op_pow pe_int pe_int)))
          (pss_cons (ps_while PassesOwn.never (PW.pt (pw_and (pt_cmpR op_gt (pv 5) pe_int (nomark _)) (pw_and1 (pt_cmpR op_gt (pv 4) pe_int (nomark _)))))
            (pss_cons (ps_set (i := 5) scDrawn.nd rfl (Or.inl rfl) (pe_op op_fdiv (pv 5) pe_int)) (pss_one (ps_set (i := 4) scDrawn.nd rfl (Or.inl rfl) (pe_op op_sub (pv 4) pe_int)))))
          (pss_one (ps_if (pt_cmpR op_gt (pv 5) pe_int (nomark _)) (pss_one (ps_ret (pe_op op_mod (pe_op op_mod (pv 5) pe_int) (pv 2)))) pss_nil)))) pss_nil)
        (pss_one (ps_set (i := 3) scDrawn.nd rfl (Or.inl rfl) (pe_op op_add (pv 3) (pe_op op_mul pe_int (pe_op op_fdiv (pv 1) (pe_callB call_len_seq (by rfl) B.len b_len (pa_cons (pv 0) pa_nil)))))))))) pss_nil)
      (pss_cons (ps_set (i := 3) scDrawn.nd rfl (Or.inl rfl) (pe_op op_mod (pe_op op_add (pe_op op_mul (pe_op op_mod (pv 3) pe_int) pe_int) (pe_op op_mul pe_int (pe_op op_add (pv 1) pe_int))) pe_int))
      (pss_cons (ps_set (i := 3) scDrawn.nd rfl (Or.inl rfl) (pe_op op_mod (pe_op op_add (pe_op op_mul (pv 3) (pv 3)) (pe_op op_fdiv (pv 3) pe_int)) pe_int))
      (pss_one (ps_ret (pe_op op_mod (pe_op op_fdiv (pe_op op_mod (pe_op op_add (pe_op op_mul (pv 3) (pv 3)) (pe_op op_fdiv (pv 3) pe_int)) pe_int) pe_int) (pv 2))))))), ?_⟩
    refine ⟨_, rfl, 7, (k : Int), rfl, rfl, .inl (by decide), ?_⟩
    refine ⟨_, rfl, Nat.zero_le _, fun e he => ?_⟩
    have sE : Same H (upd H e (HO.lst [])) := same_new he
    have hq' := sE.seq hq
    refine ⟨.list (ns.map PyData.int), .list [], .lst hq' (dpAll _), .lst (SqL.of upd_same) .nil, shaped_ints _, shaped_nil, _, rfl, ?_⟩
    rw [eqv_nil]
    have tail : ∀ (c : Int) (v4 v5 : Option V), tMix { nx := fun _ H' => Q .non H', rt := Q } [some (.ref a), some (.int (k : Int)), some (.int m), some (.int c), v4, v5] (upd H e (HO.lst [])) := fun c v4 v5 => mix_run hm fun r r0 r1 => fin _ r sE r0 r1
    by_cases hn : ns = []
    · rw [hn]
      exact iteF (tail _ _ _)
    · have hpos : 0 < ns.length := List.length_pos_iff.mpr hn
      have e1 : (!ns.isEmpty) = true := by cases ns with
        | nil => exact absurd rfl hn
        | cons _ _ => rfl
      rw [e1]
      have ell : (ns.map V.int).length = ns.length := List.length_map _
      have hi : k % ns.length < ns.length := Nat.mod_lt _ hpos
      have hat : atI (ns.map V.int) ((k : Int) % ((ns.map V.int).length : Int)) = some (V.int ns[k % ns.length]) := at_of (j := k % ns.length) (by rw [ell]; exact (Int.natCast_emod k ns.length).symm) (by rw [List.getElem?_map, List.getElem?_eq_getElem hi]; rfl)
      have hlp : (0 : Int) < ((ns.map V.int).length : Int) := by rw [ell]; omega
      have hdv : CDiv (k : Int) ((ns.map V.int).length : Int) := ⟨hlp, by rw [ell]; omega⟩
      refine iteT ⟨_, rfl, _, rfl, _, rfl, a, _, rfl, .inl hq', (k : Int), _, rfl, rfl, hlp, a, _, _, _, rfl, rfl, hq', hat, ?_⟩
      refine ⟨_, rfl, _, rfl, a, _, rfl, .inl hq', (k : Int), _, rfl, rfl, hdv, ?_⟩
      generalize ns[k % ns.length] = c
      -- the last row of the branch
      have row : ∀ (v4 v5 : Option V), (tAsg (tOp xAdd (tVar 3) (tOp xMul (tC (.int 6553)) (tOp xDiv (tVar 1) (tCB (fun xs H Q => ∃ p ys, xs = [V.ref p] ∧ (SqL K H p ys ∨ SqT K H p ys) ∧ Q (V.int ys.length) H) (tCons (tVar 0) tNil))))) (gName 3)) { nx := tMix { nx := fun _ H' => Q .non H', rt := Q }, rt := Q }
          [some (.ref a), some (.int (k : Int)), some (.int m), some (.int c), v4, v5] (upd H e (HO.lst [])) := by
        intro v4 v5
        refine ⟨_, rfl, _, rfl, _, rfl, a, _, rfl, .inl hq', (k : Int), _, rfl, rfl, hdv, 6553, _, rfl, rfl, .inl (by decide), _, _, rfl, rfl, ?_⟩
        exact tail _ _ _
      -- the great cells
      refine ⟨_, rfl, 10, 18, rfl, rfl, ⟨by decide, by decide, by decide⟩, c, _, rfl, rfl, _, rfl, ?_⟩
      refine ite2 (fun hc => ?_) (fun hc => iteF (row _ _))
      refine ⟨_, rfl, _, 60, rfl, rfl, _, rfl, ?_⟩
      refine ite2 (fun hq60 => ?_) (fun hq60 => row _ _)
      refine ⟨_, rfl, 10, 18, rfl, rfl, ⟨by decide, by decide, by decide⟩, c, _, rfl, rfl, ⟨by decide +kernel, by decide +kernel⟩, ?_⟩
      refine ⟨fun n σ H' => ∃ (t r : Int), σ = [some (.ref a), some (.int (k : Int)), some (.int m), some (.int c), some (.int t), some (.int r)] ∧ n = t.toNat ∧ H' = upd H e (HO.lst []), ⟨_, _, _, rfl, rfl, rfl⟩, ?_⟩
      rintro n σ H' ⟨t, r, rfl, rfl, rfl⟩
      have after : (tIfS (tTest (tOp (rI0 fun i j => .bl (decide (j < i))) (tVar 5) (tC (.int 0)))) (tRet (tOp xMod (tOp xMod (tVar 5) (tC (.int 1000000))) (tVar 2))) tNext)
          { nx := (tAsg (tOp xAdd (tVar 3) (tOp xMul (tC (.int 6553)) (tOp xDiv (tVar 1) (tCB (fun xs H Q => ∃ p ys, xs = [V.ref p] ∧ (SqL K H p ys ∨ SqT K H p ys) ∧ Q (V.int ys.length) H) (tCons (tVar 0) tNil))))) (gName 3)) { nx := tMix { nx := fun _ H' => Q .non H', rt := Q }, rt := Q }, rt := Q }
          [some (.ref a), some (.int (k : Int)), some (.int m), some (.int c), some (.int t), some (.int r)] (upd H e (HO.lst [])) := by
        refine ⟨_, rfl, r, 0, rfl, rfl, _, rfl, ite2 (fun hr0 => ?_) (fun hr0 => row _ _)⟩
        refine ⟨_, rfl, r, 1000000, rfl, rfl, (by show (0 : Int) < 1000000; decide), _, rfl, _, m, rfl, rfl, hm, ?_⟩
        exact fin _ _ sE (Int.emod_nonneg _ (by omega)) (Int.emod_lt_of_pos _ hm)
      refine ⟨_, rfl, r, 0, rfl, rfl, _, rfl, ite2 (fun hr0 => ?_) (fun hr0 => iteF after)⟩
      refine ⟨_, rfl, t, 0, rfl, rfl, _, rfl, ite2 (fun ht0 => ?_) (fun ht0 => after)⟩
      have ht : 0 < t := of_decide_eq_true ht0
      refine ⟨fun σ' H' => ∃ r' : Int, σ' = [some (.ref a), some (.int (k : Int)), some (.int m), some (.int c), some (.int (t - 1)), some (.int r')] ∧ H' = upd H e (HO.lst []), ?_, ?_⟩
      · rintro σ' H' ⟨r', rfl, rfl⟩
        exact ⟨(t - 1).toNat, by omega, _, _, rfl, rfl, rfl⟩
      · exact ⟨_, rfl, r, 1000000, rfl, rfl, ⟨by decide, by decide⟩, _, rfl, t, 1, rfl, rfl, _, rfl, rfl⟩
end
end Dgw

namespace Dgw
open PySem L2 DgR Dg
/-! ### _law_led -/
/-- a for over a text's signs -/
theorem for_signs {x : Str} {n : Nat} {g : TG} {tb : TS} {D : Ends} {σ : St} {H : Hp} (Pv : Nat → St → Hp → Prop) (hn : x.cps.size = n) (h0 : Pv 0 σ H)
    (hs : ∀ i c σ H, x.cps[i]? = some c → Pv i σ H → g (.str ⟨#[c]⟩) σ H fun σ2 H2 => tb { D with nx := Pv (i + 1), ct := Pv (i + 1), bk := D.nx } σ2 H2) (hd : ∀ σ H, Pv n σ H → D.nx σ H) :
    ∃ W : Nat → Nat → St → Hp → Prop, (∃ m, W 0 m σ H) ∧ ∀ i m σ H, W i m σ H → ((Its x).stop i H ∧ D.nx σ H) ∨ ((Its x).go i H ∧ ∃ N : St → Hp → Prop, (∀ σ' H', N σ' H' → ∃ m', m' < m ∧ W (i + 1) m' σ' H') ∧
      ∀ v H', (Its x).yld i H v H' → g v σ H' fun σ2 H2 => tb { D with nx := N, ct := N, bk := D.nx } σ2 H2) := by
  subst hn
  refine ⟨fun i m σ H => m = x.cps.size - i ∧ i ≤ x.cps.size ∧ Pv i σ H, ⟨_, rfl, Nat.zero_le _, h0⟩, fun i m σ H q => ?_⟩
  obtain ⟨rfl, hi, pv⟩ := q
  by_cases lt : i < x.cps.size
  · refine .inr ⟨lt, Pv (i + 1), fun σ' H' p' => ⟨x.cps.size - (i + 1), by omega, rfl, lt, p'⟩, fun v H' y => ?_⟩
    obtain ⟨rfl, c, hc, rfl⟩ := y
    exact hs i c σ _ hc pv
  · have : i = x.cps.size := by omega
    subst this
    exact .inl ⟨Nat.le_refl _, hd _ _ pv⟩
theorem ab0 : (Str.ofString "ab").cps[0]? = some 97 := by decide +kernel
theorem ab1 : (Str.ofString "ab").cps[1]? = some 98 := by decide +kernel
theorem ab_n : (Str.ofString "ab").cps.size = 2 := by decide +kernel
theorem sg_a : (⟨#[97]⟩ : Str) = sd false := by decide +kernel
theorem sg_b : (⟨#[98]⟩ : Str) = sd true := by decide +kernel
theorem eqv_same (xs : List Int) : PyData.eqv (.list (xs.map PyData.int)) (.list (xs.map PyData.int)) = true := by
  have c := SeqAt.canLay_of_shaped (shaped_ints xs)
  exact SeqAt.eqv_refl _ c
theorem led_ring {d : Nat} {S : Sh} {v : Int} {k : Nat} (h : Led d S v k) : ∃ j, R d S v j := by
  obtain ⟨_, ⟨_, r, _⟩ | ⟨_, _, r, _⟩⟩ := h
  · exact ⟨_, r⟩
  · exact ⟨_, r⟩
def spLed (CS C : Addr) : Sp := fun vs H Q _ => ∃ (F : Hp) (p lw ll : Addr) (d : Nat) (S : Sh) (v : Int) (j : Nat) (words left : List Int), vs = [.ref p, .ref lw, .ref ll, .int (d : Int)] ∧ ShakeAt CS C F H p S ∧ F lw = some (.lst (words.map V.int)) ∧ F ll = some (.lst (left.map V.int)) ∧
  R d S v j ∧ S.sent ++ left = words ∧ (∀ x ∈ words, 0 ≤ x ∧ x ≤ 255) ∧ words.length ≤ 100 ∧ d ≤ 4 ∧ ∀ H', Q (.bl true) H'
abbrev nLed : List Str := ["_law_shake", "_law_words", "_law_left", "_law_depth", "_law_word", "_law_k", "_law_side", "_law_rounds"]
/-- led_over, called with steps alone -/
structure Over (P : Program) (w : World) (K : PySem.W.Frag) (mg : Str → Option Value) (base : Heap) (f : Addr) (fd : FuncData) : Prop where
  ok : FnOk P w K mg base CX0 5 f fd ["words", "ticks", "steps", "phases"] spOver
  mg : mg "led_over" = some (.ref f)
  kp : PySem.W.keepIn K (.ref f) = true
  b1 : ∃ g, KBn K fd ["words", "ticks", "steps", "phases"] 2 ["steps"] g (fun vs zs => vs ++ (zs ++ [V.int 2]))
  b2 : ∃ g, KBn K fd ["words", "ticks", "steps", "phases"] 2 ["steps", "phases"] g (fun vs zs => vs ++ zs)
section
variable {P : Program} {w : World} {K : PySem.W.Frag} {mg : Str → Option Value} {base : Heap} {CS C : Addr}
theorem scLed : FnScope nLed ["_law_shake", "_law_words", "_law_left", "_law_depth"] (defScope sLed) := ⟨rfl, rfl, rfl, by decide +kernel, rfl, by decide +kernel, by decide +kernel⟩
theorem ok_led {f fO : Addr} {fd fdO : FuncData} (F : Fun K "_law_led" "_law_led" sLed f fd) (Y : Lib P w K mg base CS C) (O : Over P w K mg base fO fdO) : FnOk P w K mg base CX0 6 f fd ["_law_shake", "_law_words", "_law_left", "_law_depth"] (spLed CS C) := by
  refine F.ok scLed (fun vs H Q E h => ?_) (fun cdv A outer s H vs Q E hr h => ?_)
  · obtain ⟨F, p, lw, ll, d, S, v, j, words, left, rfl, _⟩ := h
    rfl
  · obtain ⟨F, p, lw, ll, d, S0, v0, j0, words, left, rfl, a0, hw, hl, r0, esl, hws, hwl, hd4, k⟩ := h
    have hr1 : Room 1 _ := hr.mono (by decide)
    have hr2 : Room 2 _ := hr.mono (by decide)
    have hr3 : Room 3 _ := hr.mono (by decide)
    have T := Y.sk
    have B := Y.bl
    obtain ⟨fR, fdR, MR⟩ := Y.ready
    obtain ⟨fS, fdS, MS⟩ := Y.send
    obtain ⟨fT, fdT, gT, mT, GT, bT⟩ := Y.tick
    obtain ⟨fG, fdG, MG⟩ := Y.got
    obtain ⟨fL, fdL, GL, hL1, hL2, bL⟩ := Y.len
    obtain ⟨gO, bO⟩ := O.b1
    refine ⟨_, pss_cons (ps_for PassesOwn.never rfl (pi_list (pe_op op_cat (pv 2) (pe_lst (pa_cons pe_int pa_nil)))) (pg_name (i := 4) scLed.nd rfl (Or.inl rfl))
        (pss_cons (ps_for PassesOwn.never rfl (pi_range1 rfl B.range (pa_cons (pe_op op_add (pe_op op_mul pe_int (pv 3)) pe_int) pa_nil)) (pg_name (i := 5) scLed.nd rfl (Or.inl rfl))
          (pss_one (ps_for PassesOwn.never rfl (pi_str pe_str) (pg_name (i := 6) scLed.nd rfl (Or.inl rfl))
            (pss_one (ps_expr (pe_methN (pv 0) T.cl mT GT hr3 bT pass0 (pa_cons (pv 6) pa_nil) (pk_cons (pe_cmpR op_eq (pe_op op_mod (pv 5) pe_int) pe_int (nomark _)) pk_nil)))))))
        (pss_cons (ps_if (PW.pt (pw_or (pt_not (pt_val (pe_meth0 (pv 0) T.cl MR.mt MR.ok hr1 MR.bd .nil pass0))) (pw_or1 (pt_cmpR op_ne (pe_callB (call_lenO GL hr2 hL1 hL2 bL pass0) (by rfl) B.len b_len (pa_cons (pv 0) pa_nil)) pe_int (nomark _))))) (pss_one (ps_ret pe_bl)) pss_nil)
        (pss_cons (ps_expr (pe_meth (pv 0) T.cl MS.mt MS.ok hr3 MS.bd .nil pass0 (pa_cons (pv 4) pa_nil)))
        (pss_cons (ps_set (i := 7) scLed.nd rfl (Or.inl rfl) pe_int)
        (pss_cons (ps_while PassesOwn.never (PW.pt (pw_and (pt_cmpR op_eq (pe_callB (call_lenO GL hr2 hL1 hL2 bL pass0) (by rfl) B.len b_len (pa_cons (pv 0) pa_nil)) pe_int (nomark _)) (pw_and1 (pt_cmpR op_lt (pv 7) pe_int (nomark _)))))
          (pss_cons (ps_expr (pe_methN (pv 0) T.cl mT GT hr3 bT pass0 (pa_cons pe_str pa_nil) (pk_cons (pe_cmpR op_eq (pv 7) pe_int (nomark _)) pk_nil)))
            (pss_one (ps_set (i := 7) scLed.nd rfl (Or.inl rfl) (pe_op op_add (pv 7) pe_int)))))
        (pss_one (ps_if (pt_cmpR op_ne (pv 7) (pe_op op_add (pv 3) pe_int) (nomark _)) (pss_one (ps_ret pe_bl)) pss_nil))))))))
      (pss_one (ps_ret (pe_and (pe_cmpR (op_eqD hr.units) (pe_meth0 (pv 0) T.cl MG.mt MG.ok hr1 MG.bd .nil pass0) (pe_op op_cat (pv 1) (pe_lst (pa_cons pe_int pa_nil))) (nomark _))
        (pe_one (pe_cmpR (op_eqD hr.units) (pe_callN O.ok hr (by rfl) O.mg O.kp bO pass0 (pa_cons (pv 1) (pa_cons (pe_lst pa_nil) pa_nil)) (pk_cons (pv 3) pk_nil)) (pe_lst pa_nil) (nomark _)))))), ?_⟩
    have hd1 : 1 ≤ d := r0.d1
    -- one word more
    refine ⟨_, rfl, (by show 1 ≤ sizeLine; decide), fun e he => ?_⟩
    have nle : ll ≠ e := ne_of_none (a0.same _ _ hl) he
    have hll : left.length ≤ 100 := by
      have := congrArg List.length esl
      rw [List.length_append] at this
      omega
    refine ⟨ll, e, _, _, rfl, rfl, (by rw [upd_ne nle]; exact a0.same _ _ hl), upd_same, ?_, fun l2 hl2 => ?_⟩
    · rw [List.length_map]
      exact Nat.le_of_lt (small1000 (by show left.length + 1 ≤ 1000; omega))
    have a1 := (a0.more (same_new (o := HO.lst [V.int 7]) he)).lay (o := HO.lst (left.map V.int ++ [V.int 7])) hl2
    have l20 : F l2 = none := (a0.more (same_new (o := HO.lst [V.int 7]) he)).same.free hl2
    have hw2 : (upd F l2 (HO.lst (left.map V.int ++ [V.int 7]))) lw = some (.lst (words.map V.int)) := by rw [upd_ne (ne_of_none hw l20)]; exact hw
    have h7 : left.map V.int ++ [V.int 7] = (left ++ [7]).map V.int := by rw [List.map_append]; rfl
    have g2 : (upd F l2 (HO.lst (left.map V.int ++ [V.int 7]))) l2 = some (.lst ((left ++ [7]).map V.int)) := by rw [upd_same, h7]
    rw [h7] at a1 hw2 g2 ⊢
    generalize upd F l2 (HO.lst ((left ++ [7]).map V.int)) = G at a1 hw2 g2
    generalize upd (upd H e (HO.lst [V.int 7])) l2 (HO.lst ((left ++ [7]).map V.int)) = H1 at a1
    have hx7 : ∀ x ∈ left ++ [7], 0 ≤ x ∧ x ≤ 255 := by
      intro x hx
      rcases List.mem_append.mp hx with hx | hx
      · exact hws x (by rw [← esl]; exact List.mem_append_right _ hx)
      · rw [List.mem_singleton.mp hx]; decide
    have hsl : S0.sent.length + left.length = words.length := by
      have := congrArg List.length esl
      rw [List.length_append] at this
      exact this
    refine ⟨l2, rfl, ⟨_, SqL.of (a1.same _ _ g2)⟩, for_list (K := K) (a := l2) (xs := (left ++ [7]).map V.int) (fun i σ H' => ∃ (S : Sh) (v : Int) (j : Nat) (u4 u5 u6 u7 : Option V), σ = [some (.ref p), some (.ref lw), some (.ref ll), some (.int (d : Int)), u4, u5, u6, u7] ∧ ShakeAt CS C G H' p S ∧ R d S v j ∧ S.sent = S0.sent ++ (left ++ [7]).take i ∧ (1 ≤ i → S.got = S.sent))
      ⟨S0, v0, j0, none, none, none, none, rfl, a1, r0, by simp, fun z => absurd z (by decide)⟩ (fun i σ H' _ ⟨S, _, _, _, _, _, _, _, a, _⟩ => SqL.of (a.same _ _ g2)) ?_ ?_⟩
    · rintro i x σ H' hx ⟨S, v, j, u4, u5, u6, u7, rfl, a, r, es, _⟩
      rw [List.getElem?_map] at hx
      obtain ⟨x, hz, rfl⟩ := Option.map_eq_some_iff.mp hx
      have hi : i < (left ++ [7]).length := (List.getElem?_eq_some_iff.mp hz).1
      have hxb := hx7 x (List.mem_of_getElem? hz)
      have hlen : S.sent.length + 1 ≤ 200 := by
        rw [es, List.length_append, List.length_take]
        rw [List.length_append, List.length_singleton] at hi ⊢
        omega
      have okS : ∀ {S' : Sh} {v' : Int} {j' : Nat}, R d S' v' j' → S'.sent = S.sent → Ok S' := fun r' e' => Ok.of r' (by omega) (by rw [e']; omega)
      -- the rounds
      have mle := mu_le r
      refine ⟨_, rfl, 4, (d : Int), rfl, rfl, .inl (by decide), _, 12, rfl, rfl, 4 * (d : Int) + 12, rfl, by omega, by omega, for_range (lo := 0) (n := (4 * (d : Int) + 12).toNat)
        (fun n σ H2 => ∃ (S1 : Sh) (v1 : Int) (j1 : Nat) (u5 u6 : Option V), σ = [some (.ref p), some (.ref lw), some (.ref ll), some (.int (d : Int)), some (.int x), u5, u6, u7] ∧ ShakeAt CS C G H2 p S1 ∧ R d S1 v1 j1 ∧ S1.sent = S.sent ∧ mu d S1 v1 j1 ≤ 4 * d + 8 - n)
        ⟨S, v, j, u5, u6, rfl, a, r, rfl, by omega⟩ ?_ ?_⟩
      · rintro n σ H2 hn ⟨S1, v1, j1, u5, u6, rfl, a, r, es1, hmu⟩
        obtain ⟨v2, j2, r2, hmu2⟩ := mu_round (decide (V.int ((0 + (n : Int)) % 2) = V.int 0)) (decide (V.int ((0 + (n : Int)) % 2) = V.int 0)) r
        generalize hlate : decide (V.int ((0 + (n : Int)) % 2) = V.int 0) = late at r2 hmu2
        refine ⟨_, rfl, for_signs (fun i σ H3 => ∃ (S2 : Sh) (u6 : Option V), σ = [some (.ref p), some (.ref lw), some (.ref ll), some (.int (d : Int)), some (.int x), some (.int (0 + (n : Int))), u6, u7] ∧ ShakeAt CS C G H3 p S2 ∧ S2 = (if i = 0 then S1 else if i = 1 then S1.tickA late else (S1.tickA late).tickB late)) ab_n
          ⟨S1, u6, rfl, a, rfl⟩ ?_ ?_⟩
        · rintro i c σ H3 hc ⟨S2, u6, rfl, a3, e2⟩
          match i, hc with
          | 0, hc =>
            rw [ab0] at hc
            cases hc
            have e2 : S2 = S1 := e2
            subst e2
            obtain ⟨L, h⟩ := id a3
            refine ⟨_, rfl, p, L.dx, _, rfl, h.hp, sh_m5 _ _ _ _ _ _ _ _, _, rfl, _, rfl, _, 2, rfl, rfl, (by show (0 : Int) < 2; decide), rfl, rfl, rfl, G, p, S2, false, late, ?_, a3, okS r es1, fun H4 a4 => ?_⟩
            · rw [sg_a, hlate]; rfl
            · exact ⟨S2.tickA late, _, rfl, a4, rfl⟩
          | 1, hc =>
            rw [ab1] at hc
            cases hc
            have e2 : S2 = S1.tickA late := e2
            subst e2
            obtain ⟨L, h⟩ := id a3
            obtain ⟨v3, j3, r3⟩ := r.tickA_any (late := late)
            refine ⟨_, rfl, p, L.dx, _, rfl, h.hp, sh_m5 _ _ _ _ _ _ _ _, _, rfl, _, rfl, _, 2, rfl, rfl, (by show (0 : Int) < 2; decide), rfl, rfl, rfl, G, p, S1.tickA late, true, late, ?_, a3, okS r3 ((tickA_sent S1 late).1.trans es1), fun H4 a4 => ?_⟩
            · rw [sg_b, hlate]; rfl
            · exact ⟨(S1.tickA late).tickB late, _, rfl, a4, rfl⟩
          | i + 2, hc =>
            exfalso
            have := (Array.getElem?_eq_some_iff.mp hc).1
            rw [ab_n] at this
            omega
        · rintro σ H3 ⟨S2, u6, rfl, a3, e2⟩
          have e2 : S2 = (S1.tickA late).tickB late := e2
          subst e2
          exact ⟨_, v2, j2, _, _, rfl, a3, r2, (tickA_sent S1 late).1.trans es1, by omega⟩
      rintro σ H2 ⟨S1, v1, j1, u5, u6, rfl, a2, r2, es1, hmu⟩
      have hj : j1 = 2 * d + 3 := mu_zero r2 (by omega)
      have hrd : S1.ready = true := r2.ready_iff.mpr hj
      have hsg : S1.sent = S1.got := r2.all_got (by omega)
      have ok1 := okS r2 es1
      obtain ⟨L, h⟩ := id a2
      -- is it ready, and nothing on its way
      refine ⟨_, rfl, p, L.dx, _, rfl, h.hp, sh_m1 _ _ _ _ _ _ _ _, G, p, S1, rfl, a2, S1.ready, rfl, ?_⟩
      rw [hrd]
      refine iteF ⟨_, rfl, p, L.dx, _, rfl, h.hp, G, p, S1, rfl, a2, ok1, fun l o hlo => ⟨_, rfl, (by have := ok1.s; omega), rfl, _, rfl, ?_⟩⟩
      have a3 := a2.more (same_new (o := o) hlo)
      rw [dI, hsg, Nat.sub_self]
      refine iteF ?_
      obtain ⟨L3, h3⟩ := id a3
      refine ⟨_, rfl, p, L3.dx, _, rfl, h3.hp, sh_m2 _ _ _ _ _ _ _ _, _, rfl, G, p, S1, x, rfl, a3, ok1, hxb.1, hxb.2, hrd, fun H4 a4 => ?_⟩
      have led0 := led_start r2 hrd x
      have es4 : (S1.send x).sent = S.sent ++ [x] := by show S1.sent ++ [x] = _; rw [es1]
      -- the word on its way
      refine ⟨fun n σ H5 => ∃ (k : Nat) (S5 : Sh), σ = [some (.ref p), some (.ref lw), some (.ref ll), some (.int (d : Int)), some (.int x), u5, u6, some (.int (k : Int))] ∧ n = 9 - k ∧ k ≤ d + 2 ∧ ShakeAt CS C G H5 p S5 ∧ Led d S5 (1 - v1) k ∧ S5.sent = S.sent ++ [x], ⟨_, 0, S1.send x, rfl, rfl, by omega, a4, led0, es4⟩, ?_⟩
      rintro n σ H5 ⟨k5, S5, rfl, rfl, hk5, a5, led5, es5⟩
      obtain ⟨j5, r5⟩ := led_ring led5
      have len5 : S5.sent.length = S.sent.length + 1 := by rw [es5, List.length_append, List.length_singleton]
      have ok5 : Ok S5 := Ok.of r5 (by omega) (by omega)
      obtain ⟨L5, h5⟩ := id a5
      refine ⟨_, rfl, p, L5.dx, _, rfl, h5.hp, G, p, S5, rfl, a5, ok5, fun l o hlo => ⟨_, rfl, (by have := ok5.s; omega), rfl, _, rfl, ?_⟩⟩
      have a6 := a5.more (same_new (o := o) hlo)
      rw [dI]
      by_cases hk : k5 < d + 2
      · have e1 : ((S5.sent.length - S5.got.length : Nat) : Int) = 1 := by
          rw [(led_len led5).1 hk, List.length_append, List.length_singleton]
          omega
        rw [decide_eq_true e1]
        refine iteT ⟨_, rfl, (k5 : Int), 9, rfl, rfl, _, rfl, ?_⟩
        rw [show decide ((k5 : Int) < 9) = true from decide_eq_true (by omega)]
        refine iteT ⟨fun σ' H' => ∃ S6, σ' = [some (.ref p), some (.ref lw), some (.ref ll), some (.int (d : Int)), some (.int x), u5, u6, some (.int ((k5 + 1 : Nat) : Int))] ∧ ShakeAt CS C G H' p S6 ∧ Led d S6 (1 - v1) (k5 + 1) ∧ S6.sent = S.sent ++ [x], ?_, ?_⟩
        · rintro σ' H' ⟨S6, rfl, a7, led6, es6⟩
          exact ⟨9 - (k5 + 1), by omega, k5 + 1, S6, rfl, rfl, by omega, a7, led6, es6⟩
        · obtain ⟨L6, h6⟩ := id a6
          have eb : decide (V.int (k5 : Int) = V.int 0) = decide (k5 = 0) := by
            rw [dI]
            by_cases z : k5 = 0
            · rw [decide_eq_true z, decide_eq_true (by omega)]
            · rw [decide_eq_false z, decide_eq_false (by omega)]
          refine ⟨_, rfl, p, L6.dx, _, rfl, h6.hp, sh_m5 _ _ _ _ _ _ _ _, _, rfl, rfl, rfl, rfl, G, p, S5, true, decide (k5 = 0), ?_, a6, ok5, fun H7 a7 => ?_⟩
          · rw [eb]; rfl
          · refine ⟨_, rfl, (k5 : Int), 1, rfl, rfl, S5.tickB (decide (k5 = 0)), rfl, a7, led_tick led5 hk, es5⟩
      · have ek : k5 = d + 2 := by omega
        have e0 : ((S5.sent.length - S5.got.length : Nat) : Int) = 0 := by
          rw [(led_len led5).2 ek]
          omega
        rw [e0, show decide ((0 : Int) = 1) = false from rfl]
        refine iteF (iteF ?_)
        refine ⟨_, rfl, _, rfl, (d : Int), 2, rfl, rfl, rfl, _, rfl, ?_⟩
        rw [show decide (V.int (k5 : Int) = V.int ((d : Int) + 2)) = true by rw [dI]; exact decide_eq_true (by omega)]
        refine iteF ⟨S5, _, j5, _, _, _, _, rfl, a6, r5, ?_, fun _ => ((led_len led5).2 ek).symm⟩
        rw [es5, es, List.take_succ, hz, List.append_assoc]
        rfl
    · rintro σ H' ⟨S, v, j, u4, u5, u6, u7, rfl, a, r, es, eg⟩
      have elen : ((left ++ [7]).map V.int).length = (left ++ [7]).length := List.length_map _
      rw [elen, List.take_length] at es
      have eg := eg (by rw [elen, List.length_append, List.length_singleton]; omega)
      have ew : S.got = words ++ [7] := by rw [eg, es, ← esl, List.append_assoc]
      obtain ⟨L, h⟩ := id a
      have hwH := a.same _ _ hw2
      refine ⟨_, rfl, p, L.dx, _, rfl, h.hp, sh_m7 _ _ _ _ _ _ _ _, G, p, S, rfl, a, fun l hl3 => ?_⟩
      have nwl : lw ≠ l := ne_of_none hwH hl3
      refine ⟨_, rfl, (by show 1 ≤ sizeLine; decide), fun e2 he2 => ?_⟩
      have nwe : lw ≠ e2 := ne_of_none (by rw [upd_ne nwl]; exact hwH) he2
      have nlE : l ≠ e2 := ne_of_none upd_same he2
      refine ⟨lw, e2, _, _, rfl, rfl, (by rw [upd_ne nwe, upd_ne nwl]; exact hwH), upd_same, ?_, fun l3 hl33 => ?_⟩
      · rw [List.length_map]
        exact Nat.le_of_lt (small1000 (by show words.length + 1 ≤ 1000; omega))
      have nll3 : l ≠ l3 := ne_of_none (by rw [upd_ne nlE]; exact upd_same) hl33
      have nwl3 : lw ≠ l3 := ne_of_none (by rw [upd_ne nwe, upd_ne nwl]; exact hwH) hl33
      have h7w : words.map V.int ++ [V.int 7] = (words ++ [7]).map V.int := by rw [List.map_append]; rfl
      rw [h7w, ew]
      refine ⟨.list ((words ++ [7]).map PyData.int), .list ((words ++ [7]).map PyData.int), .lst (SqL.of (by rw [upd_ne nll3, upd_ne nlE]; exact upd_same)) (dpAll _), .lst (SqL.of upd_same) (dpAll _), shaped_ints _, shaped_ints _, _, rfl, ?_⟩
      rw [eqv_same]
      refine iteT ?_
      -- without ticks nothing is led over
      have hw3 : (upd (upd (upd H' l (HO.lst ((words ++ [7]).map V.int))) e2 (HO.lst [V.int 7])) l3 (HO.lst ((words ++ [7]).map V.int))) lw = some (.lst (words.map V.int)) := by rw [upd_ne nwl3, upd_ne nwe, upd_ne nwl]; exact hwH
      generalize upd (upd (upd H' l (HO.lst ((words ++ [7]).map V.int))) e2 (HO.lst [V.int 7])) l3 (HO.lst ((words ++ [7]).map V.int)) = H8 at hw3
      refine ⟨_, rfl, Nat.zero_le _, fun e3 he3 => ⟨_, rfl, rfl, rfl, lw, e3, d, 2, words, [], rfl, (by rw [upd_ne (ne_of_none hw3 he3)]; exact hw3), hws, hwl, ⟨[], upd_same, rfl, fun i r t z _ => nomatch z⟩, Nat.zero_le _, hd1, by omega, .inl rfl, fun H9 l9 _ _ h9 => ?_⟩⟩
      refine ⟨Nat.zero_le _, fun e4 he4 => ?_⟩
      have n94 : l9 ≠ e4 := ne_of_none h9 he4
      refine ⟨.list [], .list [], .lst (SqL.of (by rw [upd_ne n94]; exact h9)) .nil, .lst (SqL.of upd_same) .nil, shaped_nil, shaped_nil, ?_⟩
      exact k _
end
end Dgw

namespace Dgw
open PySem L2 DgR Dg
/-! ### what the law's loop needs -/
section
variable {CS C : Addr} {F G H H' : Hp} {p : Addr} {S : Sh}
/-- a thing made and changed since is taken into the frame -/
theorem ShakeAt.adopt (h : ShakeAt CS C F H p S) {t : Addr} {o : HO} (n : H t = none) (e : Same H H') (ht : H' t = some o) : ShakeAt CS C (upd F t o) H' p S := by
  obtain ⟨L, h⟩ := h
  refine ⟨L, h.move (fun b u q => ?_) fun b u hb fb => ?_⟩
  · by_cases z : b = t
    · subst z
      rw [upd_same] at q
      rw [ht]
      exact q
    · rw [upd_ne z] at q
      exact e _ _ (h.same b u q)
  · have z : b ≠ t := ne_of_none hb n
    rw [upd_ne z]
    exact ⟨fb, e _ _ hb⟩
theorem TicksAt.off {lt t : Addr} {ts : List (Bool × Bool)} {o : HO} (h : TicksAt G lt ts) (z : lt ≠ t) (hn : ∀ xs, G t ≠ some (.tup xs)) : TicksAt (upd G t o) lt ts := by
  obtain ⟨rs, h1, h2, h3⟩ := h
  refine ⟨rs, by rw [upd_ne z]; exact h1, h2, fun i r u a b => ?_⟩
  have q := h3 i r u a b
  have : r ≠ t := fun e => hn _ (by rw [← e]; exact q)
  rw [upd_ne this]
  exact q
theorem TicksAt.push {lt t : Addr} {ts : List (Bool × Bool)} {b l : Bool} (h : TicksAt G lt ts) (ht : G t = some (.tup [.str (sd b), .bl l])) : ∃ xs, G lt = some (.lst xs) ∧ xs.length = ts.length ∧ TicksAt (upd G lt (.lst (xs ++ [V.ref t]))) lt (ts ++ [(b, l)]) := by
  obtain ⟨rs, h1, h2, h3⟩ := h
  refine ⟨_, h1, by rw [List.length_map]; exact h2, rs ++ [t], by rw [upd_same, List.map_append]; rfl, by rw [List.length_append, List.length_append, h2]; rfl, fun i r u a c => ?_⟩
  have tup : ∀ {r : Addr} {xs : List V}, G r = some (.tup xs) → r ≠ lt := fun q z => by
    rw [z, h1] at q
    cases q
  by_cases hi : i < rs.length
  · rw [List.getElem?_append_left hi] at a
    rw [List.getElem?_append_left (by omega)] at c
    have q := h3 i r u a c
    rw [upd_ne (tup q)]
    exact q
  · have hi2 : i < (rs ++ [t]).length := (List.getElem?_eq_some_iff.mp a).1
    rw [List.length_append, List.length_singleton] at hi2
    have e : i = rs.length := by omega
    subst e
    rw [List.getElem?_append_right (Nat.le_refl _), Nat.sub_self] at a
    rw [List.getElem?_append_right (by omega), h2, Nat.sub_self] at c
    cases a
    cases c
    rw [upd_ne (tup ht)]
    exact ht
end
section
variable {K : PySem.W.Frag} {CS C : Addr}
/-- the first rows of the turn: a word is sent where one is left and can be -/
def tFeed (K : PySem.W.Frag) (CS C : Addr) : TS :=
  tIfS (tAnd (tTest (tOp (rNeD K) (tVar 7) (tLst tNil))) (tB (tMeth C "is_ready" (spReady CS C) [] E0 (tVar 3) tNil)))
    (tSeq (tIfS (tTest (tOp rNe (tCB (rLenO C (spLen CS C) E0) (tCons (tVar 3) tNil)) (tC (.int 0)))) (tRet (tC (.bl false))) tNext)
      (tDrop (tMeth C "send" (spSend CS C) [] E0 (tVar 3) (tCons (tBM K "list" rPopAt (tVar 7) (tCons (tC (.int 0)) tNil)) tNil)))) tNext
theorem feed_run {σ : St} {D : Ends} {Hb G H' : Hp} {p ll lt : Addr} {S : Sh} {left words : List Int} {d : Nat} {v : Int} {j : Nat} {ts : List (Bool × Bool)} (h3 : σ[3]? = some (some (V.ref p))) (h7 : σ[7]? = some (some (V.ref ll)))
    (a : ShakeAt CS C G H' p S) (r : R d S v j) (hd : d ≤ 1000) (sb : Same Hb G) (bl : Hb ll = none) (gl : G ll = some (.lst (left.map V.int))) (ht : TicksAt G lt ts) (nlt : lt ≠ ll) (es : S.sent ++ left = words) (hws : ∀ x ∈ words, 0 ≤ x ∧ x ≤ 255) (hwl : words.length ≤ 100)
    (nx : ∀ G1 H1 S1 l1 v1 j1, Same Hb G1 → G1 ll = some (.lst (l1.map V.int)) → TicksAt G1 lt ts → ShakeAt CS C G1 H1 p S1 → R d S1 v1 j1 → S1.sent ++ l1 = words → (∀ b l, feed1 (S, left) (b, l) = (S1.tick b l, l1)) → D.nx σ H1) : tFeed K CS C D σ H' := by
  have hsl : S.sent.length + left.length = words.length := by
    have := congrArg List.length es
    rw [List.length_append] at this
    exact this
  have ok : Ok S := Ok.of r hd (by omega)
  refine ⟨_, h7, Nat.zero_le _, fun e he => ?_⟩
  have nle : ll ≠ e := ne_of_none (a.same _ _ gl) he
  have a1 := a.more (same_new (o := HO.lst []) he)
  have gl1 : (upd H' e (HO.lst [])) ll = some (.lst (left.map V.int)) := by rw [upd_ne nle]; exact a.same _ _ gl
  refine ⟨.list (left.map PyData.int), .list [], .lst (SqL.of gl1) (dpAll _), .lst (SqL.of upd_same) .nil, shaped_ints _, shaped_nil, _, rfl, ?_⟩
  rw [eqv_nil]
  cases left with
  | nil => exact iteF (iteF (nx _ _ S [] v j sb gl ht a1 r es (fun b l => rfl)))
  | cons y rest =>
    obtain ⟨L, h⟩ := id a1
    refine iteT ⟨_, h3, p, L.dx, _, rfl, h.hp, sh_m1 _ _ _ _ _ _ _ _, G, p, S, rfl, a1, S.ready, rfl, ?_⟩
    refine ite2 (fun hrd => ?_) (fun hrd => ?_)
    · have hj := r.ready_iff.mp hrd
      have hsg : S.sent = S.got := r.all_got (by omega)
      refine ⟨_, h3, p, L.dx, _, rfl, h.hp, G, p, S, rfl, a1, ok, fun l o hlo => ⟨_, rfl, (by have := ok.s; omega), rfl, _, rfl, ?_⟩⟩
      have a2 := a1.more (same_new (o := o) hlo)
      have gl2 := a2.same _ _ gl
      rw [show (!decide (V.int ((S.sent.length - S.got.length : Nat) : Int) = V.int 0)) = false by rw [dI, hsg, Nat.sub_self]; rfl]
      refine iteF ?_
      obtain ⟨L2, h2⟩ := id a2
      have hy : 0 ≤ y ∧ y ≤ 255 := hws y (by rw [← es]; simp)
      refine ⟨_, h3, p, L2.dx, _, rfl, h2.hp, sh_m2 _ _ _ _ _ _ _ _, _, h7, .inl ⟨rfl, _, SqL.of gl2⟩, ll, _, 0, 0, V.int y, rfl, rfl, gl2, by decide, by decide, by simp [seqIndex?], rfl, ?_⟩
      have a3 := a2.put (t := ll) (o := HO.lst ((V.int y :: rest.map V.int).eraseIdx 0)) gl
      refine ⟨_, p, S, y, rfl, a3, ok, hy.1, hy.2, hrd, fun H5 a4 => ?_⟩
      refine nx _ _ (S.send y) rest _ _ (same_upd sb bl) upd_same (ht.off nlt fun xs q => by rw [gl] at q; cases q) a4 (r.send hrd y).1 ?_ fun b l => ?_
      · show (S.sent ++ [y]) ++ rest = words
        rw [List.append_assoc]
        exact es
      · unfold feed1
        exact if_pos hrd
    · refine nx _ _ S (y :: rest) v j sb gl ht a1 r es fun b l => ?_
      unfold feed1
      exact if_neg hrd
/-- told is None just where no word was got -/
theorem told_len (S : Sh) (b l : Bool) : decide (told S b = V.non) = decide (V.int ((((S.tick b l).got.map V.int).length : Nat) : Int) = V.int (((S.got.map V.int).length : Nat) : Int)) := by
  rw [dI, tick_got, List.length_map, List.length_map]
  unfold told
  by_cases h : (b && S.isNew) = true
  · rw [if_pos h, if_pos h, List.length_append, List.length_singleton, decide_eq_false (by intro z; cases z), decide_eq_false (by omega)]
  · rw [if_neg h, if_neg h, decide_eq_true rfl, decide_eq_true rfl]
/-- the look at a word that tick told -/
def tTold (K : PySem.W.Frag) (CS C : Addr) : TS :=
  tIfS (tAnd (tB (tNotN (tVar 12))) (tOr (tTest (tOp rNe (tVar 9) (tC (.str "b")))) (tTest (tOp rNe (tOp (rIxL K) (tMeth C "words_got" (spGot CS C) [] E0 (tVar 3) tNil) (tUn (rU fun i => .int (-i)) (tC (.int 1)))) (tVar 12))))) (tRet (tC (.bl false))) tNext
theorem told_run {σ : St} {D : Ends} {G H : Hp} {p : Addr} {S : Sh} {b l : Bool} (h3 : σ[3]? = some (some (V.ref p))) (h9 : σ[9]? = some (some (V.str (sd b)))) (h12 : σ[12]? = some (some (told S b)))
    (a : ShakeAt CS C G H p (S.tick b l)) (nx : ∀ H', ShakeAt CS C G H' p (S.tick b l) → D.nx σ H') : tTold K CS C D σ H := by
  refine ⟨_, h12, _, rfl, ?_⟩
  by_cases h : (b && S.isNew) = true
  · have et : told S b = V.int S.word := if_pos h
    have eg : (S.tick b l).got = S.got ++ [S.word] := by rw [tick_got, if_pos h]
    have hb : b = true := by
      cases b with
      | true => rfl
      | false => cases h
    rw [et]
    refine iteT ⟨_, h9, rfl, _, rfl, ?_⟩
    rw [hb, show (!decide (V.str (sd true) = V.str "b")) = false by decide +kernel]
    obtain ⟨L, q⟩ := id a
    refine iteF ⟨_, h3, p, L.dx, _, rfl, q.hp, sh_m7 _ _ _ _ _ _ _ _, G, p, _, rfl, a, fun l1 hl1 => ⟨1, rfl, l1, _, _, V.int S.word, rfl, rfl, SqL.of upd_same, ?_, _, h12, ?_⟩⟩
    · rw [eg, List.map_append]
      exact atI_last _ _
    · rw [et]
      refine ⟨rfl, _, rfl, ?_⟩
      rw [show (!decide (V.int S.word = V.int S.word)) = false by simp]
      exact iteF (nx _ (a.more (same_new hl1)))
  · have et : told S b = V.non := if_neg h
    rw [et]
    exact iteF (iteF (nx _ a))
theorem cut_got {S : Sh} (h : S.sent = S.got ∨ S.sent = S.got ++ [S.word]) : cutV (S.sent.map V.int) none (some (((S.got.map V.int).length : Nat) : Int)) = S.got.map V.int := by
  have q : ∃ ys, S.sent = S.got ++ ys := h.elim (fun z => ⟨[], by rw [z, List.append_nil]⟩) fun z => ⟨_, z⟩
  obtain ⟨ys, e⟩ := q
  unfold cutV
  rw [HT.sIx_none, HT.sIx_nat, e, List.map_append, List.length_append, List.drop_zero, Nat.sub_zero, Nat.min_eq_left (Nat.le_add_right _ _), List.take_left']
  rfl
theorem sub_in {S : Sh} (h : S.sent = S.got ∨ S.sent = S.got ++ [S.word]) : (if true = true then !inV (V.int ((((S.sent.map V.int).length : Nat) : Int) - (((S.got.map V.int).length : Nat) : Int))) [V.int 0, V.int 1] else inV (V.int ((((S.sent.map V.int).length : Nat) : Int) - (((S.got.map V.int).length : Nat) : Int))) [V.int 0, V.int 1]) = false := by
  have q : ((((S.sent.map V.int).length : Nat) : Int) - (((S.got.map V.int).length : Nat) : Int)) = 0 ∨ ((((S.sent.map V.int).length : Nat) : Int) - (((S.got.map V.int).length : Nat) : Int)) = 1 := by
    rw [List.length_map, List.length_map]
    rcases h with z | z
    · rw [z]; omega
    · rw [z, List.length_append, List.length_singleton]; omega
  rcases q with z | z <;> rw [z] <;> rfl
theorem len_sub {S : Sh} (h : S.sent = S.got ∨ S.sent = S.got ++ [S.word]) : (((S.sent.length - S.got.length : Nat)) : Int) = (((S.sent.map V.int).length : Nat) : Int) - (((S.got.map V.int).length : Nat) : Int) := by
  rw [List.length_map, List.length_map]
  rcases h with z | z
  · rw [z]; omega
  · rw [z, List.length_append, List.length_singleton]; omega
theorem eqv_ne (xs : List Int) : (!PyData.eqv (.list (xs.map PyData.int)) (.list (xs.map PyData.int))) = false := by rw [eqv_same]; rfl
end
end Dgw

namespace Dgw
open PySem L2 DgR Dg
/-! ### the law -/
abbrev nLaw : List Str := ["_law_script", "_law_depth", "_law_beats", "_law_shake", "_law_share", "_law_k", "_law_words", "_law_left", "_law_ticks", "_law_side", "_law_is_late", "_law_many", "_law_told", "_law_sent", "_law_got"]
def spLaw (K : PySem.W.Frag) : Sp := fun vs H Q _ => ∃ (a : Addr) (ns : List Int), vs = [.ref a] ∧ SqL K H a (ns.map V.int) ∧ ns.length ≤ 63 ∧ ∀ H', Q (.bl true) H'
section
variable {P : Program} {w : World} {K : PySem.W.Frag} {mg : Str → Option Value} {base : Heap} {CS C : Addr}
theorem scLaw : FnScope nLaw ["_law_script"] (defScope sLaw) := ⟨rfl, rfl, rfl, by decide +kernel, rfl, by decide +kernel, by decide +kernel⟩
theorem ok_law {f fO fD fE : Addr} {fd fdO fdD fdE : FuncData} (F : Fun K "law" "law" sLaw f fd) (Y : Lib P w K mg base CS C) (O : Over P w K mg base fO fdO)
    (Dr : Cal P w K mg base 1 "_law_drawn" ["_law_script", "_law_k", "_law_many"] (spDrawn K) fD fdD) (Le : Cal P w K mg base 6 "_law_led" ["_law_shake", "_law_words", "_law_left", "_law_depth"] (spLed CS C) fE fdE) : FnOk P w K mg base CX0 7 f fd ["_law_script"] (spLaw K) := by
  refine F.ok scLaw (fun vs H Q E h => ?_) (fun cdv A outer s H vs Q E hr h => ?_)
  · obtain ⟨a, ns, rfl, _⟩ := h
    rfl
  · obtain ⟨a, ns, rfl, hq, hl, k⟩ := h
    have hr1 : Room 1 _ := hr.mono (by decide)
    have hr2 : Room 2 _ := hr.mono (by decide)
    have hr3 : Room 3 _ := hr.mono (by decide)
    have hr4 : Room 4 _ := hr.mono (by decide)
    have hr5 : Room 5 _ := hr.mono (by decide)
    have T := Y.sk
    have B := Y.bl
    obtain ⟨fM, fdM, gM, MK, GM, bM⟩ := Y.made
    obtain ⟨fR, fdR, MR⟩ := Y.ready
    obtain ⟨fS, fdS, MS⟩ := Y.send
    obtain ⟨fT, fdT, gT, mT, GT, bT⟩ := Y.tick
    obtain ⟨fG, fdG, MG⟩ := Y.got
    obtain ⟨fW, fdW, MW⟩ := Y.sent
    obtain ⟨fL, fdL, GL, hL1, hL2, bL⟩ := Y.len
    obtain ⟨gO, bO⟩ := O.b2
    refine ⟨_, pss_cons (ps_par (i := 1) (j := 2) rfl scLaw.nd rfl rfl (by decide) rfl rfl
        (pa_cons (pe_op op_add pe_int (pe_call Dr.ok hr1 (by rfl) Dr.mg Dr.kp Dr.bd .nil pass0 (pa_cons (pv 0) (pa_cons pe_int (pa_cons pe_int pa_nil)))))
          (pa_cons (pe_ix ix_list (pe_lst (pa_cons pe_int (pa_cons pe_int pa_nil))) (pe_call Dr.ok hr1 (by rfl) Dr.mg Dr.kp Dr.bd .nil pass0 (pa_cons (pv 0) (pa_cons pe_int (pa_cons pe_int pa_nil)))) (fun _ _ => rfl)) pa_nil)) (by rfl))
      (pss_cons (ps_par (i := 3) (j := 4) rfl scLaw.nd rfl rfl (by decide) rfl rfl
        (pa_cons (pe_makeK0 MK GM hr4 (by rfl) Y.mC bM pass0 (pk_cons (pv 1) (pk_cons (pv 2) pk_nil)))
          (pa_cons (pe_op op_add pe_int (pe_call Dr.ok hr1 (by rfl) Dr.mg Dr.kp Dr.bd .nil pass0 (pa_cons (pv 0) (pa_cons pe_int (pa_cons pe_int pa_nil))))) pa_nil)) (by rfl))
      (pss_cons (ps_setLc (i := 6) (own := [("_law_k", 5)]) (g := gName 5) (tt := tYes) (te := tCall (spDrawn K) [] E0 (tCons (tVar 0) (tCons (tOp xAdd (tC (.int 10)) (tVar 5)) (tCons (tC (.int 256)) tNil)))) rfl scLaw.nd rfl rfl (sw_true rfl rfl rfl (by decide +kernel))
          (pi_range1 (by rfl) B.range (pa_cons (pe_op op_add pe_int (pe_call Dr.ok hr1 (by rfl) Dr.mg Dr.kp Dr.bd .nil pass0 (pa_cons (pv 0) (pa_cons pe_int (pa_cons pe_int pa_nil))))) pa_nil))
          (blkOk_by (N := nLaw) (sc := defScope sLaw) (by decide +kernel)) (fun _ _ _ _ _ => pg_name (i := 5) scLaw.nd rfl (Or.inl rfl)) (fun _ _ _ _ _ => pts_nil)
          (fun _ _ _ _ _ => pe_call Dr.ok hr1 (by rfl) Dr.mg Dr.kp Dr.bd .nil pass0 (pa_cons (pv 0) (pa_cons (pe_op op_add pe_int (pv 5)) (pa_cons pe_int pa_nil)))))
      (pss_cons (ps_par (i := 7) (j := 8) rfl scLaw.nd rfl rfl (by decide) rfl rfl (pa_cons (pe_callTy call_list_of (by rfl) B.list b_list (pa_cons (pv 6) pa_nil)) (pa_cons (pe_lst pa_nil) pa_nil)) (by rfl))
      (pss_cons (ps_for PassesOwn.never rfl (pi_range1 (by rfl) B.range (pa_cons (pe_op op_add pe_int (pe_call Dr.ok hr1 (by rfl) Dr.mg Dr.kp Dr.bd .nil pass0 (pa_cons (pv 0) (pa_cons pe_int (pa_cons pe_int pa_nil))))) pa_nil)) (pg_name (i := 5) scLaw.nd rfl (Or.inl rfl))
        (pss_cons (ps_if (PW.pt (pw_and (pt_cmpR (op_neD hr.units) (pv 7) (pe_lst pa_nil) (nomark _)) (pw_and1 (pt_val (pe_meth0 (pv 3) T.cl MR.mt MR.ok hr1 MR.bd .nil pass0)))))
          (pss_cons (ps_if (pt_cmpR op_ne (pe_callB (call_lenO GL hr2 hL1 hL2 bL pass0) (by rfl) B.len b_len (pa_cons (pv 3) pa_nil)) pe_int (nomark _)) (pss_one (ps_ret pe_bl)) pss_nil)
            (pss_one (ps_expr (pe_meth (pv 3) T.cl MS.mt MS.ok hr3 MS.bd .nil pass0 (pa_cons (pe_bm PySem.F.plainAttrs_list PySem.F.slot_list_pop PySem.F.type_list_pop mt_popAt (pv 7) (pa_cons pe_int pa_nil)) pa_nil))))) pss_nil)
        (pss_cons (ps_par (i := 9) (j := 10) rfl scLaw.nd rfl rfl (by decide) rfl rfl
          (pa_cons (pe_ix ix_str pe_str (pe_callTy call_int1 (by rfl) B.int b_int (pa_cons (pe_cmpR op_lt (pe_call Dr.ok hr1 (by rfl) Dr.mg Dr.kp Dr.bd .nil pass0 (pa_cons (pv 0) (pa_cons (pe_op op_add pe_int (pv 5)) (pa_cons pe_int pa_nil)))) (pv 4) (nomark _)) pa_nil)) (fun _ _ => rfl))
            (pa_cons (pe_cmpR op_eq (pe_call Dr.ok hr1 (by rfl) Dr.mg Dr.kp Dr.bd .nil pass0 (pa_cons (pv 0) (pa_cons (pe_op op_add pe_int (pv 5)) (pa_cons pe_int pa_nil)))) pe_int (nomark _)) pa_nil)) (by rfl))
        (pss_cons (ps_set (i := 11) scLaw.nd rfl (Or.inl rfl) (pe_callB call_len_seq (by rfl) B.len b_len (pa_cons (pe_meth0 (pv 3) T.cl MG.mt MG.ok hr1 MG.bd .nil pass0) pa_nil)))
        (pss_cons (ps_set (i := 12) scLaw.nd rfl (Or.inl rfl) (pe_methN (pv 3) T.cl mT GT hr3 bT pass0 (pa_cons (pv 9) pa_nil) (pk_cons (pv 10) pk_nil)))
        (pss_cons (ps_expr (pe_bm PySem.F.plainAttrs_list PySem.F.slot_list_append PySem.F.type_list_append mt_append (pv 8) (pa_cons (pe_tup (pa_cons (pv 9) (pa_cons (pv 10) pa_nil))) pa_nil)))
        (pss_cons (ps_if (pt_cmpR op_ne (pe_cmp (pc_isN (pv 12))) (pe_cmpR op_eq (pe_callB call_len_seq (by rfl) B.len b_len (pa_cons (pe_meth0 (pv 3) T.cl MG.mt MG.ok hr1 MG.bd .nil pass0) pa_nil)) (pv 11) (nomark _)) (nomark _)) (pss_one (ps_ret pe_bl)) pss_nil)
        (pss_cons (ps_if (PW.pt (pw_and (pt_cmp (pc_notN (pv 12))) (pw_and1 (PW.pt (pw_or (pt_cmpR op_ne (pv 9) pe_str (nomark _)) (pw_or1 (pt_cmpR op_ne (pe_ix ix_list (pe_meth0 (pv 3) T.cl MG.mt MG.ok hr1 MG.bd .nil pass0) (pe_un un_neg pe_int) (fun _ _ => rfl)) (pv 12) (nomark _)))))))) (pss_one (ps_ret pe_bl)) pss_nil)
        (pss_cons (ps_par (i := 13) (j := 14) rfl scLaw.nd rfl rfl (by decide) rfl rfl (pa_cons (pe_meth0 (pv 3) T.cl MW.mt MW.ok hr1 MW.bd .nil pass0) (pa_cons (pe_meth0 (pv 3) T.cl MG.mt MG.ok hr1 MG.bd .nil pass0) pa_nil)) (by rfl))
        (pss_cons (ps_if (PW.pt (pw_or (pt_cmpR (op_neD hr.units) (pv 14) (pe_slice sl_list (pv 13) po_none (po_some (pe_callB call_len_seq (by rfl) B.len b_len (pa_cons (pv 14) pa_nil)))) (nomark _))
            (pw_or1 (pt_cmpR op_notIn_seq (pe_op op_sub (pe_callB call_len_seq (by rfl) B.len b_len (pa_cons (pv 13) pa_nil)) (pe_callB call_len_seq (by rfl) B.len b_len (pa_cons (pv 14) pa_nil))) (pe_tup (pa_cons pe_int (pa_cons pe_int pa_nil))) (by rfl))))) (pss_one (ps_ret pe_bl)) pss_nil)
        (pss_one (ps_if (pt_cmpR op_ne (pe_callB (call_lenO GL hr2 hL1 hL2 bL pass0) (by rfl) B.len b_len (pa_cons (pv 3) pa_nil)) (pe_op op_sub (pe_callB call_len_seq (by rfl) B.len b_len (pa_cons (pv 13) pa_nil)) (pe_callB call_len_seq (by rfl) B.len b_len (pa_cons (pv 14) pa_nil))) (nomark _)) (pss_one (ps_ret pe_bl)) pss_nil))))))))))))
      (pss_cons (ps_if (pt_cmpR (op_neD hr.units) (pe_callN O.ok hr5 (by rfl) O.mg O.kp bO pass0 (pa_cons (pv 6) (pa_cons (pv 8) pa_nil)) (pk_cons (pv 1) (pk_cons (pv 2) pk_nil))) (pe_meth0 (pv 3) T.cl MG.mt MG.ok hr1 MG.bd .nil pass0) (nomark _)) (pss_one (ps_ret pe_bl)) pss_nil)
      (pss_cons (ps_if (pt_cmpR (op_neD hr.units) (pe_op op_cat (pe_meth0 (pv 3) T.cl MW.mt MW.ok hr1 MW.bd .nil pass0) (pv 7)) (pv 6) (nomark _)) (pss_one (ps_ret pe_bl)) pss_nil)
      (pss_one (ps_ret (pe_call Le.ok hr (by rfl) Le.mg Le.kp Le.bd .nil pass0 (pa_cons (pv 3) (pa_cons (pv 6) (pa_cons (pv 7) (pa_cons (pv 1) pa_nil))))))))))))), ?_⟩
    -- depth, beats
    refine ⟨_, rfl, a, ns, 0, 4, rfl, hq, hl, by decide, by decide, fun H1 r1 s1 r10 r11 => ⟨_, _, rfl, rfl, (by show 2 ≤ sizeLine; decide), fun t ht => ?_⟩⟩
    have st := same_new (o := HO.lst [V.int 2, V.int 4]) ht
    refine ⟨_, rfl, a, ns, 1, 2, rfl, (s1.trans st).seq hq, hl, by decide, by decide, fun H2 r2 s2 r20 r21 => ?_⟩
    obtain ⟨ph, hph, hat⟩ : ∃ ph : Int, (ph = 2 ∨ ph = 4) ∧ atI [V.int 2, V.int 4] r2 = some (V.int ph) := by
      rcases (show r2 = 0 ∨ r2 = 1 by omega) with z | z
      · exact ⟨2, .inl rfl, by rw [z]; rfl⟩
      · exact ⟨4, .inr rfl, by rw [z]; rfl⟩
    obtain ⟨d, hde, hd1, hd4⟩ : ∃ d : Nat, 1 + r1 = (d : Int) ∧ 1 ≤ d ∧ d ≤ 4 := ⟨(1 + r1).toNat, by omega, by omega, by omega⟩
    have sH2 := (s1.trans st).trans s2
    refine ⟨t, _, _, _, rfl, rfl, SqL.of (s2 _ _ upd_same), hat, V.int (d : Int), V.int ph, (by show [V.int (1 + r1), V.int ph] = _; rw [hde]), ?_⟩
    -- shake, share
    refine ⟨_, rfl, _, rfl, rfl, rfl, fun p dx np ndx ne => ⟨H2, p, dx, d, ph, rfl, (same_new ndx).trans (same_new (by rw [upd_ne ne.symm]; exact np)), np, upd_same, hd1, by omega, hph, fun H3 g3 => ⟨rfl, ?_⟩⟩⟩
    refine ⟨_, rfl, a, ns, 2, 9, rfl, (sH2.trans g3.same).seq hq, hl, by decide, by decide, fun H4 r4 s4 r40 r41 => ⟨_, _, rfl, rfl, _, V.int (1 + r4), rfl, ?_⟩⟩
    have g4 := g3.more s4
    generalize 1 + r4 = sh
    -- words
    refine ⟨_, rfl, a, ns, 3, 6, rfl, (sH2.trans g4.same).seq hq, hl, by decide, by decide, fun H5 r5 s5 r50 r51 => ⟨_, _, rfl, rfl, 1 + r5, rfl, by omega, by omega, fun lw hlw => ?_⟩⟩
    have g5 := g4.more s5
    refine lc_range (lo := 0) (n := (1 + r5).toNat) (fun i H' => ∃ ws : List Int, ws.length = i ∧ (∀ x ∈ ws, 0 ≤ x ∧ x ≤ 255) ∧ Same H5 H' ∧ H' lw = some (.lst (ws.map V.int))) ⟨[], rfl, (fun x hx => absurd hx List.not_mem_nil), same_new hlw, upd_same⟩ ?_ ?_
    · rintro i H' hi ⟨ws, hwi, hwb, sw, hw⟩
      refine ⟨rfl, ?_⟩
      unfold tYes
      refine iteT ⟨_, rfl, _, rfl, _, _, rfl, rfl, a, ns, 10 + i, 256, (by show [V.ref a, V.int (10 + (0 + (i : Int))), V.int 256] = _; rw [show (10 : Int) + (0 + (i : Int)) = ((10 + i : Nat) : Int) by omega]), (sH2.trans (g5.same.trans sw)).seq hq, hl, by omega, by decide, fun H7 r s7 h0 h1 => ⟨_, s7 _ _ hw, ?_, ws ++ [r], by rw [List.length_append, hwi]; rfl, ?_, same_upd (sw.trans s7) hlw, ?_⟩⟩
      · rw [List.length_map]
        exact small1000 (by omega)
      · intro x hx
        rcases List.mem_append.mp hx with hx | hx
        · exact hwb x hx
        · rw [List.mem_singleton.mp hx]
          omega
      · rw [upd_same, List.map_append]
        rfl
    rintro H6 ⟨words, hwl, hwb, sw, hw⟩
    have hwl6 : words.length ≤ 6 := by omega
    have g6 := g5.adopt hlw sw hw
    have lw2 : H2 lw = none := g5.same.free hlw
    have sB : Same H (upd H2 lw (HO.lst (words.map V.int))) := sH2.trans (same_new lw2)
    have bw : (upd H2 lw (HO.lst (words.map V.int))) lw = some (HO.lst (words.map V.int)) := upd_same
    generalize upd H2 lw (HO.lst (words.map V.int)) = Hb at g6 sB bw
    -- left, ticks
    refine ⟨_, rfl, lw, _, rfl, .inl (SqL.of hw), fun ll hll => ⟨Nat.zero_le _, fun lt hlt => ⟨_, _, rfl, ?_⟩⟩⟩
    have g7 := g6.lay (o := HO.lst (words.map V.int)) hll
    have g8 := g7.lay (o := HO.lst []) hlt
    have nlt : lt ≠ ll := (ne_of_none upd_same hlt).symm
    have bll : Hb ll = none := g6.same.free hll
    have bG : Same Hb (upd Hb ll (HO.lst (words.map V.int))) := same_new bll
    have blt : Hb lt = none := bG.free (g7.same.free hlt)
    have bG2 : Same Hb (upd (upd Hb ll (HO.lst (words.map V.int))) lt (HO.lst [])) := same_upd bG blt
    have gl0 : (upd (upd Hb ll (HO.lst (words.map V.int))) lt (HO.lst [])) ll = some (HO.lst (words.map V.int)) := by rw [upd_ne nlt.symm]; exact upd_same
    have gt0 : TicksAt (upd (upd Hb ll (HO.lst (words.map V.int))) lt (HO.lst [])) lt [] := ⟨[], upd_same, rfl, (fun i r t z _ => nomatch z)⟩
    generalize upd (upd Hb ll (HO.lst (words.map V.int))) lt (HO.lst []) = G0 at g8 bG2 gl0 gt0
    generalize upd (upd H6 ll (HO.lst (words.map V.int))) lt (HO.lst []) = H8 at g8
    -- the loop
    refine ⟨_, rfl, a, ns, 4, 30, rfl, (sB.trans (bG2.trans g8.same)).seq hq, hl, by decide, by decide, fun H9 r9 s9 r90 r91 => ⟨_, _, rfl, rfl, 30 + r9, rfl, by omega, by omega, for_range (lo := 0) (n := (30 + r9).toNat)
      (fun i σ H' => ∃ (G : Hp) (ts : List (Bool × Bool)) (u5 u9 u10 u11 u12 u13 u14 : Option V), σ = [some (.ref a), some (.int (d : Int)), some (.int ph), some (.ref p), some (.int sh), u5, some (.ref lw), some (.ref ll), some (.ref lt), u9, u10, u11, u12, u13, u14] ∧ ts.length = i ∧ Same Hb G ∧ G ll = some (.lst ((feed d ph words ts).2.map V.int)) ∧ TicksAt G lt ts ∧ ShakeAt CS C G H' p (feed d ph words ts).1)
      ⟨G0, [], _, _, _, _, _, _, _, rfl, rfl, bG2, gl0, gt0, g8.more s9⟩ ?_ ?_⟩⟩
    · rintro i σ H' hi ⟨G, ts, u5, u9, u10, u11, u12, u13, u14, rfl, hti, sG, gl, gt, a0⟩
      obtain ⟨⟨v, j, r⟩, es, _⟩ := fed_all (words := words) hd1 hph ts
      have fsnoc := feed_snoc d ph words ts
      generalize feed d ph words ts = X at gl a0 r es fsnoc
      obtain ⟨S, left⟩ := X
      refine feed_run (K := K) (CS := CS) (C := C) rfl rfl a0 r (by omega) sG bll gl gt nlt es hwb (by omega) ?_
      intro G1 H1 S1 l1 v1 j1 sG1 gl1 gt1 a1 r1 es1 ef
      have hi60 : i < 60 := by omega
      have len1 : S1.sent.length + l1.length = words.length := by
        have := congrArg List.length es1
        rw [List.length_append] at this
        exact this
      have ok1 : Ok S1 := Ok.of r1 (by omega) (by omega)
      -- side, is_late
      refine ⟨_, rfl, _, rfl, _, _, rfl, rfl, a, ns, 20 + i, 10, (by show [V.ref a, V.int (20 + (0 + (i : Int))), V.int 10] = _; rw [show (20 : Int) + (0 + (i : Int)) = ((20 + i : Nat) : Int) by omega]), (sB.trans (sG1.trans a1.same)).seq hq, hl, by omega, by decide, fun H2 q1 s2 _ _ => ⟨_, rfl, q1, sh, rfl, rfl, .inr ⟨decide (q1 < sh), rfl, ?_⟩⟩⟩
      obtain ⟨b, c, hat2, hcb⟩ : ∃ (b : Bool) (c : Nat), atI (Str.ofString "ba").cps.toList (if decide (q1 < sh) = true then 1 else 0) = some c ∧ (⟨#[c]⟩ : Str) = sd b := by
        cases decide (q1 < sh) with
        | true => exact ⟨false, 97, by decide +kernel, sg_a⟩
        | false => exact ⟨true, 98, by decide +kernel, sg_b⟩
      have a2 := a1.more s2
      refine ⟨_, _, c, rfl, rfl, by decide, hat2, ?_⟩
      refine ⟨_, rfl, _, rfl, _, _, rfl, rfl, a, ns, 90 + i, 2, (by show [V.ref a, V.int (90 + (0 + (i : Int))), V.int 2] = _; rw [show (90 : Int) + (0 + (i : Int)) = ((90 + i : Nat) : Int) by omega]), (sB.trans (sG1.trans a2.same)).seq hq, hl, by omega, by decide, fun H3 q2 s3 _ _ => ⟨rfl, V.str (sd b), V.bl (decide (V.int q2 = V.int 0)), by rw [hcb], ?_⟩⟩
      have a3 := a2.more s3
      generalize decide (V.int q2 = V.int 0) = late
      obtain ⟨L3, h3⟩ := id a3
      -- many, told
      refine ⟨_, rfl, p, L3.dx, _, rfl, h3.hp, sh_m7 _ _ _ _ _ _ _ _, G1, p, S1, rfl, a3, fun m1 hm1 => ⟨m1, _, rfl, .inl (SqL.of upd_same), ?_⟩⟩
      have a4 := a3.more (same_new (o := HO.lst (S1.got.map V.int)) hm1)
      obtain ⟨L4, h4⟩ := id a4
      refine ⟨_, rfl, p, L4.dx, _, rfl, h4.hp, sh_m5 _ _ _ _ _ _ _ _, _, rfl, _, rfl, rfl, rfl, G1, p, S1, b, late, rfl, a4, ok1, fun H5 a5 => ?_⟩
      -- the tick is noted
      obtain ⟨rs0, hrs0, _⟩ := id gt1
      refine ⟨_, rfl, .inl ⟨rfl, _, SqL.of (a5.same _ _ hrs0)⟩, _, rfl, _, rfl, (by show 2 ≤ sizeLine; decide), fun t2 ht2 => ?_⟩
      have Gt : G1 t2 = none := a5.same.free ht2
      have a6 := a5.lay (o := HO.tup [V.str (sd b), V.bl late]) ht2
      have nt2 : lt ≠ t2 := ne_of_none hrs0 Gt
      have gt2 : TicksAt (upd G1 t2 (HO.tup [V.str (sd b), V.bl late])) lt ts := gt1.off nt2 fun xs q => by rw [Gt] at q; cases q
      obtain ⟨xs, hx1, hx2, gt3⟩ := gt2.push (b := b) (l := late) upd_same
      have a7 := a6.put (t := lt) (o := HO.lst (xs ++ [V.ref t2])) hx1
      refine ⟨lt, xs, _, rfl, rfl, a6.same _ _ hx1, small1000 (by omega), ?_⟩
      have sG3 : Same Hb (upd (upd G1 t2 (HO.tup [V.str (sd b), V.bl late])) lt (HO.lst (xs ++ [V.ref t2]))) := same_upd (same_upd sG1 (sG1.free Gt)) blt
      have gl3 : (upd (upd G1 t2 (HO.tup [V.str (sd b), V.bl late])) lt (HO.lst (xs ++ [V.ref t2]))) ll = some (HO.lst (l1.map V.int)) := by rw [upd_ne nlt.symm, upd_ne (ne_of_none gl1 Gt)]; exact gl1
      generalize upd (upd G1 t2 (HO.tup [V.str (sd b), V.bl late])) lt (HO.lst (xs ++ [V.ref t2])) = G3 at a7 gt3 sG3 gl3
      generalize upd (upd H5 t2 (HO.tup [V.str (sd b), V.bl late])) lt (HO.lst (xs ++ [V.ref t2])) = H7 at a7
      -- told is None just where no more are got
      obtain ⟨L7, h7⟩ := id a7
      refine ⟨_, rfl, _, rfl, p, L7.dx, _, rfl, h7.hp, sh_m7 _ _ _ _ _ _ _ _, G3, p, _, rfl, a7, fun m2 hm2 => ⟨m2, _, rfl, .inl (SqL.of upd_same), _, rfl, rfl, rfl, _, rfl, ite2 (fun bad => absurd bad (by rw [told_len S1 b late]; simp)) (fun _ => ?_)⟩⟩
      have a8 := a7.more (same_new (o := HO.lst ((S1.tick b late).got.map V.int)) hm2)
      refine told_run (K := K) (CS := CS) (C := C) (S := S1) (b := b) (l := late) rfl rfl rfl a8 (fun H9 a9 => ?_)
      -- sent, got
      obtain ⟨v2, j2, r2⟩ := r1.tick_any (late := late) b
      have two := r2.two
      have ok2 : Ok (S1.tick b late) := Ok.of r2 (by omega) (by rw [(tick_sent S1 b late).1]; omega)
      have es2 : (S1.tick b late).sent ++ l1 = words := by rw [(tick_sent S1 b late).1]; exact es1
      have ft : feed d ph words (ts ++ [(b, late)]) = (S1.tick b late, l1) := (fsnoc (b, late)).trans (ef b late)
      obtain ⟨L9, h9⟩ := id a9
      refine ⟨_, rfl, p, L9.dx, _, rfl, h9.hp, sh_m6 _ _ _ _ _ _ _ _, G3, p, _, rfl, a9, fun l5 hl5 => ?_⟩
      have a10 := a9.more (same_new (o := HO.lst ((S1.tick b late).sent.map V.int)) hl5)
      obtain ⟨L10, h10⟩ := id a10
      refine ⟨_, rfl, p, L10.dx, _, rfl, h10.hp, sh_m7 _ _ _ _ _ _ _ _, G3, p, _, rfl, a10, fun l6 hl6 => ⟨V.ref l5, V.ref l6, rfl, ?_⟩⟩
      have a11 := a10.more (same_new (o := HO.lst ((S1.tick b late).got.map V.int)) hl6)
      have n56 : l5 ≠ l6 := ne_of_none upd_same hl6
      have q5 : (upd (upd H9 l5 (HO.lst ((S1.tick b late).sent.map V.int))) l6 (HO.lst ((S1.tick b late).got.map V.int))) l5 = some (HO.lst ((S1.tick b late).sent.map V.int)) := by rw [upd_ne n56]; exact upd_same
      have q6 : (upd (upd H9 l5 (HO.lst ((S1.tick b late).sent.map V.int))) l6 (HO.lst ((S1.tick b late).got.map V.int))) l6 = some (HO.lst ((S1.tick b late).got.map V.int)) := upd_same
      generalize upd (upd H9 l5 (HO.lst ((S1.tick b late).sent.map V.int))) l6 (HO.lst ((S1.tick b late).got.map V.int)) = H11 at a11 q5 q6
      -- those got are the first of those sent
      refine ⟨_, rfl, _, rfl, _, rfl, l6, _, rfl, .inl (SqL.of q6), _, rfl, l5, _, rfl, SqL.of q5, fun l7 hl7 => ?_⟩
      rw [cut_got two]
      have a12 := a11.more (same_new (o := HO.lst ((S1.tick b late).got.map V.int)) hl7)
      have q5' : (upd H11 l7 (HO.lst ((S1.tick b late).got.map V.int))) l5 = some (HO.lst ((S1.tick b late).sent.map V.int)) := by rw [upd_ne (ne_of_none q5 hl7)]; exact q5
      have q6' : (upd H11 l7 (HO.lst ((S1.tick b late).got.map V.int))) l6 = some (HO.lst ((S1.tick b late).got.map V.int)) := by rw [upd_ne (ne_of_none q6 hl7)]; exact q6
      refine ⟨.list ((S1.tick b late).got.map PyData.int), .list ((S1.tick b late).got.map PyData.int), .lst (SqL.of q6') (dpAll _), .lst (SqL.of upd_same) (dpAll _), shaped_ints _, shaped_ints _, _, rfl, ?_⟩
      rw [eqv_ne]
      generalize upd H11 l7 (HO.lst ((S1.tick b late).got.map V.int)) = H12 at a12 q5' q6'
      refine iteF ⟨_, rfl, l5, _, rfl, .inl (SqL.of q5'), _, rfl, l6, _, rfl, .inl (SqL.of q6'), _, _, rfl, rfl, (by show 2 ≤ sizeLine; decide), fun l8 hl8 => ⟨l8, _, rfl, .inr (SqT.of upd_same), rfl, rfl, _, rfl, ?_⟩⟩
      rw [sub_in two]
      refine iteF ?_
      have a13 := a12.more (same_new (o := HO.tup [V.int 0, V.int 1]) hl8)
      have q5'' : (upd H12 l8 (HO.tup [V.int 0, V.int 1])) l5 = some (HO.lst ((S1.tick b late).sent.map V.int)) := by rw [upd_ne (ne_of_none q5' hl8)]; exact q5'
      have q6'' : (upd H12 l8 (HO.tup [V.int 0, V.int 1])) l6 = some (HO.lst ((S1.tick b late).got.map V.int)) := by rw [upd_ne (ne_of_none q6' hl8)]; exact q6'
      generalize upd H12 l8 (HO.tup [V.int 0, V.int 1]) = H13 at a13 q5'' q6''
      -- the length that the shake tells
      obtain ⟨L13, h13⟩ := id a13
      refine ⟨_, rfl, p, L13.dx, _, rfl, h13.hp, G3, p, _, rfl, a13, ok2, fun l9 o9 hl9 => ⟨_, rfl, (by have := ok2.s; omega), _, rfl, l5, _, rfl, .inl (SqL.of (by rw [upd_ne (ne_of_none q5'' hl9)]; exact q5'')), _, rfl, l6, _, rfl, .inl (SqL.of (by rw [upd_ne (ne_of_none q6'' hl9)]; exact q6'')), _, _, rfl, rfl, rfl, _, rfl, ?_⟩⟩
      have a14 := a13.more (same_new (o := o9) hl9)
      refine ite2 (fun bad => absurd bad (by rw [len_sub two]; simp)) (fun _ => ?_)
      refine ⟨G3, ts ++ [(b, late)], _, _, _, _, _, _, _, rfl, by rw [List.length_append, hti]; rfl, sG3, ?_, gt3, ?_⟩
      · rw [ft]; exact gl3
      · rw [ft]; exact a14
    · rintro σ H' ⟨G, ts, u5, u9, u10, u11, u12, u13, u14, rfl, hti, sG, gl, gt, a0⟩
      obtain ⟨⟨v, j, r⟩, es, _⟩ := fed_all (words := words) hd1 hph ts
      -- the whole run by its own def
      have hw1 := (sG.trans a0.same) _ _ bw
      refine ⟨_, rfl, _, rfl, _, rfl, _, rfl, rfl, rfl, lw, lt, d, ph, words, ts, rfl, hw1, hwb, by omega, gt.more a0.same, by omega, hd1, by omega, hph, fun H2 l2 sm hl2 hl2' => ?_⟩
      have a1 := a0.more sm
      obtain ⟨L1, h1⟩ := id a1
      refine ⟨_, rfl, p, L1.dx, _, rfl, h1.hp, sh_m7 _ _ _ _ _ _ _ _, G, p, _, rfl, a1, fun l3 hl3 => ?_⟩
      have n23 : l2 ≠ l3 := ne_of_none hl2' hl3
      have a2 := a1.more (same_new (o := HO.lst ((feed d ph words ts).1.got.map V.int)) hl3)
      refine ⟨.list ((feed d ph words ts).1.got.map PyData.int), .list ((feed d ph words ts).1.got.map PyData.int), .lst (SqL.of (by rw [upd_ne n23]; exact hl2')) (dpAll _), .lst (SqL.of upd_same) (dpAll _), shaped_ints _, shaped_ints _, _, rfl, ?_⟩
      rw [eqv_ne]
      refine iteF ?_
      generalize upd H2 l3 (HO.lst ((feed d ph words ts).1.got.map V.int)) = H3 at a2
      generalize feed d ph words ts = X at gl a2 r es
      obtain ⟨S, left⟩ := X
      have es : S.sent ++ left = words := es
      have r : R d S v j := r
      -- those sent and those left are all
      obtain ⟨L2, h2⟩ := id a2
      refine ⟨_, rfl, p, L2.dx, _, rfl, h2.hp, sh_m6 _ _ _ _ _ _ _ _, G, p, _, rfl, a2, fun l4 hl4 => ?_⟩
      have a3 := a2.more (same_new (o := HO.lst (S.sent.map V.int)) hl4)
      have gl3 := a3.same _ _ gl
      have len3 : S.sent.length + left.length = words.length := by
        have := congrArg List.length es
        rw [List.length_append] at this
        exact this
      refine ⟨_, rfl, l4, ll, _, _, rfl, rfl, upd_same, gl3, ?_, fun l5 hl5 => ?_⟩
      · rw [List.length_map, List.length_map]
        exact Nat.le_of_lt (small1000 (by show S.sent.length + left.length ≤ 1000; omega))
      have ew : S.sent.map V.int ++ left.map V.int = words.map V.int := by rw [← List.map_append]; exact congrArg _ es
      rw [ew]
      have a4 := a3.more (same_new (o := HO.lst (words.map V.int)) hl5)
      have hw4 := (sG.trans a4.same) _ _ bw
      refine ⟨_, rfl, .list (words.map PyData.int), .list (words.map PyData.int), .lst (SqL.of upd_same) (dpAll _), .lst (SqL.of hw4) (dpAll _), shaped_ints _, shaped_ints _, _, rfl, ?_⟩
      rw [eqv_ne]
      refine iteF ⟨_, rfl, _, rfl, _, rfl, _, rfl, G, p, lw, ll, d, S, v, j, words, left, rfl, a4, sG _ _ bw, gl, r, es, hwb, by omega, hd4, fun H' => k H'⟩
end
end Dgw

namespace Dgw
open PySem L2 DgR Dg
/-! ### how keywords bind -/
section
variable {K : PySem.W.Frag}
theorem bN1 {f : Addr} {fd : FuncData} (F : FunD K "need_number" "need_number" (defArgs sNeed) (defBody sNeed) (defScope sNeed) [] kwNeed f fd) : ∃ g, KBn K fd ["thing", "which", "least", "most"] 1 ["which", "least", "most"] g (fun vs zs => vs ++ zs) := by
  obtain ⟨mv, h⟩ := F.kbinds0 (ps := ["thing", "which", "least", "most"]) 1 ["which", "least", "most"] [] (fun us _ ws => us ++ ws) (by decide) (fun q hq => absurd hq List.not_mem_nil) (fun r _ s => r.append s)
    (fun D doc pm an cdv ct us mv ws h1 h2 h3 => match us, mv, ws, h1, h2, h3 with | [_], [], [_, _, _], _, _, _ => rfl)
  exact ⟨_, h⟩
theorem bN2 {f : Addr} {fd : FuncData} (F : FunD K "need_number" "need_number" (defArgs sNeed) (defBody sNeed) (defScope sNeed) [] kwNeed f fd) : ∃ g, KBn K fd ["thing", "which", "least", "most"] 1 ["which", "most"] g (fun vs zs => vs ++ (zs.take 1 ++ ([V.int 0] ++ zs.drop 1))) := by
  obtain ⟨mv, h⟩ := F.kbinds0 (ps := ["thing", "which", "least", "most"]) 1 ["which", "most"] [("least", V.int 0)] (fun us ms ws => us ++ (ws.take 1 ++ (ms ++ ws.drop 1))) (by decide) (fun q hq => by rw [List.mem_singleton.mp hq]; exact List.mem_cons_self) (fun r t s => r.append ((s.take 1).append (t.append (s.drop 1))))
    (fun D doc pm an cdv ct us mv ws h1 h2 h3 => match us, mv, ws, h1, h2, h3 with | [_], [_], [_, _], _, _, _ => ⟨_, _, _, _, _, _, rfl, rfl, rfl⟩)
  exact ⟨_, h⟩
theorem bIn {f : Addr} {fd : FuncData} (F : FunD K "__init__" "Shake.__init__" (defArgs sInit) (defBody sInit) (defScope sInit) [] kwInit f fd) : ∃ g, KBn K fd ["self", "steps", "phases"] 1 ["steps", "phases"] g (fun vs zs => vs ++ zs) := by
  obtain ⟨mv, h⟩ := F.kbinds0 (ps := ["self", "steps", "phases"]) 1 ["steps", "phases"] [] (fun us _ ws => us ++ ws) (by decide) (fun q hq => absurd hq List.not_mem_nil) (fun r _ s => r.append s)
    (fun D doc pm an cdv ct us mv ws h1 h2 h3 => match us, mv, ws, h1, h2, h3 with | [_], [], [_, _], _, _, _ => rfl)
  exact ⟨_, h⟩
theorem bTk {f : Addr} {fd : FuncData} (F : FunD K "tick" "Shake.tick" (defArgs sTick) (defBody sTick) (defScope sTick) [] kwTick f fd) : ∃ g, KBn K fd ["self", "side", "late"] 2 ["late"] g (fun vs zs => vs ++ zs) := by
  obtain ⟨mv, h⟩ := F.kbinds0 (ps := ["self", "side", "late"]) 2 ["late"] [] (fun us _ ws => us ++ ws) (by decide) (fun q hq => absurd hq List.not_mem_nil) (fun r _ s => r.append s)
    (fun D doc pm an cdv ct us mv ws h1 h2 h3 => match us, mv, ws, h1, h2, h3 with | [_, _], [], [_], _, _, _ => rfl)
  exact ⟨_, h⟩
theorem bO1 {f : Addr} {fd : FuncData} (F : FunD K "led_over" "led_over" (defArgs sOver) (defBody sOver) (defScope sOver) [] kwOver f fd) : ∃ g, KBn K fd ["words", "ticks", "steps", "phases"] 2 ["steps"] g (fun vs zs => vs ++ (zs ++ [V.int 2])) := by
  obtain ⟨mv, h⟩ := F.kbinds0 (ps := ["words", "ticks", "steps", "phases"]) 2 ["steps"] [("phases", V.int 2)] (fun us ms ws => us ++ (ws ++ ms)) (by decide) (fun q hq => by rw [List.mem_singleton.mp hq]; exact List.mem_cons_of_mem _ List.mem_cons_self) (fun r t s => r.append (s.append t))
    (fun D doc pm an cdv ct us mv ws h1 h2 h3 => match us, mv, ws, h1, h2, h3 with | [_, _], [_], [_], _, _, _ => ⟨_, _, _, _, _, _, rfl, rfl, rfl⟩)
  exact ⟨_, h⟩
theorem bO2 {f : Addr} {fd : FuncData} (F : FunD K "led_over" "led_over" (defArgs sOver) (defBody sOver) (defScope sOver) [] kwOver f fd) : ∃ g, KBn K fd ["words", "ticks", "steps", "phases"] 2 ["steps", "phases"] g (fun vs zs => vs ++ zs) := by
  obtain ⟨mv, h⟩ := F.kbinds0 (ps := ["words", "ticks", "steps", "phases"]) 2 ["steps", "phases"] [] (fun us _ ws => us ++ ws) (by decide) (fun q hq => absurd hq List.not_mem_nil) (fun r _ s => r.append s)
    (fun D doc pm an cdv ct us mv ws h1 h2 h3 => match us, mv, ws, h1, h2, h3 with | [_, _], [], [_, _], _, _, _ => rfl)
  exact ⟨_, h⟩
/-- a def without defaults but for keyword-only ones -/
theorem funD_mk {x qual : Str} {st : Stmt} {kws : List (Str × V)} {f D : Addr} {oc : Value} {od an : Option Addr} {osl : Array (Option Value)} {doc pm cdv ct : Value} (l : K.lookup f = some ⟨oc, od, .func (PySem.W.fnOf x qual (defArgs st) (defBody st) (defScope st) .none (.ref D) doc pm an cdv ct), osl⟩)
    (c : PySem.W.codeIn K cdv qual = true) (k : PySem.W.keepIn K (.ref f) = true) (h : ∀ q ∈ kws, ∃ u, PySem.W.nsIn K D q.1 = some (some u) ∧ RelV q.2 u) :
    FunD K x qual (defArgs st) (defBody st) (defScope st) [] kws f (PySem.W.fnOf x qual (defArgs st) (defBody st) (defScope st) .none (.ref D) doc pm an cdv ct) :=
  ⟨⟨oc, od, .none, .ref D, doc, pm, an, cdv, ct, osl, rfl, l, c, .inl ⟨rfl, rfl⟩, .inr ⟨D, rfl, h⟩⟩, k⟩
theorem sides_mk {mg : Str → Option Value} {a : Addr} {od : Option Addr} {n : Nat} {sl : Array (Option Value)} {t1 t2 : Tok} (h : mg "SIDES" = some (.ref a)) (l : K.lookup a = some ⟨.type "tuple", od, .seq #[.str "a" t1, .str "b" t2] n, sl⟩) : Sides K mg :=
  ⟨a, h, fun H => .inr ⟨_, _, _, l, rfl, rfl, by show 2 ≤ sizeLine; decide, .cons ⟨_, rfl⟩ (.cons ⟨_, rfl⟩ .nil)⟩⟩
end
end Dgw

namespace Dgw
open PySem L2 DgR Dg
/-! ### the end: what the top has written, and the head -/
theorem all_mk {l : PySem.W.OpenLaw} {w : World} {K : PySem.W.Frag} {h : Heap} {mg : Str → Option Value} {fa CS C aS fis fne Dne fov Dov fdr fle fla fgi ftu frd fsi Dsi fre fse fta ftb fti Dti fws fwg fln : Addr} (X : K.In h) (G : h.Ns mainGlobals mg) (hfa : mg "law" = some (.ref fa))
    {tW tS1 tS2 : Tok} {odS : Option Addr} {nS : Nat} {slS : Array (Option Value)}
    {ocis kVis dcis pmis cdis ctis : Value} {odis anis : Option Addr} {slis : Array (Option Value)}
    {ocne dcne pmne cdne ctne : Value} {odne anne : Option Addr} {slne : Array (Option Value)}
    {tl0 : Tok}
    {tm0 : Tok}
    {ocov dcov pmov cdov ctov : Value} {odov anov : Option Addr} {slov : Array (Option Value)}
    {tso : Tok}
    {tpo : Tok}
    {ocdr kVdr dcdr pmdr cddr ctdr : Value} {oddr andr : Option Addr} {sldr : Array (Option Value)}
    {ocle kVle dcle pmle cdle ctle : Value} {odle anle : Option Addr} {slle : Array (Option Value)}
    {ocla kVla dcla pmla cdla ctla : Value} {odla anla : Option Addr} {slla : Array (Option Value)}
    {ocgi kVgi dcgi pmgi cdgi ctgi : Value} {odgi angi : Option Addr} {slgi : Array (Option Value)}
    {octu kVtu dctu pmtu cdtu cttu : Value} {odtu antu : Option Addr} {sltu : Array (Option Value)}
    {ocrd kVrd dcrd pmrd cdrd ctrd : Value} {odrd anrd : Option Addr} {slrd : Array (Option Value)}
    {ocsi dcsi pmsi cdsi ctsi : Value} {odsi ansi : Option Addr} {slsi : Array (Option Value)}
    {ts2 : Tok}
    {tp2 : Tok}
    {ocre kVre dcre pmre cdre ctre : Value} {odre anre : Option Addr} {slre : Array (Option Value)}
    {ocse kVse dcse pmse cdse ctse : Value} {odse anse : Option Addr} {slse : Array (Option Value)}
    {octa kVta dcta pmta cdta ctta : Value} {odta anta : Option Addr} {slta : Array (Option Value)}
    {octb kVtb dctb pmtb cdtb cttb : Value} {odtb antb : Option Addr} {sltb : Array (Option Value)}
    {octi dcti pmti cdti ctti : Value} {odti anti : Option Addr} {slti : Array (Option Value)}
    {ocws kVws dcws pmws cdws ctws : Value} {odws anws : Option Addr} {slws : Array (Option Value)}
    {ocwg kVwg dcwg pmwg cdwg ctwg : Value} {odwg anwg : Option Addr} {slwg : Array (Option Value)}
    {ocln kVln dcln pmln cdln ctln : Value} {odln anln : Option Addr} {slln : Array (Option Value)}
    (aCS : PySem.W.nsIn K mainGlobals "Signal" = some (some (.ref CS)))
    (pgCS : PySem.W.plainGet K CS Str.empty = true)
    (hdCS : PySem.W.hasDictIn K CS = true)
    (poCS : PySem.W.plainOver K CS = true)
    (saCS : PySem.W.findIn K (.ref CS) "__setattr__" = some (some (.builtin "object.__setattr__")))
    (mkCS : PySem.W.makesIn K CS = true)
    (kcCS : PySem.W.keepIn K (.ref CS) = true)
    (aC : PySem.W.nsIn K mainGlobals "Shake" = some (some (.ref C)))
    (pgC : PySem.W.plainGet K C Str.empty = true)
    (hdC : PySem.W.hasDictIn K C = true)
    (poC : PySem.W.plainOver K C = true)
    (saC : PySem.W.findIn K (.ref C) "__setattr__" = some (some (.builtin "object.__setattr__")))
    (mkC : PySem.W.makesIn K C = true)
    (kcC : PySem.W.keepIn K (.ref C) = true)
    (g0 : PySem.W.findIn K (.ref CS) "bit" = some none)
    (g1 : PySem.W.findIn K (.ref CS) "was" = some none)
    (g2 : PySem.W.findIn K (.ref CS) "is_fresh" = some none)
    (g3 : PySem.W.findIn K (.ref CS) "seen" = some none)
    (n0 : PySem.W.findIn K (.ref C) "phases" = some none)
    (n1 : PySem.W.findIn K (.ref C) "ask" = some none)
    (n2 : PySem.W.findIn K (.ref C) "answer" = some none)
    (n3 : PySem.W.findIn K (.ref C) "word" = some none)
    (n4 : PySem.W.findIn K (.ref C) "asked" = some none)
    (n5 : PySem.W.findIn K (.ref C) "told" = some none)
    (n6 : PySem.W.findIn K (.ref C) "sent" = some none)
    (n7 : PySem.W.findIn K (.ref C) "got" = some none)
    (z0 : PySem.W.nsIn K mainGlobals "isinstance" = some none)
    (z1 : PySem.W.nsIn K mainGlobals "int" = some none)
    (z2 : PySem.W.nsIn K mainGlobals "bool" = some none)
    (z3 : PySem.W.nsIn K mainGlobals "str" = some none)
    (z4 : PySem.W.nsIn K mainGlobals "list" = some none)
    (z5 : PySem.W.nsIn K mainGlobals "tuple" = some none)
    (z6 : PySem.W.nsIn K mainGlobals "all" = some none)
    (z7 : PySem.W.nsIn K mainGlobals "len" = some none)
    (z8 : PySem.W.nsIn K mainGlobals "range" = some none)
    (mw : PySem.W.nsIn K mainGlobals "MOST_WORD" = some (some (.int 255 tW)))
    (mS : PySem.W.nsIn K mainGlobals "SIDES" = some (some (.ref aS)))
    (lS : K.lookup aS = some ⟨.type "tuple", odS, .seq #[.str "a" tS1, .str "b" tS2] nS, slS⟩)
    (ais : PySem.W.nsIn K mainGlobals "is_number" = some (some (.ref fis)))
    (lis : K.lookup fis = some ⟨ocis, odis, .func (PySem.W.fnOf "is_number" "is_number" (defArgs sIsN) (defBody sIsN) (defScope sIsN) .none kVis dcis pmis anis cdis ctis), slis⟩)
    (cis : PySem.W.codeIn K cdis "is_number" = true)
    (kis : PySem.W.keepIn K (.ref fis) = true)
    (ane : PySem.W.nsIn K mainGlobals "need_number" = some (some (.ref fne)))
    (lne : K.lookup fne = some ⟨ocne, odne, .func (PySem.W.fnOf "need_number" "need_number" (defArgs sNeed) (defBody sNeed) (defScope sNeed) .none (.ref Dne) dcne pmne anne cdne ctne), slne⟩)
    (cne : PySem.W.codeIn K cdne "need_number" = true)
    (kne : PySem.W.keepIn K (.ref fne) = true)
    (dl0 : PySem.W.nsIn K Dne "least" = some (some (.int 0 tl0)))
    (dm0 : PySem.W.nsIn K Dne "most" = some (some (.int 999 tm0)))
    (aov : PySem.W.nsIn K mainGlobals "led_over" = some (some (.ref fov)))
    (lov : K.lookup fov = some ⟨ocov, odov, .func (PySem.W.fnOf "led_over" "led_over" (defArgs sOver) (defBody sOver) (defScope sOver) .none (.ref Dov) dcov pmov anov cdov ctov), slov⟩)
    (cov : PySem.W.codeIn K cdov "led_over" = true)
    (kov : PySem.W.keepIn K (.ref fov) = true)
    (dso : PySem.W.nsIn K Dov "steps" = some (some (.int 2 tso)))
    (dpo : PySem.W.nsIn K Dov "phases" = some (some (.int 2 tpo)))
    (adr : PySem.W.nsIn K mainGlobals "_law_drawn" = some (some (.ref fdr)))
    (ldr : K.lookup fdr = some ⟨ocdr, oddr, .func (PySem.W.fnOf "_law_drawn" "_law_drawn" (defArgs sDrawn) (defBody sDrawn) (defScope sDrawn) .none kVdr dcdr pmdr andr cddr ctdr), sldr⟩)
    (cdr : PySem.W.codeIn K cddr "_law_drawn" = true)
    (kdr : PySem.W.keepIn K (.ref fdr) = true)
    (ale : PySem.W.nsIn K mainGlobals "_law_led" = some (some (.ref fle)))
    (lle : K.lookup fle = some ⟨ocle, odle, .func (PySem.W.fnOf "_law_led" "_law_led" (defArgs sLed) (defBody sLed) (defScope sLed) .none kVle dcle pmle anle cdle ctle), slle⟩)
    (cle : PySem.W.codeIn K cdle "_law_led" = true)
    (kle : PySem.W.keepIn K (.ref fle) = true)
    (ala : PySem.W.nsIn K mainGlobals "law" = some (some (.ref fla)))
    (lla : K.lookup fla = some ⟨ocla, odla, .func (PySem.W.fnOf "law" "law" (defArgs sLaw) (defBody sLaw) (defScope sLaw) .none kVla dcla pmla anla cdla ctla), slla⟩)
    (cla : PySem.W.codeIn K cdla "law" = true)
    (kla : PySem.W.keepIn K (.ref fla) = true)
    (agi : PySem.W.findIn K (.ref CS) "__init__" = some (some (.ref fgi)))
    (igi : PySem.W.isFn K (.ref fgi) = true)
    (lgi : K.lookup fgi = some ⟨ocgi, odgi, .func (PySem.W.fnOf "__init__" "Signal.__init__" (defArgs sSgInit) (defBody sSgInit) (defScope sSgInit) .none kVgi dcgi pmgi angi cdgi ctgi), slgi⟩)
    (cgi : PySem.W.codeIn K cdgi "Signal.__init__" = true)
    (kgi : PySem.W.keepIn K (.ref fgi) = true)
    (atu : PySem.W.findIn K (.ref CS) "turn" = some (some (.ref ftu)))
    (itu : PySem.W.isFn K (.ref ftu) = true)
    (ltu : K.lookup ftu = some ⟨octu, odtu, .func (PySem.W.fnOf "turn" "Signal.turn" (defArgs sTurn) (defBody sTurn) (defScope sTurn) .none kVtu dctu pmtu antu cdtu cttu), sltu⟩)
    (ctu : PySem.W.codeIn K cdtu "Signal.turn" = true)
    (ktu : PySem.W.keepIn K (.ref ftu) = true)
    (ard : PySem.W.findIn K (.ref CS) "read" = some (some (.ref frd)))
    (ird : PySem.W.isFn K (.ref frd) = true)
    (lrd : K.lookup frd = some ⟨ocrd, odrd, .func (PySem.W.fnOf "read" "Signal.read" (defArgs sRead) (defBody sRead) (defScope sRead) .none kVrd dcrd pmrd anrd cdrd ctrd), slrd⟩)
    (crd : PySem.W.codeIn K cdrd "Signal.read" = true)
    (krd : PySem.W.keepIn K (.ref frd) = true)
    (asi : PySem.W.findIn K (.ref C) "__init__" = some (some (.ref fsi)))
    (isi : PySem.W.isFn K (.ref fsi) = true)
    (lsi : K.lookup fsi = some ⟨ocsi, odsi, .func (PySem.W.fnOf "__init__" "Shake.__init__" (defArgs sInit) (defBody sInit) (defScope sInit) .none (.ref Dsi) dcsi pmsi ansi cdsi ctsi), slsi⟩)
    (csi : PySem.W.codeIn K cdsi "Shake.__init__" = true)
    (ksi : PySem.W.keepIn K (.ref fsi) = true)
    (ds2 : PySem.W.nsIn K Dsi "steps" = some (some (.int 2 ts2)))
    (dp2 : PySem.W.nsIn K Dsi "phases" = some (some (.int 2 tp2)))
    (are : PySem.W.findIn K (.ref C) "is_ready" = some (some (.ref fre)))
    (ire : PySem.W.isFn K (.ref fre) = true)
    (lre : K.lookup fre = some ⟨ocre, odre, .func (PySem.W.fnOf "is_ready" "Shake.is_ready" (defArgs sReady) (defBody sReady) (defScope sReady) .none kVre dcre pmre anre cdre ctre), slre⟩)
    (cre : PySem.W.codeIn K cdre "Shake.is_ready" = true)
    (kre : PySem.W.keepIn K (.ref fre) = true)
    (ase : PySem.W.findIn K (.ref C) "send" = some (some (.ref fse)))
    (ise : PySem.W.isFn K (.ref fse) = true)
    (lse : K.lookup fse = some ⟨ocse, odse, .func (PySem.W.fnOf "send" "Shake.send" (defArgs sSend) (defBody sSend) (defScope sSend) .none kVse dcse pmse anse cdse ctse), slse⟩)
    (cse : PySem.W.codeIn K cdse "Shake.send" = true)
    (kse : PySem.W.keepIn K (.ref fse) = true)
    (ata : PySem.W.findIn K (.ref C) "tick_a" = some (some (.ref fta)))
    (ita : PySem.W.isFn K (.ref fta) = true)
    (lta : K.lookup fta = some ⟨octa, odta, .func (PySem.W.fnOf "tick_a" "Shake.tick_a" (defArgs sTickA) (defBody sTickA) (defScope sTickA) .none kVta dcta pmta anta cdta ctta), slta⟩)
    (cta : PySem.W.codeIn K cdta "Shake.tick_a" = true)
    (kta : PySem.W.keepIn K (.ref fta) = true)
    (atb : PySem.W.findIn K (.ref C) "tick_b" = some (some (.ref ftb)))
    (itb : PySem.W.isFn K (.ref ftb) = true)
    (ltb : K.lookup ftb = some ⟨octb, odtb, .func (PySem.W.fnOf "tick_b" "Shake.tick_b" (defArgs sTickB) (defBody sTickB) (defScope sTickB) .none kVtb dctb pmtb antb cdtb cttb), sltb⟩)
    (ctb : PySem.W.codeIn K cdtb "Shake.tick_b" = true)
    (ktb : PySem.W.keepIn K (.ref ftb) = true)
    (ati : PySem.W.findIn K (.ref C) "tick" = some (some (.ref fti)))
    (iti : PySem.W.isFn K (.ref fti) = true)
    (lti : K.lookup fti = some ⟨octi, odti, .func (PySem.W.fnOf "tick" "Shake.tick" (defArgs sTick) (defBody sTick) (defScope sTick) .none (.ref Dti) dcti pmti anti cdti ctti), slti⟩)
    (cti : PySem.W.codeIn K cdti "Shake.tick" = true)
    (kti : PySem.W.keepIn K (.ref fti) = true)
    (dlt : PySem.W.nsIn K Dti "late" = some (some (.bool false)))
    (aws : PySem.W.findIn K (.ref C) "words_sent" = some (some (.ref fws)))
    (iws : PySem.W.isFn K (.ref fws) = true)
    (lws : K.lookup fws = some ⟨ocws, odws, .func (PySem.W.fnOf "words_sent" "Shake.words_sent" (defArgs sSent) (defBody sSent) (defScope sSent) .none kVws dcws pmws anws cdws ctws), slws⟩)
    (cws : PySem.W.codeIn K cdws "Shake.words_sent" = true)
    (kws : PySem.W.keepIn K (.ref fws) = true)
    (awg : PySem.W.findIn K (.ref C) "words_got" = some (some (.ref fwg)))
    (iwg : PySem.W.isFn K (.ref fwg) = true)
    (lwg : K.lookup fwg = some ⟨ocwg, odwg, .func (PySem.W.fnOf "words_got" "Shake.words_got" (defArgs sGot) (defBody sGot) (defScope sGot) .none kVwg dcwg pmwg anwg cdwg ctwg), slwg⟩)
    (cwg : PySem.W.codeIn K cdwg "Shake.words_got" = true)
    (kwg : PySem.W.keepIn K (.ref fwg) = true)
    (aln : PySem.W.findIn K (.ref C) "__len__" = some (some (.ref fln)))
    (iln : PySem.W.isFn K (.ref fln) = true)
    (lln : K.lookup fln = some ⟨ocln, odln, .func (PySem.W.fnOf "__len__" "Shake.__len__" (defArgs sLen) (defBody sLen) (defScope sLen) .none kVln dcln pmln anln cdln ctln), slln⟩)
    (cln : PySem.W.codeIn K cdln "Shake.__len__" = true)
    (kln : PySem.W.keepIn K (.ref fln) = true)
    : ∃ fd : FuncData, (∀ (s : Shared) (v : Value), BindsTo s fd ⟨[v], []⟩ [("_law_script", v)]) ∧ ∀ base : Heap, K.In base → base.Ns mainGlobals mg → FnOk l.prog w K mg base CX0 7 fa fd ["_law_script"] (spLaw K) := by
  have e := hfa.symm.trans (PySem.W.mg_of X G ala)
  cases e
  have B : Bl mg := ⟨PySem.W.mg_none_of X G z0, PySem.W.mg_none_of X G z1, PySem.W.mg_none_of X G z2, PySem.W.mg_none_of X G z3, PySem.W.mg_none_of X G z4, PySem.W.mg_none_of X G z5, PySem.W.mg_none_of X G z6, PySem.W.mg_none_of X G z7, PySem.W.mg_none_of X G z8⟩
  have TS : Sg K CS := ⟨⟨pgCS, hdCS, poCS, saCS⟩, g0, g1, g2, g3⟩
  have T : Sk K C := ⟨⟨pgC, hdC, poC, saC⟩, n0, n1, n2, n3, n4, n5, n6, n7⟩
  have Z : Sides K mg := sides_mk (PySem.W.mg_of X G mS) lS
  have Fis := fun_mk (st := sIsN) lis cis kis
  have bis := Fis.binds (ps := ["thing", "least", "most"]) fun _ _ _ _ _ _ us hl => match us, hl with | [_, _, _], _ => rfl
  have Fne := funD_mk (st := sNeed) (kws := kwNeed) lne cne kne (fun q hq => by
    rcases List.mem_cons.mp hq with e | hq
    · rw [e]; exact ⟨_, dl0, _, rfl⟩
    · rw [List.mem_singleton.mp hq]; exact ⟨_, dm0, _, rfl⟩)
  have Fov := funD_mk (st := sOver) (kws := kwOver) lov cov kov (fun q hq => by
    rcases List.mem_cons.mp hq with e | hq
    · rw [e]; exact ⟨_, dso, _, rfl⟩
    · rw [List.mem_singleton.mp hq]; exact ⟨_, dpo, _, rfl⟩)
  have Fdr := fun_mk (st := sDrawn) ldr cdr kdr
  have bdr := Fdr.binds (ps := ["_law_script", "_law_k", "_law_many"]) fun _ _ _ _ _ _ us hl => match us, hl with | [_, _, _], _ => rfl
  have Fle := fun_mk (st := sLed) lle cle kle
  have ble := Fle.binds (ps := ["_law_shake", "_law_words", "_law_left", "_law_depth"]) fun _ _ _ _ _ _ us hl => match us, hl with | [_, _, _, _], _ => rfl
  have Fla := fun_mk (st := sLaw) lla cla kla
  have Fgi := fun_mk (st := sSgInit) lgi cgi kgi
  have bgi := Fgi.binds (ps := ["self", "steps"]) fun _ _ _ _ _ _ us hl => match us, hl with | [_, _], _ => rfl
  have Ftu := fun_mk (st := sTurn) ltu ctu ktu
  have btu := Ftu.binds (ps := ["self", "bit"]) fun _ _ _ _ _ _ us hl => match us, hl with | [_, _], _ => rfl
  have Frd := fun_mk (st := sRead) lrd crd krd
  have brd := Frd.binds (ps := ["self", "is_late"]) fun _ _ _ _ _ _ us hl => match us, hl with | [_, _], _ => rfl
  have Fsi := funD_mk (st := sInit) (kws := kwInit) lsi csi ksi (fun q hq => by
    rcases List.mem_cons.mp hq with e | hq
    · rw [e]; exact ⟨_, ds2, _, rfl⟩
    · rw [List.mem_singleton.mp hq]; exact ⟨_, dp2, _, rfl⟩)
  have Fre := fun_mk (st := sReady) lre cre kre
  have bre := Fre.binds (ps := ["self"]) fun _ _ _ _ _ _ us hl => match us, hl with | [_], _ => rfl
  have Fse := fun_mk (st := sSend) lse cse kse
  have bse := Fse.binds (ps := ["self", "word"]) fun _ _ _ _ _ _ us hl => match us, hl with | [_, _], _ => rfl
  have Fta := fun_mk (st := sTickA) lta cta kta
  have bta := Fta.binds (ps := ["self", "is_late"]) fun _ _ _ _ _ _ us hl => match us, hl with | [_, _], _ => rfl
  have Ftb := fun_mk (st := sTickB) ltb ctb ktb
  have btb := Ftb.binds (ps := ["self", "is_late"]) fun _ _ _ _ _ _ us hl => match us, hl with | [_, _], _ => rfl
  have Fti := funD_mk (st := sTick) (kws := kwTick) lti cti kti (fun q hq => by
    rw [List.mem_singleton.mp hq]; exact ⟨_, dlt, rfl⟩)
  have Fws := fun_mk (st := sSent) lws cws kws
  have bws := Fws.binds (ps := ["self"]) fun _ _ _ _ _ _ us hl => match us, hl with | [_], _ => rfl
  have Fwg := fun_mk (st := sGot) lwg cwg kwg
  have bwg := Fwg.binds (ps := ["self"]) fun _ _ _ _ _ _ us hl => match us, hl with | [_], _ => rfl
  have Fln := fun_mk (st := sLen) lln cln kln
  have bln := Fln.binds (ps := ["self"]) fun _ _ _ _ _ _ us hl => match us, hl with | [_], _ => rfl
  obtain ⟨gN1, hN1⟩ := bN1 Fne
  obtain ⟨gN2, hN2⟩ := bN2 Fne
  refine ⟨PySem.W.fnOf "law" "law" (defArgs sLaw) (defBody sLaw) (defScope sLaw) .none kVla dcla pmla anla cdla ctla, fun s v => .of_eq rfl, fun base _ _ => ?_⟩
  have mN := PySem.W.mg_of X G ane
  have Is : Cal l.prog w K mg base 1 "is_number" ["thing", "least", "most"] spIsN fis _ := ⟨ok_isn Fis B, PySem.W.mg_of X G ais, kis, bis⟩
  have Ne := ok_need (P := l.prog) (w := w) (base := base) Fne B Is.ok Is.mg Is.kp Is.bd
  have Tu : Met l.prog w K mg base 1 CS "turn" ["self", "bit"] (spTurn CS) ftu _ := ⟨ok_turn Ftu TS, ⟨atu, itu, ktu⟩, btu⟩
  have Rd : Met l.prog w K mg base 1 CS "read" ["self", "is_late"] (spRead CS) frd _ := ⟨ok_read Frd TS, ⟨ard, ird, krd⟩, brd⟩
  have Re : Met l.prog w K mg base 1 C "is_ready" ["self"] (spReady CS C) fre _ := ⟨ok_ready Fre T TS, ⟨are, ire, kre⟩, bre⟩
  have MW : ∃ u, mg "MOST_WORD" = some u ∧ RelV (.int 255) u := ⟨_, PySem.W.mg_of X G mw, _, rfl⟩
  have Se : Met l.prog w K mg base 3 C "send" ["self", "word"] (spSend CS C) fse _ := ⟨ok_send Fse T TS Ne mN kne hN2 MW Re Tu, ⟨ase, ise, kse⟩, bse⟩
  have Ta : Met l.prog w K mg base 2 C "tick_a" ["self", "is_late"] (spTickA CS C) fta _ := ⟨ok_tickA Fta T TS Rd Tu, ⟨ata, ita, kta⟩, bta⟩
  have Tb : Met l.prog w K mg base 2 C "tick_b" ["self", "is_late"] (spTickB CS C) ftb _ := ⟨ok_tickB Ftb T TS Rd Tu, ⟨atb, itb, ktb⟩, btb⟩
  have Ws : Met l.prog w K mg base 1 C "words_sent" ["self"] (spSent CS C) fws _ := ⟨ok_sent Fws T B, ⟨aws, iws, kws⟩, bws⟩
  have Wg : Met l.prog w K mg base 1 C "words_got" ["self"] (spGot CS C) fwg _ := ⟨ok_got Fwg T B, ⟨awg, iwg, kwg⟩, bwg⟩
  obtain ⟨gI, hI⟩ := bIn Fsi
  obtain ⟨gT, hT⟩ := bTk Fti
  have Y : Lib l.prog w K mg base CS C := ⟨B, T, PySem.W.mg_of X G aC, MW, ⟨_, _, Is⟩, ⟨_, _, _, ⟨mkC, asi, isi, kcC⟩, ok_init Fsi T Ne mN kne hN1 Is ⟨mkCS, agi, igi, kcCS⟩ (PySem.W.mg_of X G aCS) (ok_sgInit Fgi TS B) bgi, hI⟩,
    ⟨_, _, Re⟩, ⟨_, _, Se⟩, ⟨_, _, _, ⟨ati, iti, kti⟩, ok_tick Fti T B Z Ta Tb, hT⟩, ⟨_, _, Ws⟩, ⟨_, _, Wg⟩, ⟨_, _, ok_len Fln T B, aln, iln, bln⟩⟩
  have O : Over l.prog w K mg base fov _ := ⟨ok_over Fov Y, PySem.W.mg_of X G aov, kov, bO1 Fov, bO2 Fov⟩
  exact ok_law Fla Y O ⟨ok_drawn Fdr B, PySem.W.mg_of X G adr, kdr, bdr⟩ ⟨ok_led Fle Y O, PySem.W.mg_of X G ale, kle, ble⟩
theorem walk {l : PySem.W.OpenLaw} {q : Program} {loose : List Str} {XP : (Str → Option Value) → Heap → Prop} {YP : World → Heap → Prop} {d : DefRec} {K : Params → PySem.W.Frag} (hn : l.most = some 63) (hdf : d.params.defaults = [])
    (hY : ∀ (w : World) (h : Heap), YP w h → (K w.params).In h)
    (F : ∀ (w : World) (mg : Str → Option Value) (fa : Addr) (h : Heap), (K w.params).In h → h.Ns mainGlobals mg → mg d.name = some (.ref fa) →
      ∃ fd : FuncData, (∀ (s : Shared) (u : Value), BindsTo s fd ⟨[u], []⟩ [("_law_script", u)]) ∧ ∀ base : Heap, (K w.params).In base → base.Ns mainGlobals mg → FnOk l.prog w (K w.params) mg base CX0 7 fa fd ["_law_script"] (spLaw (K w.params))) :
    PySem.W.WalkO q loose XP YP l.row.toRowW d [] (fun f vs => PySem.call f vs) :=
  L2.walk_of (n := 63) (k := 7) (x := "_law_script") (CX := fun _ => CX0) (sp := fun w => spLaw (K w.params)) hn (by decide) hdf ⟨rfl, by decide, by decide⟩ hY F (fun _ _ a ns hl _ hS => ⟨a, ns, rfl, hS, hl, fun _ => rfl⟩) fun _ _ _ _ _ z => z
end Dgw

open PySem PySem.W PyProof.Rows in
set_option maxRecDepth 100000 in
set_option maxHeartbeats 0 in
theorem PySem.Challenge.cw_driftgates_k26_whole_shakes_holds : PySem.Challenge.rw_driftgates_k26_whole_shakes.Holds := by
  w_on; o_law; k_head; (case hw => w_witness2)
  k_fill
  refine Dgw.walk (l := PySem.Challenge.rw_driftgates_k26_whole_shakes) rfl rfl (fun w h Y => PySem.W.kIn_of Y) ?F
  case F =>
    intro w mg fa h KX G hmg
    refine' Dgw.all_mk KX G hmg ?dg_aCS ?dg_pgCS ?dg_hdCS ?dg_poCS ?dg_saCS ?dg_mkCS ?dg_kcCS ?dg_aC ?dg_pgC ?dg_hdC ?dg_poC ?dg_saC ?dg_mkC ?dg_kcC ?dg_g0 ?dg_g1 ?dg_g2 ?dg_g3 ?dg_n0 ?dg_n1 ?dg_n2 ?dg_n3 ?dg_n4 ?dg_n5 ?dg_n6 ?dg_n7 ?dg_z0 ?dg_z1 ?dg_z2 ?dg_z3 ?dg_z4 ?dg_z5 ?dg_z6 ?dg_z7 ?dg_z8 ?dg_mw ?dg_mS ?dg_lS ?dg_ais ?dg_lis ?dg_cis ?dg_kis ?dg_ane ?dg_lne ?dg_cne ?dg_kne ?dg_dl0 ?dg_dm0 ?dg_aov ?dg_lov ?dg_cov ?dg_kov ?dg_dso ?dg_dpo ?dg_adr ?dg_ldr ?dg_cdr ?dg_kdr ?dg_ale ?dg_lle ?dg_cle ?dg_kle ?dg_ala ?dg_lla ?dg_cla ?dg_kla ?dg_agi ?dg_igi ?dg_lgi ?dg_cgi ?dg_kgi ?dg_atu ?dg_itu ?dg_ltu ?dg_ctu ?dg_ktu ?dg_ard ?dg_ird ?dg_lrd ?dg_crd ?dg_krd ?dg_asi ?dg_isi ?dg_lsi ?dg_csi ?dg_ksi ?dg_ds2 ?dg_dp2 ?dg_are ?dg_ire ?dg_lre ?dg_cre ?dg_kre ?dg_ase ?dg_ise ?dg_lse ?dg_cse ?dg_kse ?dg_ata ?dg_ita ?dg_lta ?dg_cta ?dg_kta ?dg_atb ?dg_itb ?dg_ltb ?dg_ctb ?dg_ktb ?dg_ati ?dg_iti ?dg_lti ?dg_cti ?dg_kti ?dg_dlt ?dg_aws ?dg_iws ?dg_lws ?dg_cws ?dg_kws ?dg_awg ?dg_iwg ?dg_lwg ?dg_cwg ?dg_kwg ?dg_aln ?dg_iln ?dg_lln ?dg_cln ?dg_kln
    (case dg_aCS => k_is)
    (case dg_pgCS => k_is)
    (case dg_hdCS => k_is)
    (case dg_poCS => k_is)
    (case dg_saCS => k_is)
    (case dg_mkCS => k_is)
    (case dg_kcCS => k_is)
    (case dg_aC => k_is)
    (case dg_pgC => k_is)
    (case dg_hdC => k_is)
    (case dg_poC => k_is)
    (case dg_saC => k_is)
    (case dg_mkC => k_is)
    (case dg_kcC => k_is)
    (case dg_g0 => k_is)
    (case dg_g1 => k_is)
    (case dg_g2 => k_is)
    (case dg_g3 => k_is)
    (case dg_n0 => k_is)
    (case dg_n1 => k_is)
    (case dg_n2 => k_is)
    (case dg_n3 => k_is)
    (case dg_n4 => k_is)
    (case dg_n5 => k_is)
    (case dg_n6 => k_is)
    (case dg_n7 => k_is)
    (case dg_z0 => k_is)
    (case dg_z1 => k_is)
    (case dg_z2 => k_is)
    (case dg_z3 => k_is)
    (case dg_z4 => k_is)
    (case dg_z5 => k_is)
    (case dg_z6 => k_is)
    (case dg_z7 => k_is)
    (case dg_z8 => k_is)
    (case dg_mw => k_is)
    (case dg_mS => k_is)
    (case dg_lS => k_is)
    (case dg_ais => k_is)
    (case dg_lis => k_is)
    (case dg_cis => k_is)
    (case dg_kis => k_is)
    (case dg_ane => k_is)
    (case dg_lne => k_is)
    (case dg_cne => k_is)
    (case dg_kne => k_is)
    (case dg_dl0 => k_is)
    (case dg_dm0 => k_is)
    (case dg_aov => k_is)
    (case dg_lov => k_is)
    (case dg_cov => k_is)
    (case dg_kov => k_is)
    (case dg_dso => k_is)
    (case dg_dpo => k_is)
    (case dg_adr => k_is)
    (case dg_ldr => k_is)
    (case dg_cdr => k_is)
    (case dg_kdr => k_is)
    (case dg_ale => k_is)
    (case dg_lle => k_is)
    (case dg_cle => k_is)
    (case dg_kle => k_is)
    (case dg_ala => k_is)
    (case dg_lla => k_is)
    (case dg_cla => k_is)
    (case dg_kla => k_is)
    (case dg_agi => k_is)
    (case dg_igi => k_is)
    (case dg_lgi => k_is)
    (case dg_cgi => k_is)
    (case dg_kgi => k_is)
    (case dg_atu => k_is)
    (case dg_itu => k_is)
    (case dg_ltu => k_is)
    (case dg_ctu => k_is)
    (case dg_ktu => k_is)
    (case dg_ard => k_is)
    (case dg_ird => k_is)
    (case dg_lrd => k_is)
    (case dg_crd => k_is)
    (case dg_krd => k_is)
    (case dg_asi => k_is)
    (case dg_isi => k_is)
    (case dg_lsi => k_is)
    (case dg_csi => k_is)
    (case dg_ksi => k_is)
    (case dg_ds2 => k_is)
    (case dg_dp2 => k_is)
    (case dg_are => k_is)
    (case dg_ire => k_is)
    (case dg_lre => k_is)
    (case dg_cre => k_is)
    (case dg_kre => k_is)
    (case dg_ase => k_is)
    (case dg_ise => k_is)
    (case dg_lse => k_is)
    (case dg_cse => k_is)
    (case dg_kse => k_is)
    (case dg_ata => k_is)
    (case dg_ita => k_is)
    (case dg_lta => k_is)
    (case dg_cta => k_is)
    (case dg_kta => k_is)
    (case dg_atb => k_is)
    (case dg_itb => k_is)
    (case dg_ltb => k_is)
    (case dg_ctb => k_is)
    (case dg_ktb => k_is)
    (case dg_ati => k_is)
    (case dg_iti => k_is)
    (case dg_lti => k_is)
    (case dg_cti => k_is)
    (case dg_kti => k_is)
    (case dg_dlt => k_is)
    (case dg_aws => k_is)
    (case dg_iws => k_is)
    (case dg_lws => k_is)
    (case dg_cws => k_is)
    (case dg_kws => k_is)
    (case dg_awg => k_is)
    (case dg_iwg => k_is)
    (case dg_lwg => k_is)
    (case dg_cwg => k_is)
    (case dg_kwg => k_is)
    (case dg_aln => k_is)
    (case dg_iln => k_is)
    (case dg_lln => k_is)
    (case dg_cln => k_is)
    (case dg_kln => k_is)
#print axioms PySem.Challenge.cw_driftgates_k26_whole_shakes_holds
