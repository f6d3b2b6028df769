import PyProof.Rows.All
import Wide.All
import OpenK.AllK
import Wide.FinOn
import HandS.ForMost
import HandS.Star
import HandS.TupMul
import HandS.TupAny
import HandS.Style
import HandS.SetFor
import HandS.Conv
import HandS.NoneIn
import HandS.IsInst
import HandS.Walk
import HandS.TupLen
import KE.GoesEnum
import KE.GoesMore
import KE.KSortTupG
import KE.KDictDisplayH
import PySem.Challenge.RW_pressrelease_k19_whole_conditions_of_eff
import PyProof.P3Eq
set_option Elab.async false
set_option linter.all false
set_option maxRecDepth 100000
set_option maxHeartbeats 4000000
/-! part MathA -/
/-! The plain law, part A: presses, effects, the conditions, and that the effects are exactly the tuples with the conditions. No program in sight. -/
namespace K19
/-- the three words -/
inductive W where
  | off | on | same
  deriving DecidableEq
open W
abbrev Pan := List (List Nat)
/-- what a button releases -/
def rel (P : Pan) (a : Nat) : List Nat := P.getD a []
/-- the word of a button (outside: same) -/
def wd (e : List W) (b : Nat) : W := e.getD b same
structure PanOk (P : Pan) : Prop where
  lt : ∀ a b, b ∈ rel P a → b < P.length
  ne : ∀ a, a ∉ rel P a
  nd : ∀ a, (rel P a).Nodup
theorem rel_out {P : Pan} {a : Nat} (h : P.length ≤ a) : rel P a = [] := by
  unfold rel; rw [List.getD_eq_getElem?_getD, List.getElem?_eq_none h]; rfl
theorem PanOk.src {P : Pan} (_ : PanOk P) {a b : Nat} (m : b ∈ rel P a) : a < P.length := by
  rcases Nat.lt_or_ge a P.length with q | q
  · exact q
  · rw [rel_out q] at m; cases m
def cw (P : Pan) (p b : Nat) (w : W) : W := if b = p then on else if b ∈ rel P p then off else w
def press (P : Pan) (e : List W) (p : Nat) : List W := e.mapIdx fun b w => cw P p b w
theorem press_len {P : Pan} {e : List W} {p : Nat} : (press P e p).length = e.length := List.length_mapIdx
theorem wd_out {e : List W} {b : Nat} (h : e.length ≤ b) : wd e b = same := by
  unfold wd; rw [List.getD_eq_getElem?_getD, List.getElem?_eq_none h]; rfl
theorem wd_get {e : List W} {b : Nat} {w : W} (h : e[b]? = some w) : wd e b = w := by
  unfold wd; rw [List.getD_eq_getElem?_getD, h]; rfl
theorem wd_lt {e : List W} {b : Nat} (h : wd e b ≠ same) : b < e.length := by
  rcases Nat.lt_or_ge b e.length with q | q
  · exact q
  · exact absurd (wd_out q) h
theorem get_wd {e : List W} {b : Nat} (h : b < e.length) : e[b]? = some (wd e b) := by
  have q := List.getElem?_eq_getElem h
  rw [q, wd_get q]
theorem wd_press {P : Pan} {e : List W} {p b : Nat} (h : b < e.length) : wd (press P e p) b = cw P p b (wd e b) := by
  apply wd_get
  unfold press
  rw [List.getElem?_mapIdx, get_wd h]; rfl
theorem ext_wd {e f : List W} (hl : e.length = f.length) (h : ∀ b, b < e.length → wd e b = wd f b) : e = f := by
  apply List.ext_getElem? 
  intro b
  rcases Nat.lt_or_ge b e.length with q | q
  · rw [get_wd q, get_wd (hl ▸ q), h b q]
  · rw [List.getElem?_eq_none q, List.getElem?_eq_none (hl ▸ q)]

inductive Reach (P : Pan) : List W → Prop
  | start : Reach P (List.replicate P.length same)
  | press {e : List W} {p : Nat} : Reach P e → p < P.length → Reach P (press P e p)

/-- a rank of some buttons: who releases comes first -/
def Rank (P : Pan) (S : Nat → Prop) (t : Nat → Nat) : Prop := ∀ a b, S a → S b → b ∈ rel P a → t a < t b
def Acy (P : Pan) (S : Nat → Prop) : Prop := ∃ t, Rank P S t
def isOn (e : List W) (b : Nat) : Prop := wd e b = on
def isOff (e : List W) (b : Nat) : Prop := wd e b = off
/-- releases none with same -/
def Free (P : Pan) (e : List W) (a : Nat) : Prop := ∀ b, b ∈ rel P a → wd e b ≠ same
/-- what is gathered -/
inductive Gat (P : Pan) (e : List W) : Nat → Prop
  | base {a b : Nat} : isOn e a → b ∈ rel P a → isOff e b → Gat P e b
  | step {a b : Nat} : Gat P e a → Free P e a → b ∈ rel P a → isOff e b → Gat P e b
structure Cond (P : Pan) (e : List W) : Prop where
  acy : Acy P (isOn e)
  free : ∀ a, isOn e a → Free P e a
  gat : ∀ b, isOff e b → Gat P e b
theorem Gat.off {P : Pan} {e : List W} {b : Nat} (g : Gat P e b) : isOff e b := by cases g <;> assumption

/-! ### an effect has the conditions -/
theorem reach_len {P : Pan} {e : List W} (r : Reach P e) : e.length = P.length := by
  induction r with
  | start => simp
  | press _ _ ih => rw [press_len]; exact ih
theorem wd_rep (n b : Nat) : wd (List.replicate n same) b = same := by
  rcases Nat.lt_or_ge b n with q | q
  · apply wd_get; rw [List.getElem?_replicate, if_pos q]
  · exact wd_out (by simpa using q)
theorem cond_start (P : Pan) : Cond P (List.replicate P.length same) :=
  ⟨⟨fun _ => 0, fun a _ h => by (unfold isOn at h; rw [wd_rep] at h; cases h)⟩, fun a h => (by unfold isOn at h; rw [wd_rep] at h; cases h), fun a h => (by unfold isOff at h; rw [wd_rep] at h; cases h)⟩
theorem max_of (t : Nat → Nat) : ∀ n : Nat, ∃ M, ∀ a, a < n → t a < M
  | 0 => ⟨0, fun a h => by omega⟩
  | n + 1 => by
    obtain ⟨M, h⟩ := max_of t n
    refine ⟨max M (t n + 1), fun a ha => ?_⟩
    rcases Nat.lt_or_ge a n with q | q
    · have := h a q; omega
    · have : a = n := by omega
      subst this; omega
theorem cond_press {P : Pan} (ok : PanOk P) {e : List W} (hl : e.length = P.length) {p : Nat} (hp : p < P.length) (c : Cond P e) : Cond P (press P e p) := by
  have wp : ∀ b, b < P.length → wd (press P e p) b = cw P p b (wd e b) := fun b hb => wd_press (by rw [hl]; exact hb)
  have bnd : ∀ b, wd (press P e p) b ≠ same → b < P.length := fun b hb => by
    have := wd_lt hb; rw [press_len, hl] at this; exact this
  have onp : wd (press P e p) p = on := by rw [wp p hp]; unfold cw; rw [if_pos rfl]
  have offp : ∀ b, b ∈ rel P p → wd (press P e p) b = off := fun b hb => by
    rw [wp b (ok.lt p b hb)]
    unfold cw
    have : b ≠ p := fun z => ok.ne p (z ▸ hb)
    rw [if_neg this, if_pos hb]
  have oth : ∀ b, b < P.length → b ≠ p → b ∉ rel P p → wd (press P e p) b = wd e b := fun b hb h1 h2 => by
    rw [wp b hb]; unfold cw; rw [if_neg h1, if_neg h2]
  have onof : ∀ b, isOn (press P e p) b → b = p ∨ (b ∉ rel P p ∧ isOn e b) := fun b hb => by
    by_cases h1 : b = p
    · exact .inl h1
    · by_cases h2 : b ∈ rel P p
      · have := offp b h2; unfold isOn at hb; rw [this] at hb; cases hb
      · refine .inr ⟨h2, ?_⟩
        have hlt := bnd b (by unfold isOn at hb; rw [hb]; intro z; cases z)
        unfold isOn at hb ⊢; rw [oth b hlt h1 h2] at hb; exact hb
  have sm : ∀ b, b < P.length → wd (press P e p) b = same → wd e b = same := fun b hlt hb => by
    by_cases h1 : b = p
    · rw [h1, onp] at hb; cases hb
    · by_cases h2 : b ∈ rel P p
      · rw [offp b h2] at hb; cases hb
      · rw [oth b hlt h1 h2] at hb; exact hb
  have fr : ∀ a, Free P e a → Free P (press P e p) a := fun a h b hb z => h b hb (sm b (ok.lt a b hb) z)
  refine ⟨?_, fun a ha => ?_, fun b hb => ?_⟩
  · obtain ⟨t, ht⟩ := c.acy
    obtain ⟨M, hM⟩ := max_of t P.length
    refine ⟨fun a => if a = p then M else t a, fun a b ha hb hr => ?_⟩
    have hlt := ok.src hr
    rcases onof b hb with rfl | ⟨n1, ob⟩
    · have hab : a ≠ b := fun z => ok.ne b (z ▸ hr)
      show (if a = b then M else t a) < (if b = b then M else t b)
      rw [if_neg hab, if_pos rfl]
      exact hM a hlt
    · rcases onof a ha with rfl | ⟨_, oa⟩
      · exact absurd hr n1
      · have h1 : a ≠ p := fun z => n1 (z ▸ hr)
        show (if a = p then M else t a) < (if b = p then M else t b)
        rw [if_neg h1]
        by_cases h2 : b = p
        · rw [if_pos h2]; exact hM a hlt
        · rw [if_neg h2]; exact ht a b oa ob hr
  · rcases onof a ha with rfl | ⟨_, oa⟩
    · intro b hb z; rw [offp b hb] at z; cases z
    · exact fr a (c.free a oa)
  · have key : ∀ b, Gat P e b → b ≠ p → Gat P (press P e p) b := by
      intro b g
      induction g with
      | @base a b ha hr hb =>
        intro hne
        have hlt := ok.lt a b hr
        by_cases h2 : b ∈ rel P p
        · exact .base onp h2 (offp b h2)
        · have ob : isOff (press P e p) b := by unfold isOff; rw [oth b hlt hne h2]; exact hb
          by_cases h3 : a = p
          · subst h3; exact absurd hr h2
          · by_cases h4 : a ∈ rel P p
            · exact .step (.base onp h4 (offp a h4)) (fr a (c.free a ha)) hr ob
            · refine .base ?_ hr ob
              unfold isOn; rw [oth a (ok.src hr) h3 h4]; exact ha
      | @step a b ga fa hr hb ih =>
        intro hne
        have hlt := ok.lt a b hr
        by_cases h2 : b ∈ rel P p
        · exact .base onp h2 (offp b h2)
        · have ob : isOff (press P e p) b := by unfold isOff; rw [oth b hlt hne h2]; exact hb
          by_cases h3 : a = p
          · subst h3; exact absurd hr h2
          · exact .step (ih h3) (fr a fa) hr ob
    have hbp : b ≠ p := fun z => by unfold isOff at hb; rw [z, onp] at hb; cases hb
    by_cases h2 : b ∈ rel P p
    · exact .base onp h2 hb
    · have hlt := bnd b (by unfold isOff at hb; rw [hb]; intro z; cases z)
      refine key b (c.gat b ?_) hbp
      unfold isOff at hb ⊢; rw [oth b hlt hbp h2] at hb; exact hb
theorem reach_cond {P : Pan} (ok : PanOk P) {e : List W} (r : Reach P e) : Cond P e := by
  induction r with
  | start => exact cond_start P
  | press r hp ih => exact cond_press ok (reach_len r) hp ih

/-! ### a tuple with the conditions is an effect -/
/-- one more press ahead of the row -/
def ahead (P : Pan) (e : List W) (h : Nat) : List W := e.mapIdx fun b w => if w = same then cw P h b same else w
theorem ahead_len {P : Pan} {e : List W} {h : Nat} : (ahead P e h).length = e.length := List.length_mapIdx
theorem wd_ahead {P : Pan} {e : List W} {h b : Nat} (hb : b < e.length) : wd (ahead P e h) b = if wd e b = same then cw P h b same else wd e b := by
  apply wd_get; unfold ahead; rw [List.getElem?_mapIdx, get_wd hb]; rfl
theorem reach_ahead {P : Pan} {e : List W} {h : Nat} (hh : h < P.length) (r : Reach P e) : Reach P (ahead P e h) := by
  induction r with
  | start =>
    have : ahead P (List.replicate P.length same) h = press P (List.replicate P.length same) h := by
      apply ext_wd (by rw [ahead_len, press_len])
      intro b hb
      rw [ahead_len] at hb
      rw [wd_ahead hb, wd_press hb, wd_rep, if_pos rfl]
    rw [this]
    exact .press .start hh
  | @press e p r hp ih =>
    have : ahead P (press P e p) h = press P (ahead P e h) p := by
      apply ext_wd (by rw [ahead_len, press_len, press_len, ahead_len])
      intro b hb
      rw [ahead_len, press_len] at hb
      rw [wd_ahead (by rw [press_len]; exact hb), wd_press hb, wd_press (by rw [ahead_len]; exact hb), wd_ahead hb]
      unfold cw
      by_cases h1 : b = p
      · rw [if_pos h1, if_pos h1, if_neg (by intro z; cases z)]
      · rw [if_neg h1, if_neg h1]
        by_cases h2 : b ∈ rel P p
        · rw [if_pos h2, if_pos h2, if_neg (by intro z; cases z)]
        · rw [if_neg h2, if_neg h2]
    rw [this]
    exact .press ih hp
/-- pressing a set of buttons in the order of a rank -/
theorem reach_on {P : Pan} (ok : PanOk P) (t : Nat → Nat) : ∀ (m : Nat) (S : Nat → Prop), (∀ b, S b → b < P.length) → Rank P S t → (∀ l : List Nat, l.Nodup → (∀ b, b ∈ l → S b) → l.length ≤ m) →
    ∃ e, Reach P e ∧ (∀ b, isOn e b ↔ S b) ∧ (∀ b, isOff e b ↔ (¬ S b ∧ ∃ a, S a ∧ b ∈ rel P a)) := by
  intro m
  induction m with
  | zero =>
    intro S hS _ hm
    have no : ∀ b, ¬ S b := fun b hb => by
      have := hm [b] (by simp) (fun c hc => by have e : c = b := by simpa using hc
                                               rw [e]; exact hb)
      simp at this
    refine ⟨_, .start, fun b => ⟨fun h => ?_, fun h => absurd h (no b)⟩, fun b => ⟨fun h => ?_, fun ⟨_, a, ha, _⟩ => absurd ha (no a)⟩⟩
    · unfold isOn at h; rw [wd_rep] at h; cases h
    · unfold isOff at h; rw [wd_rep] at h; cases h
  | succ m ih =>
    intro S hS hr hm
    by_cases hex : ∃ b, S b
    · -- one of least rank
      have least : ∀ k, (∃ b, S b ∧ t b ≤ k) → ∃ b, S b ∧ ∀ a, S a → t b ≤ t a := by
        intro k
        induction k with
        | zero =>
          rintro ⟨b, hb, h0⟩
          exact ⟨b, hb, fun a _ => by omega⟩
        | succ k ihk =>
          rintro ⟨b, hb, h0⟩
          by_cases q : ∃ c, S c ∧ t c ≤ k
          · exact ihk q
          · refine ⟨b, hb, fun a ha => ?_⟩
            have : ¬ t a ≤ k := fun z => q ⟨a, ha, z⟩
            omega
      obtain ⟨b0, hb0⟩ := hex
      obtain ⟨x, hx, hmin⟩ := least (t b0) ⟨b0, hb0, Nat.le_refl _⟩
      have nrel : ∀ a, S a → x ∉ rel P a := fun a ha z => by
        have := hr a x ha hx z
        have := hmin a ha
        omega
      obtain ⟨e, re, hon, hoff⟩ := ih (fun b => S b ∧ b ≠ x) (fun b hb => hS b hb.1) (fun a b ha hb q => hr a b ha.1 hb.1 q) (fun l nd hl => by
        have := hm (x :: l) (List.nodup_cons.mpr ⟨fun z => (hl x z).2 rfl, nd⟩) (fun c hc => by
          rcases List.mem_cons.mp hc with rfl | hc
          · exact hx
          · exact (hl c hc).1)
        simpa using this)
      have el := reach_len re
      have ex : wd e x = same := by
        cases q : wd e x with
        | same => rfl
        | on => exact absurd rfl ((hon x).mp q).2
        | off =>
          obtain ⟨_, a, ha, hra⟩ := (hoff x).mp q
          exact absurd hra (nrel a ha.1)
      have hxl := hS x hx
      refine ⟨ahead P e x, reach_ahead hxl re, fun b => ?_, fun b => ?_⟩
      · constructor
        · intro h
          have hb : b < e.length := by
            have := wd_lt (e := ahead P e x) (b := b) (by unfold isOn at h; rw [h]; intro z; cases z)
            rw [ahead_len] at this; exact this
          unfold isOn at h
          rw [wd_ahead hb] at h
          by_cases q : wd e b = same
          · rw [if_pos q] at h
            unfold cw at h
            by_cases q1 : b = x
            · rw [q1]; exact hx
            · rw [if_neg q1] at h
              by_cases q2 : b ∈ rel P x
              · rw [if_pos q2] at h; cases h
              · rw [if_neg q2] at h; cases h
          · rw [if_neg q] at h
            exact ((hon b).mp h).1
        · intro h
          have hb : b < e.length := by rw [el]; exact hS b h
          unfold isOn
          rw [wd_ahead hb]
          by_cases q1 : b = x
          · subst q1
            rw [if_pos ex]; unfold cw; rw [if_pos rfl]
          · have : wd e b = on := (hon b).mpr ⟨h, q1⟩
            rw [if_neg (by rw [this]; intro z; cases z)]; exact this
      · constructor
        · intro h
          have hb : b < e.length := by
            have := wd_lt (e := ahead P e x) (b := b) (by unfold isOff at h; rw [h]; intro z; cases z)
            rw [ahead_len] at this; exact this
          unfold isOff at h
          rw [wd_ahead hb] at h
          by_cases q : wd e b = same
          · rw [if_pos q] at h
            unfold cw at h
            by_cases q1 : b = x
            · rw [if_pos q1] at h; cases h
            · rw [if_neg q1] at h
              by_cases q2 : b ∈ rel P x
              · refine ⟨fun z => ?_, x, hx, q2⟩
                have : wd e b = on := (hon b).mpr ⟨z, q1⟩
                rw [this] at q; cases q
              · rw [if_neg q2] at h; cases h
          · rw [if_neg q] at h
            obtain ⟨n1, a, ha, hra⟩ := (hoff b).mp h
            refine ⟨fun z => n1 ⟨z, fun w => ?_⟩, a, ha.1, hra⟩
            rw [w, ex] at h; cases h
        · rintro ⟨n1, a, ha, hra⟩
          have hb : b < e.length := by rw [el]; exact ok.lt a b hra
          have hbx : b ≠ x := fun z => n1 (z ▸ hx)
          unfold isOff
          rw [wd_ahead hb]
          cases q : wd e b with
          | same =>
            rw [if_pos rfl]; unfold cw; rw [if_neg hbx]
            by_cases hax : a = x
            · subst hax; rw [if_pos hra]
            · have : wd e b = off := (hoff b).mpr ⟨fun z => n1 z.1, a, ⟨ha, hax⟩, hra⟩
              rw [this] at q; cases q
          | on => exact absurd ((hon b).mp q).1 n1
          | off => rw [if_neg (by intro z; cases z)]
    · have no : ∀ b, ¬ S b := fun b hb => hex ⟨b, hb⟩
      refine ⟨_, .start, fun b => ⟨fun h => ?_, fun h => absurd h (no b)⟩, fun b => ⟨fun h => ?_, fun ⟨_, a, ha, _⟩ => absurd ha (no a)⟩⟩
      · unfold isOn at h; rw [wd_rep] at h; cases h
      · unfold isOff at h; rw [wd_rep] at h; cases h
/-- what is still to be gathered -/
def lack (w e : List W) : Nat := (List.range w.length).countP fun b => decide (wd w b = off ∧ wd e b = same)
theorem reach_more {P : Pan} (ok : PanOk P) {w : List W} (hl : w.length = P.length) (c : Cond P w) : ∀ (m : Nat) (e : List W), lack w e ≤ m → Reach P e → (∀ b, isOn e b ↔ isOn w b) → (∀ b, isOff e b → isOff w b) →
    (∀ a b, isOn w a → b ∈ rel P a → isOff w b → isOff e b) → Reach P w := by
  intro m
  induction m with
  | zero =>
    intro e hm re hon hoff _
    have : w = e := by
      apply ext_wd (hl.trans (reach_len re).symm)
      intro b hb
      cases q : wd w b with
      | on => exact ((hon b).mpr q).symm
      | off =>
        cases r : wd e b with
        | on => have := (hon b).mp r; unfold isOn at this; rw [this] at q; cases q
        | off => rfl
        | same =>
          have hz : lack w e = 0 := by omega
          unfold lack at hz
          rw [List.countP_eq_zero] at hz
          have := hz b (List.mem_range.mpr hb)
          simp [q, r] at this
      | same =>
        cases r : wd e b with
        | on => have := (hon b).mp r; unfold isOn at this; rw [this] at q; cases q
        | off => have := hoff b r; unfold isOff at this; rw [this] at q; cases q
        | same => rfl
    rw [this]; exact re
  | succ m ih =>
    intro e hm re hon hoff hbase
    by_cases hex : ∃ b, isOff w b ∧ wd e b = same
    · obtain ⟨b0, ho, hs⟩ := hex
      have find : ∀ b, Gat P w b → wd e b = same → ∃ h x, isOff e h ∧ Free P w h ∧ x ∈ rel P h ∧ isOff w x ∧ wd e x = same := by
        intro b g
        induction g with
        | @base a b ha hr hb =>
          intro hs
          have := hbase a b ha hr hb
          unfold isOff at this; rw [this] at hs; cases hs
        | @step a b ga fa hr hb ih =>
          intro hs
          cases q : wd e a with
          | same => exact ih q
          | off => exact ⟨a, b, q, fa, hr, hb, hs⟩
          | on => have := (hon a).mp q; have := ga.off; unfold isOff at this; unfold isOn at *; simp_all
      obtain ⟨h, x, hh, fh, hx, hwx, hex⟩ := find b0 (c.gat b0 ho) hs
      have el := reach_len re
      have hhl : h < P.length := ok.src hx
      have wa : ∀ b, b < P.length → wd (ahead P e h) b = if wd e b = same then cw P h b same else wd e b := fun b hb => wd_ahead (by rw [el]; exact hb)
      have bnd : ∀ b, wd (ahead P e h) b ≠ same → b < P.length := fun b hb => by
        have := wd_lt hb; rw [ahead_len, el] at this; exact this
      have same_or : ∀ b, b < P.length → wd (ahead P e h) b = wd e b ∨ (b ∈ rel P h ∧ wd e b = same ∧ wd (ahead P e h) b = off) := fun b hb => by
        rw [wa b hb]
        by_cases q : wd e b = same
        · rw [if_pos q]
          have : b ≠ h := fun z => by unfold isOff at hh; rw [z, hh] at q; cases q
          unfold cw
          rw [if_neg this]
          by_cases q2 : b ∈ rel P h
          · rw [if_pos q2]; exact .inr ⟨q2, q, rfl⟩
          · rw [if_neg q2]; exact .inl q.symm
        · rw [if_neg q]; exact .inl rfl
      refine ih (ahead P e h) ?_ (reach_ahead hhl re) (fun b => ?_) (fun b hb => ?_) (fun a b ha hr hb => ?_)
      · -- less lacks
        have step : lack w (ahead P e h) < lack w e := by
          have hxl : x < w.length := by rw [hl]; exact ok.lt h x hx
          unfold lack
          have key : ∀ l : List Nat, (∀ b ∈ l, b < P.length) → x ∈ l → l.countP (fun b => decide (wd w b = off ∧ wd (ahead P e h) b = same)) < l.countP (fun b => decide (wd w b = off ∧ wd e b = same)) := by
            have le : ∀ l : List Nat, (∀ b ∈ l, b < P.length) → l.countP (fun b => decide (wd w b = off ∧ wd (ahead P e h) b = same)) ≤ l.countP (fun b => decide (wd w b = off ∧ wd e b = same)) := by
              intro l hl'
              apply List.countP_mono_left
              intro b hb hd
              have hd := of_decide_eq_true hd
              apply decide_eq_true
              refine ⟨hd.1, ?_⟩
              rcases same_or b (hl' b hb) with q | ⟨_, q, _⟩
              · rw [← q]; exact hd.2
              · exact q
            intro l
            induction l with
            | nil => intro _ h; cases h
            | cons b r ihl =>
              intro hb hm
              have hle := le r fun c hc => hb c (List.mem_cons_of_mem _ hc)
              rw [List.countP_cons, List.countP_cons]
              by_cases e1 : b = x
              · subst e1
                have n1 : wd (ahead P e h) b = off := by
                  rw [wa b (by rw [← hl]; exact hxl), if_pos hex]
                  unfold cw
                  rw [if_neg (fun z => by unfold isOff at hh; rw [z, hh] at hex; cases hex), if_pos hx]
                unfold isOff at hwx
                rw [if_neg (by simp [n1]), if_pos (by simp [hwx, hex])]
                omega
              · have hm' : x ∈ r := by
                  rcases List.mem_cons.mp hm with q | q
                  · exact absurd q.symm e1
                  · exact q
                have := ihl (fun c hc => hb c (List.mem_cons_of_mem _ hc)) hm'
                have i1 : (if decide (wd w b = off ∧ wd (ahead P e h) b = same) = true then 1 else 0) ≤ (if decide (wd w b = off ∧ wd e b = same) = true then 1 else 0) := by
                  by_cases z : wd w b = off ∧ wd (ahead P e h) b = same
                  · have : wd w b = off ∧ wd e b = same := by
                      refine ⟨z.1, ?_⟩
                      rcases same_or b (hb b List.mem_cons_self) with q | ⟨_, q, _⟩
                      · rw [← q]; exact z.2
                      · exact q
                    rw [if_pos (decide_eq_true z), if_pos (decide_eq_true this)]
                    exact Nat.le_refl _
                  · rw [if_neg (by simpa using z)]; exact Nat.zero_le _
                omega
          exact key _ (fun b hb => by rw [← hl]; exact List.mem_range.mp hb) (List.mem_range.mpr hxl)
        omega
      · constructor
        · intro q
          have hb := bnd b (by unfold isOn at q; rw [q]; intro z; cases z)
          rcases same_or b hb with r | ⟨_, _, r⟩
          · unfold isOn at q; rw [r] at q; exact (hon b).mp q
          · unfold isOn at q; rw [r] at q; cases q
        · intro q
          have hb : b < P.length := by rw [← hl]; exact wd_lt (by unfold isOn at q; rw [q]; intro z; cases z)
          have q' := (hon b).mpr q
          rcases same_or b hb with r | ⟨_, r, _⟩
          · unfold isOn; rw [r]; exact q'
          · unfold isOn at q'; rw [r] at q'; cases q'
      · have hlt := bnd b (by unfold isOff at hb; rw [hb]; intro z; cases z)
        rcases same_or b hlt with r | ⟨r1, r2, _⟩
        · unfold isOff at hb; rw [r] at hb; exact hoff b hb
        · cases q : wd w b with
          | off => exact q
          | same => exact absurd q (fh b r1)
          | on => have := (hon b).mpr q; unfold isOn at this; rw [this] at r2; cases r2
      · have q := hbase a b ha hr hb
        rcases same_or b (ok.lt a b hr) with r | ⟨_, _, r⟩
        · unfold isOff; rw [r]; exact q
        · exact r
    · refine ih e ?_ re hon hoff hbase
      have : lack w e = 0 := by
        unfold lack
        rw [List.countP_eq_zero]
        intro b _ hd
        exact hex ⟨b, (of_decide_eq_true hd).1, (of_decide_eq_true hd).2⟩
      omega
theorem cond_reach {P : Pan} (ok : PanOk P) {w : List W} (hl : w.length = P.length) (c : Cond P w) : Reach P w := by
  obtain ⟨t, ht⟩ := c.acy
  have lt_of : ∀ b, wd w b ≠ same → b < P.length := fun b h => by rw [← hl]; exact wd_lt h
  obtain ⟨e, re, hon, hoff⟩ := reach_on ok t P.length (isOn w) (fun b hb => lt_of b (by unfold isOn at hb; rw [hb]; intro z; cases z)) ht (fun l nd hm => by
    have := nd.length_le_of_subset (l₂ := List.range P.length) (fun b hb => List.mem_range.mpr (lt_of b (by have := hm b hb; unfold isOn at this; rw [this]; intro z; cases z)))
    simpa using this)
  refine reach_more ok hl c _ e (Nat.le_refl _) re hon (fun b hb => ?_) (fun a b ha hr hb => ?_)
  · obtain ⟨n1, a, ha, hra⟩ := (hoff b).mp hb
    cases q : wd w b with
    | off => exact q
    | on => exact absurd q n1
    | same => exact absurd q (c.free a ha b hra)
  · exact (hoff b).mpr ⟨fun z => (by unfold isOff at hb; unfold isOn at z; rw [z] at hb; cases hb), a, ha, hr⟩
theorem reach_iff {P : Pan} (ok : PanOk P) {w : List W} : Reach P w ↔ (w.length = P.length ∧ Cond P w) :=
  ⟨fun r => ⟨reach_len r, reach_cond ok r⟩, fun ⟨h, c⟩ => cond_reach ok h c⟩
end K19

/-! part MathB -/
/-! The plain law, part B: what the loops keep: the search for a round, the order, the gathering; lists of words in their order. -/
namespace K19
open W
theorem Acy.sub {P : Pan} {S T : Nat → Prop} (h : ∀ b, T b → S b) (a : Acy P S) : Acy P T := let ⟨t, ht⟩ := a; ⟨t, fun x y hx hy r => ht x y (h x hx) (h y hy) r⟩
/-! ### the search for a round -/
/-- no round through x within A -/
def Closed (P : Pan) (x : Nat) (A : List Nat) : Prop := ∃ F : Nat → Prop, F x ∧ ∀ f, F f → ∀ b, b ∈ rel P f → b ≠ x ∧ (b ∈ A → F b)
theorem bound_of (t : Nat → Nat) : ∀ l : List Nat, ∃ M, ∀ a, a ∈ l → t a < M
  | [] => ⟨0, fun _ h => by cases h⟩
  | x :: r => by
    obtain ⟨M, h⟩ := bound_of t r
    refine ⟨max M (t x + 1), fun a ha => ?_⟩
    rcases List.mem_cons.mp ha with rfl | ha
    · omega
    · have := h a ha; omega
theorem closed_acy {P : Pan} {x : Nat} {r : List Nat} (c : Closed P x (x :: r)) (h : Acy P (· ∈ r)) : Acy P (· ∈ x :: r) := by
  obtain ⟨F, hx, hF⟩ := c
  obtain ⟨t, ht⟩ := h
  obtain ⟨M, hM⟩ := bound_of t r
  have pr : DecidablePred F := fun b => Classical.propDecidable (F b)
  refine ⟨fun b => if b = x then M else if F b then M + 1 + t b else t b, fun a b ha hb hr => ?_⟩
  show (if a = x then M else if F a then M + 1 + t a else t a) < (if b = x then M else if F b then M + 1 + t b else t b)
  by_cases hbx : b = x
  · rw [if_pos hbx]
    have nF : ¬ F a := fun z => (hF a z b hr).1 hbx
    have nax : a ≠ x := fun z => nF (z ▸ hx)
    rw [if_neg nax, if_neg nF]
    exact hM a ((List.mem_cons.mp ha).resolve_left nax)
  · rw [if_neg hbx]
    have hb' : b ∈ r := (List.mem_cons.mp hb).resolve_left hbx
    by_cases hax : a = x
    · rw [if_pos hax]
      have : F b := (hF a (hax ▸ hx) b hr).2 hb
      rw [if_pos this]; omega
    · rw [if_neg hax]
      have ha' : a ∈ r := (List.mem_cons.mp ha).resolve_left hax
      have lt := ht a b ha' hb' hr
      by_cases fa : F a
      · have fb : F b := (hF a fa b hr).2 hb
        rw [if_pos fa, if_pos fb]; omega
      · rw [if_neg fa]
        have := hM a ha'
        by_cases fb : F b
        · rw [if_pos fb]; omega
        · rw [if_neg fb]; exact lt
theorem all_closed {P : Pan} : ∀ S : List Nat, (∀ i x, S[i]? = some x → Closed P x (S.drop i)) → Acy P (· ∈ S)
  | [], _ => ⟨fun _ => 0, fun a _ h => by cases h⟩
  | x :: r, h => closed_acy (h 0 x rfl) (all_closed r fun i y e => h (i + 1) y e)
/-- between two turns of the outer loop -/
structure WB (P : Pan) (x : Nat) (A : List Nat) (ws : List (List Nat)) (found : List Nat) : Prop where
  ne : ∀ w, w ∈ ws → ∃ z, w.getLast? = some z ∧ z ∈ found
  sub : ∀ f, f ∈ found → f = x ∨ f ∈ A
  hx : x ∈ found
  nd : found.Nodup
  done : ∀ f, f ∈ found → (∃ w, w ∈ ws ∧ w.getLast? = some f) ∨ ∀ b, b ∈ rel P f → b ≠ x ∧ (b ∈ A → b ∈ found)
  rk : ∀ t, Rank P (· ∈ A) t → ∀ w, w ∈ ws → ∀ z, w.getLast? = some z → t x ≤ t z
/-- within: z is the last of the way w, which was taken out; pre of its list is done -/
structure WBI (P : Pan) (x : Nat) (A : List Nat) (ws : List (List Nat)) (found : List Nat) (z : Nat) (pre : List Nat) : Prop where
  ne : ∀ w, w ∈ ws → ∃ z, w.getLast? = some z ∧ z ∈ found
  sub : ∀ f, f ∈ found → f = x ∨ f ∈ A
  hx : x ∈ found
  nd : found.Nodup
  hz : z ∈ found
  done : ∀ f, f ∈ found → f = z ∨ (∃ w, w ∈ ws ∧ w.getLast? = some f) ∨ ∀ b, b ∈ rel P f → b ≠ x ∧ (b ∈ A → b ∈ found)
  rk : ∀ t, Rank P (· ∈ A) t → ∀ w, w ∈ ws → ∀ z, w.getLast? = some z → t x ≤ t z
  rz : ∀ t, Rank P (· ∈ A) t → t x ≤ t z
  pre : ∀ b, b ∈ pre → b ≠ x ∧ (b ∈ A → b ∈ found)
section
variable {P : Pan} {x z b : Nat} {A found pre w : List Nat} {ws : List (List Nat)}
theorem WB.start (P : Pan) (x : Nat) (A : List Nat) : WB P x A [[x]] [x] where
  ne := fun w h => by
    have : w = [x] := by simpa using h
    subst this; exact ⟨x, rfl, by simp⟩
  sub := fun f h => .inl (by simpa using h)
  hx := by simp
  nd := by simp
  done := fun f h => .inl ⟨[x], by simp, by have : f = x := by simpa using h
                                            rw [this]; rfl⟩
  rk := fun t _ w h z e => by
    have : w = [x] := by simpa using h
    subst this
    have : x = z := Option.some.inj e
    rw [this]; exact Nat.le_refl _
theorem WB.enter (h : WB P x A (w :: ws) found) (hw : w.getLast? = some z) : WBI P x A ws found z [] where
  ne := fun v hv => h.ne v (List.mem_cons_of_mem _ hv)
  sub := h.sub
  hx := h.hx
  nd := h.nd
  hz := by
    obtain ⟨z', e, m⟩ := h.ne w List.mem_cons_self
    rw [hw] at e; cases e; exact m
  done := fun f hf => by
    rcases h.done f hf with ⟨v, hv, e⟩ | q
    · rcases List.mem_cons.mp hv with rfl | hv
      · rw [hw] at e; cases e; exact .inl rfl
      · exact .inr (.inl ⟨v, hv, e⟩)
    · exact .inr (.inr q)
  rk := fun t ht v hv => h.rk t ht v (List.mem_cons_of_mem _ hv)
  rz := fun t ht => h.rk t ht w List.mem_cons_self z hw
  pre := fun b hb => by cases hb
theorem WBI.hit (h : WBI P x A ws found z pre) (hxA : x ∈ A) (hr : x ∈ rel P z) : ¬ Acy P (· ∈ A) := fun ⟨t, ht⟩ => by
  have h1 := h.rz t ht
  have zA : z ∈ A := by
    rcases h.sub z h.hz with q | q
    · rw [q]; exact hxA
    · exact q
  have := ht z x zA hxA hr
  omega
theorem WBI.add (h : WBI P x A ws found z pre) (hxA : x ∈ A) (hr : b ∈ rel P z) (hb : b ≠ x) (hA : b ∈ A) (hn : b ∉ found) : WBI P x A (ws ++ [w ++ [b]]) (found ++ [b]) z (pre ++ [b]) where
  ne := fun v hv => by
    rcases List.mem_append.mp hv with hv | hv
    · obtain ⟨z', e, m⟩ := h.ne v hv
      exact ⟨z', e, List.mem_append_left _ m⟩
    · have : v = w ++ [b] := by simpa using hv
      subst this
      exact ⟨b, List.getLast?_concat, by simp⟩
  sub := fun f hf => by
    rcases List.mem_append.mp hf with hf | hf
    · exact h.sub f hf
    · have : f = b := by simpa using hf
      rw [this]; exact .inr hA
  hx := List.mem_append_left _ h.hx
  nd := by
    rw [List.nodup_append]
    exact ⟨h.nd, by simp, fun c hc d hd e => by have : d = b := by simpa using hd
                                                subst this; subst e; exact hn hc⟩
  hz := List.mem_append_left _ h.hz
  done := fun f hf => by
    rcases List.mem_append.mp hf with hf | hf
    · rcases h.done f hf with q | ⟨v, hv, e⟩ | q
      · exact .inl q
      · exact .inr (.inl ⟨v, List.mem_append_left _ hv, e⟩)
      · exact .inr (.inr fun c hc => ⟨(q c hc).1, fun m => List.mem_append_left _ ((q c hc).2 m)⟩)
    · have : f = b := by simpa using hf
      subst this
      exact .inr (.inl ⟨w ++ [f], by simp, List.getLast?_concat⟩)
  rk := fun t ht v hv z' e => by
    rcases List.mem_append.mp hv with hv | hv
    · exact h.rk t ht v hv z' e
    · have : v = w ++ [b] := by simpa using hv
      subst this
      rw [List.getLast?_concat] at e
      cases e
      have zA : z ∈ A := by
        rcases h.sub z h.hz with q | q
        · rw [q]; exact hxA
        · exact q
      have := ht z b zA hA hr
      have := h.rz t ht
      omega
  rz := h.rz
  pre := fun c hc => by
    rcases List.mem_append.mp hc with hc | hc
    · exact ⟨(h.pre c hc).1, fun m => List.mem_append_left _ ((h.pre c hc).2 m)⟩
    · have : c = b := by simpa using hc
      subst this
      exact ⟨hb, fun _ => by simp⟩
theorem WBI.skip (h : WBI P x A ws found z pre) (hb : b ≠ x) (hn : b ∈ A → b ∈ found) : WBI P x A ws found z (pre ++ [b]) :=
  { h with
    pre := fun c hc => by
      rcases List.mem_append.mp hc with hc | hc
      · exact h.pre c hc
      · have : c = b := by simpa using hc
        subst this
        exact ⟨hb, hn⟩ }
theorem WBI.leave (h : WBI P x A ws found z (rel P z)) : WB P x A ws found where
  ne := h.ne
  sub := h.sub
  hx := h.hx
  nd := h.nd
  done := fun f hf => by
    rcases h.done f hf with rfl | q | q
    · exact .inr h.pre
    · exact .inl q
    · exact .inr q
  rk := h.rk
theorem WB.closed (h : WB P x A [] found) : Closed P x A := by
  refine ⟨(· ∈ found), h.hx, fun f hf => ?_⟩
  rcases h.done f hf with ⟨_, hv, _⟩ | q
  · cases hv
  · exact q
theorem WB.size (h : WB P x A ws found) : found.length ≤ A.length + 1 := by
  have := h.nd.length_le_of_subset (l₂ := x :: A) fun f hf => by
    rcases h.sub f hf with q | q
    · rw [q]; exact List.mem_cons_self
    · exact List.mem_cons_of_mem _ q
  simpa using this
theorem WBI.size (h : WBI P x A ws found z pre) : found.length ≤ A.length + 1 := by
  have := h.nd.length_le_of_subset (l₂ := x :: A) fun f hf => by
    rcases h.sub f hf with q | q
    · rw [q]; exact List.mem_cons_self
    · exact List.mem_cons_of_mem _ q
  simpa using this
end
/-! ### the order -/
structure OI (P : Pan) (S left order : List Nat) : Prop where
  mem : ∀ b, b ∈ S ↔ b ∈ order ∨ b ∈ left
  pw : order.Pairwise fun a b => a ∉ rel P b
  cr : ∀ a, a ∈ order → ∀ b, b ∈ left → a ∉ rel P b
section
variable {P : Pan} {S left order : List Nat}
theorem OI.start : OI P S S [] := ⟨fun b => by simp, .nil, fun a h => by cases h⟩
theorem OI.step (h : OI P S left order) {j c : Nat} (hj : left[j]? = some c) (hc : ∀ a, a ∈ left → c ∉ rel P a) : OI P S (left.eraseIdx j) (order ++ [c]) where
  mem := fun b => by
    rw [h.mem b, List.mem_append, List.mem_singleton]
    constructor
    · rintro (q | q)
      · exact .inl (.inl q)
      · obtain ⟨i, hi⟩ := List.mem_iff_getElem?.mp q
        by_cases e : i = j
        · subst e
          rw [hj] at hi; cases hi
          exact .inl (.inr rfl)
        · exact .inr (List.mem_eraseIdx_iff_getElem?.mpr ⟨i, e, hi⟩)
    · rintro ((q | q) | q)
      · exact .inl q
      · rw [q]; exact .inr (List.mem_of_getElem? hj)
      · exact .inr (List.eraseIdx_subset q)
  pw := by
    rw [List.pairwise_append]
    refine ⟨h.pw, by simp, fun a ha b hb => ?_⟩
    have : b = c := by simpa using hb
    rw [this]
    exact h.cr a ha c (List.mem_of_getElem? hj)
  cr := fun a ha b hb => by
    have hb' : b ∈ left := List.eraseIdx_subset hb
    rcases List.mem_append.mp ha with q | q
    · exact h.cr a q b hb'
    · have : a = c := by simpa using q
      rw [this]; exact hc b hb'
theorem OI.done (ok : PanOk P) (h : OI P S [] order) : Acy P (· ∈ S) ∧ ∀ b, b ∈ order ↔ b ∈ S := by
  have mem : ∀ b, b ∈ order ↔ b ∈ S := fun b => by rw [h.mem b]; simp
  refine ⟨⟨fun b => order.idxOf b, fun a b ha hb hr => ?_⟩, mem⟩
  have ha := (mem a).mpr ha
  have hb := (mem b).mpr hb
  have la := List.idxOf_lt_length_of_mem ha
  have lb := List.idxOf_lt_length_of_mem hb
  have ea : order[order.idxOf a] = a := List.getElem_idxOf la
  have eb : order[order.idxOf b] = b := List.getElem_idxOf lb
  rcases Nat.lt_trichotomy (order.idxOf a) (order.idxOf b) with q | q | q
  · exact q
  · have : a = b := by
      rw [← ea, ← eb]; simp only [q]
    subst this
    exact absurd hr (ok.ne a)
  · have := List.pairwise_iff_getElem.mp h.pw _ _ lb la q
    rw [ea, eb] at this
    exact absurd hr this
theorem OI.stuck (h : OI P S left order) (hne : left ≠ []) (hs : ∀ b, b ∈ left → ∃ a, a ∈ left ∧ b ∈ rel P a) : ¬ Acy P (· ∈ S) := fun ⟨t, ht⟩ => by
  have sub : ∀ b, b ∈ left → b ∈ S := fun b hb => (h.mem b).mpr (.inr hb)
  have no : ∀ k b, b ∈ left → t b ≤ k → False := by
    intro k
    induction k with
    | zero =>
      intro b hb hk
      obtain ⟨a, ha, hr⟩ := hs b hb
      have := ht a b (sub a ha) (sub b hb) hr
      omega
    | succ k ih =>
      intro b hb hk
      obtain ⟨a, ha, hr⟩ := hs b hb
      have := ht a b (sub a ha) (sub b hb) hr
      exact ih a ha (by omega)
  cases left with
  | nil => exact hne rfl
  | cons b r => exact no _ b List.mem_cons_self (Nat.le_refl _)
end
/-! ### the gathering, by a queue -/
structure GI (P : Pan) (e : List W) (g waiting : List Nat) : Prop where
  gg : ∀ b, b ∈ g → Gat P e b
  nd : g.Nodup
  wt : ∀ a, a ∈ waiting → isOn e a ∨ (Gat P e a ∧ Free P e a)
  dn : ∀ a, (isOn e a ∨ (a ∈ g ∧ Free P e a)) → a ∈ waiting ∨ ∀ b, b ∈ rel P a → isOff e b → b ∈ g
section
variable {P : Pan} {e : List W} {g waiting : List Nat} {a : Nat}
theorem GI.start {S : List Nat} (h : ∀ b, b ∈ S ↔ isOn e b) : GI P e [] S :=
  ⟨fun b h => (by cases h), .nil, fun a ha => .inl ((h a).mp ha), fun a ha => by
    rcases ha with q | ⟨q, _⟩
    · exact .inl ((h a).mpr q)
    · cases q⟩
theorem GI.step (h : GI P e g (a :: waiting)) {new fr : List Nat} (hn : ∀ b, b ∈ new ↔ b ∈ rel P a ∧ isOff e b ∧ b ∉ g) (nn : new.Nodup) (hf : ∀ b, b ∈ fr ↔ b ∈ new ∧ Free P e b) : GI P e (g ++ new) (waiting ++ fr) where
  gg := fun b hb => by
    rcases List.mem_append.mp hb with q | q
    · exact h.gg b q
    · obtain ⟨h1, h2, _⟩ := (hn b).mp q
      rcases h.wt a List.mem_cons_self with r | ⟨r1, r2⟩
      · exact .base r h1 h2
      · exact .step r1 r2 h1 h2
  nd := by
    rw [List.nodup_append]
    exact ⟨h.nd, nn, fun c hc d hd z => ((hn d).mp hd).2.2 (z ▸ hc)⟩
  wt := fun c hc => by
    rcases List.mem_append.mp hc with q | q
    · exact h.wt c (List.mem_cons_of_mem _ q)
    · obtain ⟨q1, q2⟩ := (hf c).mp q
      obtain ⟨h1, h2, _⟩ := (hn c).mp q1
      refine .inr ⟨?_, q2⟩
      rcases h.wt a List.mem_cons_self with r | ⟨r1, r2⟩
      · exact .base r h1 h2
      · exact .step r1 r2 h1 h2
  dn := fun c hc => by
    have all : ∀ b, b ∈ rel P a → isOff e b → b ∈ g ++ new := fun b hb ho => by
      by_cases q : b ∈ g
      · exact List.mem_append_left _ q
      · exact List.mem_append_right _ ((hn b).mpr ⟨hb, ho, q⟩)
    have old : (isOn e c ∨ (c ∈ g ∧ Free P e c)) → c ∈ waiting ++ fr ∨ ∀ b, b ∈ rel P c → isOff e b → b ∈ g ++ new := fun hc => by
      rcases h.dn c hc with q | q
      · rcases List.mem_cons.mp q with rfl | q
        · exact .inr all
        · exact .inl (List.mem_append_left _ q)
      · exact .inr fun b hb ho => List.mem_append_left _ (q b hb ho)
    rcases hc with q | ⟨q, f⟩
    · exact old (.inl q)
    · rcases List.mem_append.mp q with q | q
      · exact old (.inr ⟨q, f⟩)
      · exact .inl (List.mem_append_right _ ((hf c).mpr ⟨q, f⟩))
theorem GI.all (h : GI P e g []) {b : Nat} (q : Gat P e b) : b ∈ g := by
  induction q with
  | @base a b ha hr hb =>
    rcases h.dn a (.inl ha) with z | z
    · cases z
    · exact z b hr hb
  | @step a b _ fa hr hb ih =>
    rcases h.dn a (.inr ⟨ih, fa⟩) with z | z
    · cases z
    · exact z b hr hb
theorem GI.size (h : GI P e g waiting) : g.length ≤ e.length := by
  have := h.nd.length_le_of_subset (l₂ := List.range e.length) fun b hb => List.mem_range.mpr (wd_lt (by have := (h.gg b hb).off; unfold isOff at this; rw [this]; intro z; cases z))
  simpa using this
end
/-- how many have the word off -/
theorem count_off {e : List W} {g : List Nat} (nd : g.Nodup) (ho : ∀ b, b ∈ g → isOff e b) : g.length = e.count off ↔ ∀ b, isOff e b → b ∈ g := by
  have nr : ((List.range e.length).filter fun b => decide (wd e b = off)).Nodup := List.Pairwise.filter _ List.nodup_range
  have lr : ((List.range e.length).filter fun b => decide (wd e b = off)).length = e.count off := by
    rw [← List.countP_eq_length_filter]
    have : e = (List.range e.length).map (wd e) := by
      apply List.ext_getElem?
      intro i
      rcases Nat.lt_or_ge i e.length with q | q
      · rw [get_wd q, List.getElem?_map, List.getElem?_range q]; rfl
      · rw [List.getElem?_eq_none q, List.getElem?_eq_none (by simpa using q)]
    conv => rhs; rw [this]
    rw [List.count_eq_countP, List.countP_map]
    apply List.countP_congr
    intro x _
    simp
  have sub : g ⊆ (List.range e.length).filter fun b => decide (wd e b = off) := fun b hb => by
    have := ho b hb
    unfold isOff at this
    exact List.mem_filter.mpr ⟨List.mem_range.mpr (wd_lt (by rw [this]; intro z; cases z)), decide_eq_true this⟩
  constructor
  · intro hl b hb
    -- else g with b would be too long
    by_cases q : b ∈ g
    · exact q
    · have := (List.nodup_cons.mpr ⟨q, nd⟩).length_le_of_subset (l₂ := (List.range e.length).filter fun b => decide (wd e b = off)) fun c hc => by
        rcases List.mem_cons.mp hc with rfl | hc
        · unfold isOff at hb
          exact List.mem_filter.mpr ⟨List.mem_range.mpr (wd_lt (by rw [hb]; intro z; cases z)), (decide_eq_true hb : decide (wd e c = off) = true)⟩
        · exact sub hc
      rw [lr, List.length_cons] at this
      omega
  · intro h
    have h1 := nd.length_le_of_subset sub
    have h2 := nr.length_le_of_subset (l₂ := g) fun b hb => h b (of_decide_eq_true (p := wd e b = off) (List.mem_filter.mp hb).2)
    rw [lr] at h1 h2
    omega
/-- the counted answer -/
theorem count_gat {P : Pan} {e : List W} {g : List Nat} (nd : g.Nodup) (h1 : ∀ b, b ∈ g → Gat P e b) (h2 : ∀ b, Gat P e b → b ∈ g) : g.length = e.count off ↔ ∀ b, isOff e b → Gat P e b := by
  rw [count_off nd fun b hb => (h1 b hb).off]
  exact ⟨fun h b hb => h1 b (h b hb), fun h b hb => h2 b (h b hb)⟩
theorem cond_iff {P : Pan} {e : List W} : Cond P e ↔ Acy P (isOn e) ∧ (∀ a, isOn e a → Free P e a) ∧ ∀ b, isOff e b → Gat P e b :=
  ⟨fun c => ⟨c.acy, c.free, c.gat⟩, fun ⟨a, b, c⟩ => ⟨a, b, c⟩⟩
/-! ### the gathering, by a list that grows -/
structure LI (P : Pan) (e : List W) (found helpers : List Nat) (at_ : Nat) : Prop where
  gg : ∀ b, b ∈ found → Gat P e b
  nd : found.Nodup
  hp : ∀ a, a ∈ helpers → isOn e a ∨ (Gat P e a ∧ Free P e a)
  all : ∀ a, (isOn e a ∨ (a ∈ found ∧ Free P e a)) → a ∈ helpers
  dn : ∀ j a, j < at_ → helpers[j]? = some a → ∀ b, b ∈ rel P a → isOff e b → b ∈ found
  len : helpers.length ≤ e.length + found.length
  le : at_ ≤ helpers.length
structure LII (P : Pan) (e : List W) (found helpers : List Nat) (at_ : Nat) (a : Nat) (pre : List Nat) : Prop where
  li : LI P e found helpers at_
  hat : helpers[at_]? = some a
  pre : ∀ b, b ∈ pre → isOff e b → b ∈ found
section
variable {P : Pan} {e : List W} {found helpers pre : List Nat} {at_ a b : Nat}
theorem LI.start {S : List Nat} (h : ∀ b, b ∈ S ↔ isOn e b) (hl : S.length ≤ e.length) : LI P e [] S 0 where
  gg := fun b h => by cases h
  nd := .nil
  hp := fun a ha => .inl ((h a).mp ha)
  all := fun a ha => by
    rcases ha with q | ⟨q, _⟩
    · exact (h a).mpr q
    · cases q
  dn := fun j a hj => absurd hj (Nat.not_lt_zero _)
  len := by simpa using hl
  le := Nat.zero_le _
theorem LI.enter (h : LI P e found helpers at_) (ha : helpers[at_]? = some a) : LII P e found helpers at_ a [] := ⟨h, ha, fun b hb => by cases hb⟩
theorem LII.skip (h : LII P e found helpers at_ a pre) (hn : isOff e b → b ∈ found) : LII P e found helpers at_ a (pre ++ [b]) :=
  ⟨h.li, h.hat, fun c hc ho => by
    rcases List.mem_append.mp hc with q | q
    · exact h.pre c q ho
    · have : c = b := by simpa using q
      subst this; exact hn ho⟩
theorem LII.gat (h : LII P e found helpers at_ a pre) (hr : b ∈ rel P a) (ho : isOff e b) : Gat P e b := by
  rcases h.li.hp a (List.mem_of_getElem? h.hat) with r | ⟨r1, r2⟩
  · exact .base r hr ho
  · exact .step r1 r2 hr ho
theorem LII.add (h : LII P e found helpers at_ a pre) (hr : b ∈ rel P a) (ho : isOff e b) (hn : b ∉ found) {more : List Nat} (hm : (Free P e b ∧ more = [b]) ∨ (¬ Free P e b ∧ more = [])) :
    LII P e (found ++ [b]) (helpers ++ more) at_ a (pre ++ [b]) where
  li := {
    gg := fun c hc => by
      rcases List.mem_append.mp hc with q | q
      · exact h.li.gg c q
      · have : c = b := by simpa using q
        subst this; exact h.gat hr ho
    nd := by
      rw [List.nodup_append]
      exact ⟨h.li.nd, by simp, fun c hc d hd z => by have : d = b := by simpa using hd
                                                     subst this; subst z; exact hn hc⟩
    hp := fun c hc => by
      rcases List.mem_append.mp hc with q | q
      · exact h.li.hp c q
      · rcases hm with ⟨f, rfl⟩ | ⟨_, rfl⟩
        · have : c = b := by simpa using q
          subst this; exact .inr ⟨h.gat hr ho, f⟩
        · cases q
    all := fun c hc => by
      rcases hc with q | ⟨q, f⟩
      · exact List.mem_append_left _ (h.li.all c (.inl q))
      · rcases List.mem_append.mp q with q | q
        · exact List.mem_append_left _ (h.li.all c (.inr ⟨q, f⟩))
        · have : c = b := by simpa using q
          subst this
          rcases hm with ⟨_, rfl⟩ | ⟨nf, rfl⟩
          · simp
          · exact absurd f nf
    dn := fun j c hj hc b' hb' ho' => by
      have hl := h.li.le
      rw [List.getElem?_append_left (by omega)] at hc
      exact List.mem_append_left _ (h.li.dn j c hj hc b' hb' ho')
    len := by
      have := h.li.len
      have : more.length ≤ 1 := by rcases hm with ⟨_, rfl⟩ | ⟨_, rfl⟩ <;> simp
      simp only [List.length_append, List.length_singleton]
      omega
    le := by
      have := h.li.le
      rw [List.length_append]; omega }
  hat := by
    have := (List.getElem?_eq_some_iff.mp h.hat).1
    rw [List.getElem?_append_left this]; exact h.hat
  pre := fun c hc ho' => by
    rcases List.mem_append.mp hc with q | q
    · exact List.mem_append_left _ (h.pre c q ho')
    · exact List.mem_append_right _ q
theorem LII.leave (h : LII P e found helpers at_ a (rel P a)) : LI P e found helpers (at_ + 1) :=
  { h.li with
    dn := fun j c hj hc b hb ho => by
      rcases Nat.lt_or_ge j at_ with q | q
      · exact h.li.dn j c q hc b hb ho
      · have : j = at_ := by omega
        subst this
        rw [h.hat] at hc; cases hc
        exact h.pre b hb ho
    le := (List.getElem?_eq_some_iff.mp h.hat).1 }
theorem LI.done (h : LI P e found helpers at_) (hl : helpers.length ≤ at_) {b : Nat} (q : Gat P e b) : b ∈ found := by
  have each : ∀ a, (isOn e a ∨ (a ∈ found ∧ Free P e a)) → ∀ b, b ∈ rel P a → isOff e b → b ∈ found := fun a ha => by
    obtain ⟨j, hj⟩ := List.mem_iff_getElem?.mp (h.all a ha)
    have := (List.getElem?_eq_some_iff.mp hj).1
    exact h.dn j a (by omega) hj
  induction q with
  | @base a b ha hr hb => exact each a (.inl ha) b hr hb
  | @step a b _ fa hr hb ih => exact each a (.inr ⟨ih, fa⟩) b hr hb
theorem LI.size (h : LI P e found helpers at_) : helpers.length ≤ 2 * e.length := by
  have := h.nd.length_le_of_subset (l₂ := List.range e.length) fun b hb => List.mem_range.mpr (wd_lt (by have := (h.gg b hb).off; unfold isOff at this; rw [this]; intro z; cases z))
  have := h.len
  simp only [List.length_range] at *
  omega
end
/-! ### all tuples of words, in ascending order -/
def allW : Nat → List (List W)
  | 0 => [[]]
  | n + 1 => (allW n).flatMap fun w => [w ++ [off], w ++ [on], w ++ [same]]
def rank : W → Nat
  | off => 0
  | on => 1
  | same => 2
def ltW : List W → List W → Prop
  | [], [] => False
  | [], _ :: _ => True
  | _ :: _, [] => False
  | a :: r, b :: s => rank a < rank b ∨ (a = b ∧ ltW r s)
theorem mem_allW : ∀ {n : Nat} {w : List W}, w ∈ allW n ↔ w.length = n
  | 0, w => by
    show w ∈ [[]] ↔ _
    rw [List.mem_singleton, List.length_eq_zero_iff]
  | n + 1, w => by
    show w ∈ (allW n).flatMap _ ↔ _
    rw [List.mem_flatMap]
    constructor
    · rintro ⟨v, hv, hw⟩
      have := mem_allW.mp hv
      simp only [List.mem_cons, List.not_mem_nil, or_false] at hw
      rcases hw with rfl | rfl | rfl <;> simp [this]
    · intro h
      have hne : w ≠ [] := fun z => by rw [z] at h; cases h
      refine ⟨w.dropLast, mem_allW.mpr (by rw [List.length_dropLast]; omega), ?_⟩
      have e := List.dropLast_concat_getLast hne
      cases q : w.getLast hne <;> rw [q] at e <;> simp only [List.mem_cons, List.not_mem_nil, or_false]
      · exact .inl e.symm
      · exact .inr (.inl e.symm)
      · exact .inr (.inr e.symm)
theorem allW_len : ∀ n : Nat, (allW n).length = 3 ^ n
  | 0 => rfl
  | n + 1 => by
    have fl : ∀ l : List (List W), (l.flatMap fun w => [w ++ [off], w ++ [on], w ++ [same]]).length = 3 * l.length := by
      intro l
      induction l with
      | nil => rfl
      | cons a r ih => rw [List.flatMap_cons, List.length_append, ih, List.length_cons]; simp only [List.length_cons, List.length_nil]; omega
    show ((allW n).flatMap _).length = 3 ^ (n + 1)
    rw [fl, allW_len n, Nat.pow_succ]; omega
theorem ltW_app : ∀ {u v : List W} (x y : List W), u.length = v.length → ltW u v → ltW (u ++ x) (v ++ y)
  | [], [], _, _, _, h => h.elim
  | [], _ :: _, _, _, hl, _ => by cases hl
  | _ :: _, [], _, _, hl, _ => by cases hl
  | a :: r, b :: s, x, y, hl, h => by
    rcases h with h | ⟨h1, h2⟩
    · exact .inl h
    · exact .inr ⟨h1, ltW_app x y (by simpa using hl) h2⟩
theorem ltW_pre : ∀ (u : List W) {x y : List W}, ltW x y → ltW (u ++ x) (u ++ y)
  | [], _, _, h => h
  | _ :: r, _, _, h => .inr ⟨rfl, ltW_pre r h⟩
theorem ltW_asymm : ∀ {u v : List W}, ltW u v → ltW v u → False
  | [], [], h, _ => h
  | [], _ :: _, _, h => h
  | _ :: _, [], h, _ => h
  | a :: r, b :: s, h, k => by
    rcases h with h | ⟨h1, h2⟩
    · rcases k with k | ⟨k1, _⟩
      · omega
      · rw [k1] at h; omega
    · rcases k with k | ⟨_, k2⟩
      · rw [h1] at k; omega
      · exact ltW_asymm h2 k2
theorem rank_inj : ∀ {a b : W}, rank a = rank b → a = b := by
  intro a b h
  cases a <;> cases b <;> first | rfl | (simp [rank] at h)
theorem ltW_total : ∀ {u v : List W}, ltW u v ∨ u = v ∨ ltW v u
  | [], [] => .inr (.inl rfl)
  | [], _ :: _ => .inl trivial
  | _ :: _, [] => .inr (.inr trivial)
  | a :: r, b :: s => by
    rcases Nat.lt_trichotomy (rank a) (rank b) with q | q | q
    · exact .inl (.inl q)
    · have e := rank_inj q
      subst e
      rcases ltW_total (u := r) (v := s) with z | z | z
      · exact .inl (.inr ⟨rfl, z⟩)
      · exact .inr (.inl (by rw [z]))
      · exact .inr (.inr (.inr ⟨rfl, z⟩))
    · exact .inr (.inr (.inl q))
theorem allW_sorted : ∀ n : Nat, (allW n).Pairwise ltW
  | 0 => by simp [allW]
  | n + 1 => by
    show ((allW n).flatMap _).Pairwise ltW
    rw [List.pairwise_flatMap]
    refine ⟨fun w _ => ?_, ?_⟩
    · have l1 : ltW [off] [on] := .inl (by decide)
      have l2 : ltW [off] [same] := .inl (by decide)
      have l3 : ltW [on] [same] := .inl (by decide)
      simp only [List.pairwise_cons, List.mem_cons, List.not_mem_nil, or_false, forall_eq_or_imp, forall_eq, false_imp_iff, implies_true, List.Pairwise.nil, and_true]
      exact ⟨⟨ltW_pre w l1, ltW_pre w l2⟩, ltW_pre w l3⟩
    · have hm : ∀ a, a ∈ allW n → a.length = n := fun a ha => mem_allW.mp ha
      refine (List.Pairwise.and_mem.mp (allW_sorted n)).imp ?_
      rintro a b ⟨ha, hb, hlt⟩ x hx y hy
      have hl : a.length = b.length := (hm a ha).trans (hm b hb).symm
      simp only [List.mem_cons, List.not_mem_nil, or_false] at hx hy
      rcases hx with rfl | rfl | rfl <;> rcases hy with rfl | rfl | rfl <;> exact ltW_app _ _ hl hlt
theorem sorted_nodup {l : List (List W)} (h : l.Pairwise ltW) : l.Nodup := by
  rw [List.nodup_iff_pairwise_ne]
  exact h.imp fun {a b} q z => by subst z; exact ltW_asymm q q
/-- two ascending lists with the same members are one -/
theorem sorted_eq {l m : List (List W)} (h1 : l.Pairwise ltW) (h2 : m.Pairwise ltW) (h : ∀ w, w ∈ l ↔ w ∈ m) : l = m :=
  List.Perm.eq_of_pairwise (fun _ _ _ _ q r => (ltW_asymm q r).elim) h1 h2 ((List.perm_ext_iff_of_nodup (sorted_nodup h1) (sorted_nodup h2)).mpr h)
open Classical in
/-- the tuples that have the conditions, in ascending order -/
noncomputable def due (P : Pan) : List (List W) := (allW P.length).filter fun w => decide (Cond P w)
theorem due_sorted (P : Pan) : (due P).Pairwise ltW := (allW_sorted _).filter _
theorem mem_due {P : Pan} (ok : PanOk P) {w : List W} : w ∈ due P ↔ Reach P w := by
  unfold due
  rw [List.mem_filter, mem_allW, reach_iff ok]
  simp
theorem effects_due {P : Pan} (ok : PanOk P) {l : List (List W)} (h1 : l.Pairwise ltW) (h : ∀ w, w ∈ l ↔ Reach P w) : l = due P := sorted_eq h1 (due_sorted P) fun w => (h w).trans (mem_due ok).symm
end K19

/-! part MathC -/
/-! The plain law, part C: the closure under presses. -/
namespace K19
open W
def start (P : Pan) : List W := List.replicate P.length same
structure AI (P : Pan) (E Wl : List (List W)) : Prop where
  reach : ∀ w, w ∈ E → Reach P w
  sub : ∀ w, w ∈ Wl → w ∈ E
  nd : E.Nodup
  st : start P ∈ E
  len : Wl.length ≤ E.length
  cl : ∀ w, w ∈ E → w ∈ Wl ∨ ∀ p, p < P.length → press P w p ∈ E
structure AII (P : Pan) (E Wl : List (List W)) (w : List W) (i : Nat) : Prop where
  reach : ∀ w, w ∈ E → Reach P w
  sub : ∀ w, w ∈ Wl → w ∈ E
  nd : E.Nodup
  st : start P ∈ E
  len : Wl.length ≤ E.length
  hw : w ∈ E
  cl : ∀ u, u ∈ E → u = w ∨ u ∈ Wl ∨ ∀ p, p < P.length → press P u p ∈ E
  pre : ∀ p, p < i → press P w p ∈ E
section
variable {P : Pan} {E Wl : List (List W)} {w : List W} {i : Nat}
theorem AI.start : AI P [start P] [start P] where
  reach := fun w h => by
    have : w = K19.start P := by simpa using h
    rw [this]; exact .start
  sub := fun w h => h
  nd := by simp
  st := by simp
  len := Nat.le_refl _
  cl := fun w h => .inl h
theorem AI.size (h : AI P E Wl) : E.length ≤ 3 ^ P.length := by
  rw [← allW_len]
  exact h.nd.length_le_of_subset fun w hw => mem_allW.mpr (reach_len (h.reach w hw))
theorem AII.size (h : AII P E Wl w i) : E.length ≤ 3 ^ P.length := by
  rw [← allW_len]
  exact h.nd.length_le_of_subset fun w hw => mem_allW.mpr (reach_len (h.reach w hw))
theorem AI.enter (h : AI P E (Wl ++ [w])) : AII P E Wl w 0 where
  reach := h.reach
  sub := fun u hu => h.sub u (List.mem_append_left _ hu)
  nd := h.nd
  st := h.st
  len := by have := h.len; rw [List.length_append] at this; omega
  hw := h.sub w (by simp)
  cl := fun u hu => by
    rcases h.cl u hu with q | q
    · rcases List.mem_append.mp q with q | q
      · exact .inr (.inl q)
      · exact .inl (by simpa using q)
    · exact .inr (.inr q)
  pre := fun p hp => absurd hp (Nat.not_lt_zero _)
theorem AII.old (h : AII P E Wl w i) (hm : press P w i ∈ E) : AII P E Wl w (i + 1) :=
  { h with
    pre := fun p hp => by
      by_cases e : p = i
      · rw [e]; exact hm
      · exact h.pre p (by omega) }
theorem AII.new (h : AII P E Wl w i) (hi : i < P.length) (hm : press P w i ∉ E) : AII P (E ++ [press P w i]) (Wl ++ [press P w i]) w (i + 1) where
  reach := fun u hu => by
    rcases List.mem_append.mp hu with q | q
    · exact h.reach u q
    · have : u = press P w i := by simpa using q
      rw [this]; exact .press (h.reach w h.hw) hi
  sub := fun u hu => by
    rcases List.mem_append.mp hu with q | q
    · exact List.mem_append_left _ (h.sub u q)
    · exact List.mem_append_right _ q
  nd := by
    rw [List.nodup_append]
    exact ⟨h.nd, by simp, fun c hc d hd z => by have : d = press P w i := by simpa using hd
                                                subst this; subst z; exact hm hc⟩
  st := List.mem_append_left _ h.st
  len := by have := h.len; rw [List.length_append, List.length_append]; exact Nat.add_le_add_right this _
  hw := List.mem_append_left _ h.hw
  cl := fun u hu => by
    rcases List.mem_append.mp hu with q | q
    · rcases h.cl u q with q | q | q
      · exact .inl q
      · exact .inr (.inl (List.mem_append_left _ q))
      · exact .inr (.inr fun p hp => List.mem_append_left _ (q p hp))
    · exact .inr (.inl (List.mem_append_right _ q))
  pre := fun p hp => by
    by_cases e : p = i
    · rw [e]; simp
    · exact List.mem_append_left _ (h.pre p (by omega))
theorem AII.leave (h : AII P E Wl w P.length) : AI P E Wl where
  reach := h.reach
  sub := h.sub
  nd := h.nd
  st := h.st
  len := h.len
  cl := fun u hu => by
    rcases h.cl u hu with q | q | q
    · subst q; exact .inr h.pre
    · exact .inl q
    · exact .inr q
theorem AI.done (h : AI P E []) {w : List W} : w ∈ E ↔ Reach P w := by
  refine ⟨h.reach w, fun r => ?_⟩
  induction r with
  | start => exact h.st
  | @press e p r hp ih =>
    rcases h.cl e ih with q | q
    · cases q
    · exact q p hp
theorem AI.due (ok : PanOk P) (h : AI P E []) {E' : List (List W)} (hp : E'.Perm E) (hs : E'.Pairwise fun a b => ¬ ltW b a) : E' = K19.due P := by
  have nd : E'.Nodup := (hp.nodup_iff).mpr h.nd
  refine effects_due ok ?_ fun w => (hp.mem_iff).trans h.done
  have := hs.and (List.nodup_iff_pairwise_ne.mp nd)
  refine this.imp fun {a b} q => ?_
  rcases ltW_total (u := a) (v := b) with z | z | z
  · exact z
  · exact absurd z q.2
  · exact absurd z q.1
end
end K19

/-! part RulesA -/
/-! Own rules, part A: enumerate over a tuple. -/
namespace K19
open PySem PySem.Spec PyProof.Rows L2
/-! ### enumerate(tuple) -/
theorem meets_enumT (l : Addr) (items : Array Value) :
    Meets (Builtin.«enumerate.__new__» ⟨[.type "enumerate", .ref l], []⟩) (fun _ R s => s.heap.IsTuple l items ∧
      R (.ok (.ret (.ref (s.heap.push { cls := .type "tuple_iterator", data := .fields #[.ref l, .int 0 0] }).objs.size)))
        { s with heap := (s.heap.push { cls := .type "tuple_iterator", data := .fields #[.ref l, .int 0 0] }).push { cls := .type "enumerate", data := .fields #[.none, .bool false, .ref s.heap.objs.size, rawInt 0, .none, .none] } }) :=
  .of_wp fun prog w A R s h => by
    obtain ⟨hp, g, d, tk, os⟩ := s; obtain ⟨h1, h⟩ := h
    have hsub := sub_enumerate
    have q1 : ∀ {A' : Around} {E : Value → Shared → Prop} {Q : Value → Shared → Prop}, Q (.ref hp.objs.size) ⟨hp.push { cls := .type "tuple_iterator", data := .fields #[.ref l, .int 0 0] }, g, d, tk, os⟩ → wpAny (model prog w) A' (pyIter (.ref l)) Q E ⟨hp, g, d, tk, os⟩ :=
      fun q => wpAny_pyIter_tuple h1 q
    wp_walk using q1
    refine wpAny_stack_any fun st => wpAny_pure ?_
    split
    · rename_i c _ _ _ _ _
      cases (c == Value.type "enumerate")
      · wp_walk using q1
        exact ⟨_, rfl, h⟩
      · wp_walk using q1
        exact ⟨_, rfl, h⟩
    · wp_walk using q1
      exact ⟨_, rfl, h⟩
section
variable {prog : Program} {w : World} {A : Around} {E : Value → Shared → Prop} {s : Shared}
theorem call_enumT {l : Addr} {items : Array Value} {Q : Value → Shared → Prop} (h1 : s.heap.IsTuple l items)
    (h : ∀ h', IsEnum h' (s.heap.objs.size + 1) s.heap.objs.size 0 .none → h'.IsTupleIter s.heap.objs.size l 0 → h'.objs.size = s.heap.objs.size + 2 →
      (∀ b o, s.heap.get? b = some o → h'.get? b = some o) → Q (.ref (s.heap.objs.size + 1)) { s with heap := h' }) :
    wpAny (model prog w) A (call (.type "enumerate") [.ref l]) Q E s := by
  refine callType_new F.called_enumerate (by decide) (F.typeCall_enumerate_1 _) (F.newCall_enumerate_1 _) (fun obj => F.args_object_init_2 obj _) F.entry_enumerate_new
    (meets_enumT l items) ⟨h1, ?_⟩
  have hz : (s.heap.push { cls := .type "tuple_iterator", data := .fields #[.ref l, .int 0 0] }).objs.size = s.heap.objs.size + 1 := Heap.size_push ..
  show _ ∧ _
  rw [hz]
  have he : IsEnum ((s.heap.push { cls := .type "tuple_iterator", data := .fields #[.ref l, .int 0 0] }).push
      { cls := .type "enumerate", data := .fields #[.none, .bool false, .ref s.heap.objs.size, rawInt 0, .none, .none] }) (s.heap.objs.size + 1) s.heap.objs.size 0 .none := by
    have := Heap.get?_push_size (s.heap.push { cls := .type "tuple_iterator", data := .fields #[.ref l, .int 0 0] })
      (o := { cls := .type "enumerate", data := .fields #[.none, .bool false, .ref s.heap.objs.size, rawInt 0, .none, .none] }) rfl
    rw [hz] at this; exact this
  refine ⟨⟨_, he, rfl⟩, h _ he ⟨_, Heap.get?_push_of_some _ (Heap.get?_push_size _ rfl), rfl, rfl⟩ (by rw [Heap.size_push, hz]) fun b o x => Heap.get?_push_of_some _ (Heap.get?_push_of_some _ x)⟩
end
/-- the tuple at a as it stands at each turn, each item in a new pair -/
def IteT (K : PySem.W.Frag) (a : Addr) : It :=
  ⟨fun i H => ∃ (xs : List V) (x : V), SqT K H a xs ∧ xs[i]? = some x, fun i H v H' => ∃ T x, v = .ref T ∧ H T = none ∧ H' = upd H T (.tup [.int (i : Nat), x]) ∧ ∀ xs, SqT K H a xs → xs[i]? = some x, fun i H => ∃ xs : List V, SqT K H a xs ∧ xs.length ≤ i⟩
theorem turn_enumT {P : Program} {w : World} {K : PySem.W.Frag} {elts : List Expr} {kk : Nat} {tpos : Pos} (a e it : Addr) :
    Turn P w K (.Tuple elts kk tpos) (IteT K a) [e, it] e (fun i h => (∃ old, IsEnum h e it ((i : Nat) : Int) old) ∧ h.IsTupleIter it a i ∧ e ≠ it) where
  mem := by simp
  obj := fun i h st b hb => by
    obtain ⟨⟨old, he⟩, ⟨o, ho, hc, hd⟩, _⟩ := st
    have e' : b = e ∨ b = it := by simpa using hb
    rcases e' with z | z
    · rw [z]; exact ⟨_, he, fun v q => nomatch q⟩
    · rw [z]; exact ⟨o, ho, fun v q => by rw [hd] at q; cases q⟩
  keep := fun i h h' st k => let ⟨⟨old, he⟩, hi, hne⟩ := st; ⟨⟨old, k e (by simp) _ he⟩, hi.at fun o q => k it (by simp) o q, hne⟩
  item := by
    intro X hP hw hK hc i pins s σ H E I hf st hg
    subst hP hw hK
    obtain ⟨⟨old, he⟩, hit, hne⟩ := st
    obtain ⟨xs, x, hq, hx⟩ := hg
    obtain ⟨its, rv, p, hz⟩ := I.tuple hq
    obtain ⟨u, hu, ru⟩ := rv.get hx
    have hel : e < s.heap.objs.size := Heap.lt_size he
    have hil : it < s.heap.objs.size := by obtain ⟨_, q, _⟩ := hit; exact Heap.lt_size q
    have hai : a ≠ it := fun z => by
      obtain ⟨o1, ho1, hc1, _⟩ := p
      obtain ⟨o2, ho2, hc2, _⟩ := hit
      rw [z, ho2] at ho1; cases ho1
      rw [hc1] at hc2; exact absurd hc2 (by decide)
    have hae : a ≠ e := fun z => by
      obtain ⟨o1, ho1, hc1, _⟩ := p
      have he2 := he
      unfold IsEnum at he2
      rw [z, he2] at ho1; cases ho1
      have q : Value.type "enumerate" = Value.type "tuple" := hc1
      exact absurd q (by decide)
    have hx' : its.toArray[i]? = some u := by simpa using hu
    have hlt : i < its.toArray.size := (Array.getElem?_eq_some_iff.mp hx').1
    have hh1 : X.A.in1.handled = none := I.ok.hd hc
    have DT : Draws X.prog X.w X.A.in1 it [it, a] its.toArray.size (fun i v => its.toArray[i]? = some v) (fun i h => h.IsTupleIter it a i ∧ h.IsTuple a its.toArray) := Draws.tuple hh1 it a hai its.toArray
    refine wpAny_pyNext_enum_itemD DT he ⟨hit, p⟩ hlt hne (fun z => by
      have e' : e = it ∨ e = a := by simpa using z
      rcases e' with z | z
      · exact hne z
      · exact hae z.symm) fun x2 h' tk hx2 ho hit' hT hsz hk => ?_
    have ex : x2 = u := by rw [hx'] at hx2; exact (Option.some.inj hx2).symm
    subst ex
    refine ⟨_, rfl, wpAny_letOwnedTupleGo_enum (s := { s with heap := h', toks := tk + 1 }) ho fun h'' he' sb => ?_⟩
    have hT2 : h''.get? s.heap.objs.size = some { cls := .type "tuple", data := .seq #[.int i tk, x2] } := (sb.2 _ (Nat.ne_of_gt hel)).trans hT
    have new : ObjOk X.prog X.w (upd H s.heap.objs.size (.tup [.int (i : Nat), x])) h'' s.heap.objs.size (.tup [.int (i : Nat), x]) :=
      ⟨by show 2 ≤ sizeLine; decide, [.int i tk, x2], .cons ⟨_, rfl⟩ (.cons ru .nil), ⟨_, hT2, rfl, _, rfl⟩⟩
    have I1 : Inv X pins σ (upd H s.heap.objs.size (.tup [.int (i : Nat), x])) { s with heap := h'', toks := tk + 1 } :=
      I.turnedNew (ch := [e, it]) (fun b ob hb q => (sb.2 b (fun z => hb (by simp [z]))).trans (hk b ob (fun z => hb (by simp [z])) (fun z => hb (by simp [z])) q)) hf (Nat.le_refl _) new
    refine ⟨.ref s.heap.objs.size, _, I1, rfl, ⟨_, x, rfl, I.hok.fresh (Nat.le_refl _), rfl, fun ys hy => by rw [I.tuple_inj hy hq]; exact hx⟩, ⟨⟨x2, ?_⟩, hit'.1.at fun o q => (sb.2 it (Ne.symm hne)).trans q, hne⟩, fun b hb => ?_⟩
    · have e1 : ((i + 1 : Nat) : Int) = (i : Int) + 1 := by omega
      rw [e1]; exact he'
    · have hb' : b < s.heap.objs.size := by
        have e' : b = e ∨ b = it := by simpa using hb
        rcases e' with z | z
        · rw [z]; exact hel
        · rw [z]; exact hil
      rw [upd_ne (Nat.ne_of_lt hb')]
      exact (hf b hb).1
  done := by
    intro X hP hw hK hc i pins s σ H E I hf st hg
    subst hP hw hK
    obtain ⟨⟨old, he⟩, hit, hne⟩ := st
    obtain ⟨xs, hq, hx⟩ := hg
    obtain ⟨its, rv, p, hz⟩ := I.tuple hq
    obtain ⟨f0, f1, f2, f3, f4, f5⟩ := hf it (by simp)
    have hl := rv.length
    have hT : s.TypeIs (.ref e) "enumerate" := ⟨_, he, rfl⟩
    unfold pyNext
    refine wpAny_bind (wpAny_attempt (wpAny_callSpecial?_slot (name := Str.ofString "__next__") hT F.slot_enumerate_next
      (wpAny_call_entry F.slot_enumerate_next hT F.entry_enumerate_next ?_ (F.args_enumerate_next_1 _))))
    show wpAny _ _ (field (.ref e) 2 >>= _) _ _ _
    refine wpAny_bind (wpAny_field he rfl (x := .ref it) rfl ?_)
    refine wpAny_bind (wpAny_nextOf_tuple_end (I.ok.hd hc) hit p (by simp; omega) fun h' x he' hx' => ?_)
    obtain ⟨o, ho, hc⟩ := hx'
    refine wpAny_bind (wpAny_isInstance (T := "StopIteration") (b := true) ⟨o, ho, hc⟩ isSubtype_stop ?_)
    exact wpAny_pure ⟨rfl, I.turned (t' := s.toks) (fun b o hb q => he' b o hb q) f0 f1 f3 f4 f5⟩
  self := fun A i s Q E st h => let ⟨⟨_, he⟩, _⟩ := st; wpAny_pyIter_enum he h
def iEnumT (K : PySem.W.Frag) (ta : TA) : TI := fun σ H R => ta σ H fun vs H1 => ∃ a xs, vs = [.ref a] ∧ SqT K H1 a xs ∧ R (IteT K a) H1
theorem pi_enumT {X : Cx} {e : Expr} {ta : TA} {p pos tpos : Pos} {elts : List Expr} {kk : Nat} (hg : Gl X "enumerate") (hm : X.mg "enumerate" = none) (ha : PA X [e] ta) (hs : starEach [e] X.env = [(false, eval e X.env)] := by rfl) :
    PI X (.Tuple elts kk tpos) (.Call (.Name "enumerate" p) [e] [] pos) (iEnumT X.K ta) := by
  refine ⟨fun pins s σ H R I h => ?_⟩
  refine Call_ (ld_blt I hg hm boot_enumerate (PyProof.Rows.callWith_type1 (thn (ha.run pos pins s σ H _ I h) fun us s1 ⟨vs, H1, I1, r1, q1⟩ => ?_) hs rfl))
  obtain ⟨a, xs, ex, hq, q⟩ := q1
  subst ex
  cases r1 with
  | cons r rr =>
    cases rr
    cases r
    obtain ⟨its, rv, p', hz⟩ := I1.tuple hq
    refine call_enumT (show s1.heap.IsTuple a its.toArray from p') fun h' he hit hsz hk => wpAny_pyIter_enum he ?_
    have I2 : Inv X pins σ H1 { s1 with heap := h' } := I1.kept (t' := s1.toks) hk
    refine ⟨s1.heap.objs.size + 1, [s1.heap.objs.size + 1, s1.heap.objs.size], _, _, H1, rfl, I2, turn_enumT a (s1.heap.objs.size + 1) s1.heap.objs.size, ⟨⟨.none, he⟩, hit, Nat.succ_ne_self _⟩, fun b hb => ?_, q⟩
    have e' : b = s1.heap.objs.size + 1 ∨ b = s1.heap.objs.size := by simpa using hb
    have hle : s1.heap.objs.size ≤ b := by
      rcases e' with z | z
      · rw [z]; exact Nat.le_add_right _ _
      · rw [z]; exact Nat.le_refl _
    exact I1.fpOk hle (I1.hok.fresh hle)
theorem walk_enumT {K : PySem.W.Frag} {a : Addr} {xs : List V} : Walk (IteT K a) xs.length (fun H => SqT K H a xs) (YPair (fun i => some (.int (i : Nat))) (fun i => xs[i]?)) := by
  refine ⟨fun i _ hi q => ⟨xs, xs[i], q, by simp [hi]⟩, fun _ q => ⟨xs, q, Nat.le_refl _⟩, fun i H v H' _ q y => ?_⟩
  obtain ⟨T, x, h1, h2, h3, h4⟩ := y
  exact ⟨T, .int (i : Nat), x, h1, h2, h3, rfl, h4 xs q⟩
end K19

/-! part RulesB -/
/-! Own rules, part B: words as texts, (w,) * 1, tuple.count of a text, {t: x}, sorted of a dict whose keys are tuples of words. -/
namespace K19
open PySem PySem.Spec PyProof.Rows L2
/-! ### words as texts -/
def strW : W → Str
  | .off => "off"
  | .on => "on"
  | .same => "same"
theorem strW_inj {a b : W} (h : strW a = strW b) : a = b := by
  cases a <;> cases b <;> first | rfl | (exfalso; revert h; decide +kernel)
def strV (w : List W) : List V := w.map fun x => V.str (strW x)
def keyW (w : List W) : List Key := w.map fun x => Sum.inr (strW x)
theorem keyW_kV (w : List W) : (keyW w).map kV = strV w := by
  unfold keyW strV; rw [List.map_map]; rfl
theorem keyW_inj : ∀ {a b : List W}, keyW a = keyW b → a = b
  | [], [], _ => rfl
  | [], _ :: _, h => by cases h
  | _ :: _, [], h => by cases h
  | x :: a, y :: b, h => by
    have h' : (Sum.inr (strW x) : Key) :: keyW a = Sum.inr (strW y) :: keyW b := h
    injection h' with h1 h2
    rw [strW_inj (Sum.inr.inj h1), keyW_inj h2]
theorem strV_len (w : List W) : (strV w).length = w.length := List.length_map ..
theorem strV_get (w : List W) (i : Nat) : (strV w)[i]? = w[i]?.map fun x => V.str (strW x) := List.getElem?_map ..
theorem strV_inj {a b : List W} (h : strV a = strV b) : a = b := keyW_inj (kVs_inj (by rw [keyW_kV, keyW_kV]; exact h))
/-! ### t * 1 -/
theorem tuple_mul1 (l : Addr) (items : Array Value) (n : Nat) (dd : Option Addr) (sl : Array (Option Value)) (u : Tok) :
    Meets (Builtin.«tuple.__mul__» ⟨[.ref l, .int 1 u], []⟩) (fun _ R s => s.heap.get? l = some { cls := .type "tuple", dict := dd, data := .seq items n, slots := sl } ∧ R (.ok (.ret (Value.ref l))) s) :=
  .of_wp fun prog w A R s h => by
    obtain ⟨hp, g, d, tk, os⟩ := s
    obtain ⟨hl, h⟩ := h
    have f1 := AutoSeq1.idx_int
    wp_walk using wpAny_loadPart' hl
    repeat (first
      | (refine wpAny_ite_false (decide_eq_false (by decide)) ?_; wp_walk using wpAny_loadPart' hl)
      | (refine wpAny_ite_true (decide_eq_true (by simp)) ?_; wp_walk using wpAny_loadPart' hl))
    exact ⟨_, rfl, h⟩

def rRepA (K : PySem.W.Frag) : R2 := fun x y H Q => ∃ l k xs, x = .ref l ∧ y = .int k ∧ SqT K H l xs ∧ xs ≠ [] ∧ 1 ≤ k ∧ k ≤ 1000 ∧ xs.length ≤ 1000 ∧ (k = 1 → Q (.ref l) H) ∧ (2 ≤ k → ∀ p, H p = none → Q (.ref p) (upd H p (.tup (List.replicate k.toNat xs).flatten)))
section
variable {X : Cx}
theorem op_repA : OpR X (binaryOp .Mult) (rRepA X.K) := by
  intro pins s σ H x y v u Q I rx ry h
  obtain ⟨l, k, xs, rfl, rfl, hT, hne, h1, h2, hz, q1, q2⟩ := h
  by_cases hk : k = 1
  · subst hk
    cases rx
    obtain ⟨t, rfl⟩ := ry
    obtain ⟨its, r, ⟨⟨cls, dd, data, sl⟩, ho, hc, n, hd⟩, hs⟩ := I.tuple hT
    simp only at hc hd
    subst hc hd
    refine wpAny_binaryOp_repeat_ref (T := "tuple") (U := "int") (by decide) ⟨_, ho, rfl⟩ (fun s' => typeIs_int s' 1 t) noFill_tuple_mul F.fills_int_mul F.slot_int_rmul repeat_tuple F.slot_int_index.lookup
      (call_meets F.slot_int_rmul (typeIs_int s 1 t) F.entry_int_rmul (F.args_int_rmul_2 _ _) (int_rmul_tuple 1 t l its.toArray n dd sl)
        ⟨ho, rfl, ⟨_, ho, rfl⟩, call_meets F.slot_tuple_mul ⟨_, ho, rfl⟩ F.entry_tuple_mul (F.args_tuple_mul_2 _ _) (tuple_mul1 l its.toArray n dd sl t) ⟨ho, ?_⟩⟩)
    exact ⟨.ref l, H, I, rfl, q1 rfl⟩
  · exact op_repT pins s σ H _ _ v u Q I rx ry ⟨l, k, xs, rfl, rfl, hT, hne, by omega, h2, hz, q2 (by omega)⟩
/-! ### t.count(text) -/
def eqS (k : Str) (v : Value) : Bool := match v with
  | .str x _ => decide (x = k)
  | _ => false
theorem eqS_gives {k : Str} {t : Tok} : ∀ {us : List Value} {ns : List Str}, Vals (ns.map V.str) us → ∀ y ∈ us, MeetsSeq.EqGives y (.str k t) (eqS k y)
  | [], [], _ => fun y hy => by cases hy
  | _ :: _, [], r => by cases r
  | [], _ :: _, r => by cases r
  | u :: us, x :: ns, r => fun y hy => by
    cases r with
    | cons r0 rr =>
      obtain ⟨t0, rfl⟩ := r0
      rcases List.mem_cons.mp hy with e | e
      · rw [e]
        intro prog w A E s Q h
        exact wpAny_eqBool_str h
      · exact eqS_gives rr y e
theorem eqS_count {k : Str} : ∀ {us : List Value} {ns : List Str}, Vals (ns.map V.str) us → us.countP (eqS k) = ns.count k
  | [], [], _ => rfl
  | _ :: _, [], r => by cases r
  | [], _ :: _, r => by cases r
  | u :: us, x :: ns, r => by
    cases r with
    | cons r0 rr =>
      obtain ⟨t0, rfl⟩ := r0
      have ih := eqS_count (k := k) rr
      rw [List.countP_cons, List.count_cons, ih]
      have : eqS k (.str x t0) = (x == k) := by
        show decide (x = k) = (x == k)
        by_cases e : x = k
        · subst e; simp
        · simp [e]
      rw [this]
def rCntS (K : PySem.W.Frag) : V → List V → Hp → VK → Prop := fun x xs H Q => ∃ (p : Addr) (ns : List Str) (k : Str), x = .ref p ∧ xs = [.str k] ∧ SqT K H p (ns.map V.str) ∧ Q (.int (ns.count k : Nat)) H
theorem mt_tcountS : MtR X "tuple.count" (rCntS X.K) := by
  intro pins s σ H x xs v us Q I rx rxs h
  obtain ⟨p, ns, k, rfl, rfl, hs, q⟩ := h
  cases rx
  obtain ⟨u, rfl, ru⟩ := rxs.one
  obtain ⟨t, rfl⟩ := ru
  obtain ⟨its, rv, ⟨⟨cls, dd, data, sl⟩, ho, hc, n, hd⟩, hlen⟩ := I.tuple hs
  simp only at hc hd
  subst hc hd
  refine call_meets PySem.F.slot_tuple_count ⟨_, ho, rfl⟩ PySem.F.entry_tuple_count (PySem.F.args_tuple_count_2 _ _)
    (SeqAt.tuple_countAt p its.toArray n dd sl (.str k t) (eqS k)) ⟨ho, fun y hy => (eqS_gives rv y (by simpa using hy)).at _ _, ?_⟩
  have ec : its.toArray.toList.countP (eqS k) = ns.count k := eqS_count rv
  refine ⟨.int (ns.count k : Nat), H, I.tok _, ⟨s.toks, ?_⟩, q⟩
  show Value.int ((its.toArray.toList.countP (eqS k) : Nat) : Int) s.toks = Value.int ((ns.count k : Nat) : Int) s.toks
  rw [ec]
/-! ### {t: x}, t a tuple -/
def tDispT (tk tv : TE) : TE := fun σ H Q => ∀ p, H p = none → tk σ (upd H p (.dT [])) fun x H1 => tv σ H1 fun y H2 => H2 p = some (.dT []) ∧ ∃ (b : Addr) (ks : List Key), x = .ref b ∧ H2 b = some (.tup (ks.map kV)) ∧ Q (.ref p) (upd H2 p (.dT [(ks, y)]))
theorem pe_dispT {k v : Expr} {tk tv : TE} {pos : Pos} (hu : X.A.units + 1 < cLine) (hk : PE X k tk) (hv : PE X v tv) : PE X (.Dict [some k] [v] pos) (tDispT tk tv) := by
  refine ⟨fun pins s σ H Q I q => ?_⟩
  have hn := I.hok.fresh (Nat.le_refl s.heap.objs.size)
  have I1 := I.laid (a := s.heap.objs.size) (o := .dT []) (h' := s.heap.push { cls := .type "dict", data := .dict #[] }) (t' := s.toks) (fun _ _ q => Heap.get?_push_of_some _ q) (Nat.le_refl _) (dt_empty s.heap I.big)
  rw [arm_eval_Dict, zip_pairTrees [some k] [v] X.env pos rfl rfl, dictDisplay_pairs (pairTrees [some k] [v] X.env pos) (by intro z; cases z) (by show 1 < _; decide)]
  refine wpAny_bind (wpAny_standAt (wpAny_bind ?_))
  refine wpAny_subDictH (knd := tupleKind (mixKind X.prog X.w)) (Q := fun d s' => wpAny (model X.prog X.w) X.A (pure (Value.ref d)) (EP X pins σ Q) X.xe s') (show X.A.units < cLine from by omega) (by show 1 ≤ 15; decide) ?_
  refine pairTrees_cons_walk (thn (hk.run pins _ σ _ _ I1 (q _ hn)) fun u s1 ⟨x, H1, J1, rx, q1⟩ => thn (hv.run pins s1 σ H1 _ J1 q1) fun w2 s2 ⟨y, H2, J2, ry, q2⟩ => pairTrees_nil_walk ?_)
  obtain ⟨e, b, ks, ex, eb, q3⟩ := q2
  subst ex
  cases (show u = Value.ref b from rx)
  obtain ⟨z, hd, xs, rel, dd⟩ := dt_of J2.hok e
  cases rel
  refine ⟨[(ks, b, w2)], ⟨rfl, rfl, key_of J2.hok eb, trivial⟩, dd, fun h' tk dd' hs => wpAny_pure ⟨.ref s.heap.objs.size, _, ?_, rfl, q3⟩⟩
  obtain ⟨q, es, ep, hq, h2, h3, h4, _, h5⟩ := dd'
  refine d_write J2 (by rw [e]; exact True.intro) hs ⟨q, hq⟩ ⟨(by show 1 ≤ sizeLine; decide), hd, _, (?_ : KT _ [(ks, y)] [(ks, b, w2)]), q, es, ep, hq, h2, h3, h4, h5⟩
  refine Paired.cons ⟨rfl, ?_, ry⟩ .nil
  show upd H2 _ _ b = _
  rw [upd_ne (ne_of eb e (fun z => nomatch z))]
  exact eb
end
end K19

/-! part RulesC -/
/-! Own rules, part C: sorted(d), d a dict whose keys are tuples of words. -/
namespace K19
open PySem PySem.Spec PyProof.Rows PyProof.Rows.G L2
def cod (x : W) : List Nat := (strW x).cps.toList
def codes (w : List W) : List (Int ⊕ List Nat) := w.map fun x => Sum.inr (cod x)
theorem cod_lt {a b : W} (h : rank a < rank b) : itemLt (.inr (cod a)) (.inr (cod b)) = true := by
  cases a <;> cases b <;> first | (exfalso; revert h; decide) | decide +kernel
theorem codes_lt : ∀ {u v : List W}, ltW u v → lexLt itemOrd (codes u) (codes v) = true
  | [], [], h => h.elim
  | [], _ :: _, _ => rfl
  | _ :: _, [], h => h.elim
  | a :: r, b :: s, h => by
    show lexLt itemOrd (Sum.inr (cod a) :: codes r) (Sum.inr (cod b) :: codes s) = true
    rcases h with h | ⟨h1, h2⟩
    · exact lex_true.mpr (.inl (cod_lt h))
    · subst h1
      rw [lex_self]; exact codes_lt h2
theorem tupItems_codes : ∀ {w : List W} {us : List Value} (i : Nat), Vals (strV w) us → tupItems (fun _ => true) i us = some (codes w)
  | [], [], _, _ => rfl
  | [], _ :: _, _, r => by cases r
  | _ :: _, [], _, r => by cases r
  | x :: w, u :: us, i, r => by
    have r' : Vals (V.str (strW x) :: strV w) (u :: us) := r
    cases r' with
    | cons r0 rr =>
      obtain ⟨t, rfl⟩ := r0
      have ih := tupItems_codes (i + 1) rr
      show (if (fun _ : Nat => true) i = true then (tupItems (fun _ => true) (i + 1) us).map (Sum.inr (strW x).cps.toList :: ·) else none) = some (codes (x :: w))
      rw [if_pos rfl, ih]; rfl
theorem zip_self {L : List (List W × Addr)} : (L.map fun p => Value.ref p.2).zip (L.map fun p => Value.ref p.2) = L.map fun p => (Value.ref p.2, Value.ref p.2) := by
  induction L with
  | nil => rfl
  | cons a r ih => rw [List.map_cons, List.zip_cons_cons, ih, List.map_cons]
theorem perm_map_inv {α β : Type} {f : α → β} : ∀ {l m : List β}, l.Perm m → ∀ {L : List α}, m = L.map f → ∃ L' : List α, L'.Perm L ∧ l = L'.map f := by
  intro l m h
  induction h with
  | nil =>
    intro L e
    cases L with
    | nil => exact ⟨[], List.Perm.nil, rfl⟩
    | cons a r => cases e
  | cons x _ ih =>
    intro L e
    cases L with
    | nil => cases e
    | cons a r =>
      injection e with e1 e2
      obtain ⟨L', p, q⟩ := ih e2
      exact ⟨a :: L', p.cons a, by rw [List.map_cons, ← q, e1]⟩
  | swap x y l =>
    intro L e
    cases L with
    | nil => cases e
    | cons a r =>
      cases r with
      | nil => cases e
      | cons b r =>
        injection e with e1 e2
        injection e2 with e2 e3
        exact ⟨b :: a :: r, .swap a b r, by rw [List.map_cons, List.map_cons, ← e1, ← e2, ← e3]⟩
  | trans _ _ ih1 ih2 =>
    intro L e
    obtain ⟨L1, p1, q1⟩ := ih2 e
    obtain ⟨L2, p2, q2⟩ := ih1 q1
    exact ⟨L2, p2.trans p1, q2⟩
/-- the words w stand as a tuple at b -/
def WT (H : Hp) (w : List W) (b : Addr) : Prop := H b = some (.tup (strV w))
theorem paired_mem {α β : Type} {F : α → β → Prop} : ∀ {l : List α} {m : List β}, Paired F l m → ∀ p, p ∈ l.zip m → F p.1 p.2
  | _, _, .nil, p, h => by cases h
  | _, _, .cons r t, p, h => by
    rw [List.zip_cons_cons] at h
    rcases List.mem_cons.mp h with e | h
    · rw [e]; exact r
    · exact paired_mem t p h
theorem paired_of {α β : Type} {F : α → β → Prop} : ∀ {l : List (α × β)}, (∀ p, p ∈ l → F p.1 p.2) → Paired F (l.map (·.1)) (l.map (·.2))
  | [], _ => .nil
  | p :: r, h => .cons (h p List.mem_cons_self) (paired_of fun q hq => h q (List.mem_cons_of_mem _ hq))
def kvW (E : List (List W)) : List (List Key × V) := E.map fun w => (keyW w, V.bl true)
theorem keys_W {H : Hp} : ∀ {E : List (List W)} {bs : List Addr}, IsKeys H (kvW E) bs → Paired (WT H) E bs
  | [], [], _ => .nil
  | [], _ :: _, r => by cases r
  | _ :: _, [], r => by cases r
  | w :: E, b :: bs, r => by
    unfold IsKeys kvW at r
    rw [List.map_cons] at r
    cases r with
    | cons h t =>
      refine .cons ?_ (keys_W (by unfold IsKeys kvW; exact t))
      have h : H b = some (.tup ((keyW w).map kV)) := h
      rw [keyW_kV] at h
      exact h
def rSortW : List V → Hp → VK → Prop := fun xs H Q => ∃ (d : Addr) (E : List (List W)), xs = [V.ref d] ∧ H d = some (.dT (kvW E)) ∧ (∀ w, w ∈ E → w ≠ []) ∧
  ∀ (p : Addr) (E' : List (List W)) (bs : List Addr), E'.Perm E → E'.Pairwise (fun a b => ¬ ltW b a) → Paired (WT H) E' bs → H p = none → Q (.ref p) (upd H p (.lst (bs.map V.ref)))
theorem cr_sortW {X : Cx} (hc : X.calm = true) : CallR X (.builtin "sorted") rSortW := by
  intro pins s σ H xs us Q I r q
  obtain ⟨d, E, rfl, hd, hne, q⟩ := q
  obtain ⟨u, rfl, rx⟩ := r.one
  cases rx
  obtain ⟨z, hs, ks, pr, o, es, ep, ho, hx, hdt, he, hn⟩ := (show ObjOk X.prog X.w H s.heap d (.dT (kvW E)) from I.hok d _ hd)
  have l1 : es.size = ks.length := size_of_entries he
  have l2 : (kvW E).length = ks.length := Paired.length pr
  have l3 : (kvW E).length = E.length := List.length_map ..
  have kd : KT H (kvW E) ks := pr
  have wt0 : Paired (WT H) E (ks.map fun x => x.2.1) := keys_W (isKeys_of kd)
  refine Calls.call_function_entry PyProof.Rows.kind_sorted PyProof.Rows.plain_sorted PyProof.Rows.entry_sorted (PyProof.Rows.args_sorted1 _) ?_
  unfold Builtin.«sorted»
  refine wpAny_bind (m := checkCount "sorted" 1 1 _) (wpAny_pure ?_)
  refine wpAny_bind (PySem.W.kdu_collect (A := X.A.in1) (kdl_raw hs hx hdt) (I.ok.hd hc) ho (by omega) fun h' tk acc hk it => ?_)
  have ea : acc.toList = ks.map fun x => Value.ref x.2.1 := by
    have hl : acc.toList.length = ks.length := by rw [Array.length_toList, it.1]; exact l1
    apply List.ext_getElem?
    intro j
    rw [List.getElem?_map]
    cases hj : acc.toList[j]? with
    | none =>
      have h1 := List.getElem?_eq_none_iff.mp hj
      rw [List.getElem?_eq_none (by omega)]
      all_goals rfl
    | some v =>
      obtain ⟨en, hen, hv⟩ := it.2 j v (by rw [← Array.getElem?_toList]; exact hj)
      have qe := entry_at he j
      rw [hen] at qe
      cases hb : ks[j]? with
      | none =>
        rw [hb] at qe
        exact nomatch (show some en = none from qe)
      | some b =>
        rw [hb] at qe
        have e2 : en = entryOfKey (tupleKind (mixKind X.prog X.w)) b := Option.some.inj qe
        rw [hv, e2]
        all_goals rfl
  have I1 : Inv X pins σ H { s with heap := h', toks := tk } := I.kept hk
  have hal : acc.toList.length = E.length := by rw [ea, List.length_map]; omega
  have hsl : acc.toList.length ≤ sizeLine := by omega
  refine wpAny_bind (wpAny_newList ?_ hsl)
  have hoL : (h'.push (seqObj "list" acc.toList.toArray 0)).get? h'.objs.size = some (seqObj "list" acc.toList.toArray 0) := Heap.get?_push_size _ rfl
  show wpAny _ _ _ _ _ { s with heap := h'.push (seqObj "list" acc.toList.toArray 0), toks := tk }
  -- the words and where they stand
  have hL : ∃ L : List (List W × Addr), acc.toList = L.map (fun p => Value.ref p.2) ∧ L.map (·.1) = E ∧ ∀ p, p ∈ L → WT H p.1 p.2 ∧ p.1 ≠ [] := by
    refine ⟨E.zip (ks.map fun x => x.2.1), ?_, ?_, fun p hp => ⟨paired_mem wt0 p hp, hne _ (List.of_mem_zip hp).1⟩⟩
    · have : (E.zip (ks.map fun x => x.2.1)).map (fun p => Value.ref p.2) = ((E.zip (ks.map fun x => x.2.1)).map Prod.snd).map Value.ref := by rw [List.map_map]; rfl
      rw [this, List.map_snd_zip (by rw [List.length_map]; omega), List.map_map, ea]; rfl
    · exact List.map_fst_zip (by rw [List.length_map]; omega)
  obtain ⟨L, eL, eE, hLm⟩ := hL
  -- each value's key in a heap that keeps the tuples
  have at1 : ∀ p, p ∈ L → ∃ (ob : Obj) (its : List Value) (n : Nat), h'.get? p.2 = some ob ∧ ob.cls = .type "tuple" ∧ ob.data = .seq its.toArray n ∧ Vals (strV p.1) its := fun p hp => by
    obtain ⟨_, its, r, ob, h1, h2, n, h3⟩ := (show ObjOk X.prog X.w H h' p.2 (.tup (strV p.1)) from I1.hok _ _ (hLm p hp).1)
    exact ⟨ob, its, n, h1, h2, h3, r⟩
  have pushK : ∀ b ob, h'.get? b = some ob → (h'.push (seqObj "list" acc.toList.toArray 0)).get? b = some ob := fun b ob e => Heap.get?_push_of_some _ e
  have keyC : ∀ p, p ∈ L → tupKeyC (h'.push (seqObj "list" acc.toList.toArray 0)) (fun _ => true) (.ref p.2) = some (codes p.1) := fun p hp => by
    obtain ⟨ob, its, n, h1, h2, h3, r⟩ := at1 p hp
    have g := pushK _ _ h1
    have i1 : isTupObj (h'.push (seqObj "list" acc.toList.toArray 0)) (.ref p.2) = true := by
      simp only [isTupObj, g, h2]; decide
    unfold tupKeyC
    rw [if_pos i1]
    simp only [tupKey, g, h3]
    exact tupItems_codes 0 r
  have tups : ∀ M : List (List W × Addr), (∀ p, p ∈ M → p ∈ L) → ∃ fs, TupsOf (h'.push (seqObj "list" acc.toList.toArray 0)) (fun _ => true) (M.map fun p => Value.ref p.2) fs := by
    intro M
    induction M with
    | nil => intro _; exact ⟨[], .nil⟩
    | cons p M ih =>
      intro hm
      obtain ⟨fs, ht⟩ := ih fun q hq => hm q (List.mem_cons_of_mem _ hq)
      have hp := hm p List.mem_cons_self
      obtain ⟨ob, its, n, h1, h2, h3, r⟩ := at1 p hp
      cases ew : p.1 with
      | nil => exact absurd ew (hLm p hp).2
      | cons x w =>
        rw [ew] at r
        have r' : Vals (V.str (strW x) :: strV w) its := r
        cases r' with
        | cons r0 rr =>
          obtain ⟨t, rfl⟩ := r0
          exact ⟨_ :: fs, .cons ⟨p.2, ob, _, n, rfl, pushK _ _ h1, h2, h3, rfl, fun z => Bool.noConfusion z, fun _ => ⟨strW x, t, rfl⟩⟩ ht⟩
  obtain ⟨fs, ht⟩ := tups L fun _ h => h
  rw [← eL] at ht
  have hk2 : ∀ v, v ∈ acc.toList → ∃ l, tupKeyC (h'.push (seqObj "list" acc.toList.toArray 0)) (fun _ => true) v = some l := fun v hv => by
    rw [eL] at hv
    obtain ⟨p, hp, rfl⟩ := List.mem_map.mp hv
    exact ⟨_, keyC p hp⟩
  refine wpAny_bind (wpAny_holding (wpAny_call_entry PyProof.Rows.slot_list_sort ⟨_, hoL, rfl⟩ PyProof.Rows.entry_list_sort
    (list_sort_tups (s := { s with heap := h'.push (seqObj "list" acc.toList.toArray 0), toks := tk }) hoL ht hk2 hsl fun st' hp hss _ => ⟨_, rfl, ?_⟩)
    (PyProof.Rows.args_list_sort _)))
  obtain ⟨e', he'⟩ := PyProof.Rows.sortedHeap_at (vs := acc.toList) (out := (arrOf st').map (·.2)) hoL
  have hpl : (arrOf st').toList.Perm (acc.toList.zip acc.toList) := by rw [← pairsOf_toList]; exact Array.perm_iff_toList_perm.mp hp
  have ez : acc.toList.zip acc.toList = L.map fun p => (Value.ref p.2, Value.ref p.2) := by
    rw [eL]
    exact zip_self
  obtain ⟨L', pL, eL'⟩ := perm_map_inv hpl ez
  have eout : ((arrOf st').map (·.2)).toList = (L'.map (·.2)).map Value.ref := by
    rw [Array.toList_map, eL', List.map_map, List.map_map]; rfl
  have hmem : ∀ p, p ∈ L' → p ∈ L := fun p hp => pL.mem_iff.mp hp
  have szs : (arrOf st').size = L'.length := by rw [← Array.length_toList, eL', List.length_map]
  have kk : ∀ (i : Nat) (p : List W × Addr), L'[i]? = some p → KK (tupKindC (h'.push (seqObj "list" acc.toList.toArray 0)) fun _ => true) (arrOf st') i = codes p.1 := fun i p hi => by
    unfold KK
    have : (arrOf st')[i]? = some (Value.ref p.2, Value.ref p.2) := by
      rw [← Array.getElem?_toList, eL', List.getElem?_map, hi]; rfl
    rw [this]
    show (tupKeyC _ _ (Value.ref p.2)).getD [] = codes p.1
    rw [keyC p (hmem p (List.mem_of_getElem? hi))]; rfl
  have hsorted : (L'.map (·.1)).Pairwise fun a b => ¬ ltW b a := by
    rw [List.pairwise_map, List.pairwise_iff_getElem]
    intro i j hi hj hij hlt
    have h1 := hss i j (Nat.le_of_lt hij) (by rw [← hp.size_eq, szs]; exact hj)
    rw [kk i _ (List.getElem?_eq_getElem hi), kk j _ (List.getElem?_eq_getElem hj)] at h1
    have h2 : lexLt itemOrd (codes L'[j].1) (codes L'[i].1) = false := h1
    rw [codes_lt hlt] at h2
    cases h2
  have hlen : ((L'.map (·.2)).map V.ref).length ≤ sizeLine := by
    rw [List.length_map, List.length_map, pL.length_eq]
    have : L.length = E.length := by rw [← eE, List.length_map]
    omega
  refine wpAny_pure ⟨_, rfl, .ref h'.objs.size, upd H h'.objs.size (.lst ((L'.map (·.2)).map V.ref)), I1.laid (t' := tk) (fun b u e => ?_) (Nat.le_refl _)
    (show ObjOk X.prog X.w _ _ _ (.lst ((L'.map (·.2)).map V.ref)) from ⟨hlen, ((arrOf st').map (·.2)).toList, e', by rw [eout]; exact vals_refs _, by rw [Array.toArray_toList]; exact he'⟩), rfl,
    q _ (L'.map (·.1)) (L'.map (·.2)) (by rw [← eE]; exact pL.map _) hsorted (paired_of fun p hp => (hLm p (hmem p hp)).1) (I1.hok.fresh (Nat.le_refl _))⟩
  have hb : b < h'.objs.size := Heap.lt_size e
  rw [PyProof.Rows.sortedHeap_old (Nat.ne_of_lt hb) (by rw [size_push']; exact Nat.lt_succ_of_lt hb)]
  exact Heap.get?_push_of_some _ e
end K19

/-! part RulesD -/
/-! Own rules, part D: new tuples whose object is known (no attributes of its own): a tuple's method can be called on them. -/
namespace K19
open PySem PySem.Spec PyProof.Rows L2
/-- the object of a new tuple -/
def tupObj (its : List Value) : Obj := { cls := .type "tuple", data := .seq its.toArray }
/-- a tuple of xs stands at a; its object has no attributes of its own -/
def FT (H : Hp) (xs : List V) (a : Addr) : Prop := ∃ its, H a = some (.frz (tupObj its) (.tup xs))
theorem FT.sq {K : PySem.W.Frag} {H : Hp} {xs : List V} {a : Addr} (h : FT H xs a) : SqT K H a xs := let ⟨its, e⟩ := h; .inl (.inr ⟨tupObj its, e⟩)
theorem FT.same {H H' : Hp} {xs : List V} {a : Addr} (h : FT H xs a) (s : Same H H') : FT H' xs a := let ⟨its, e⟩ := h; ⟨its, s _ _ e⟩
theorem frz_ok {P : Program} {w : World} {H : Hp} {h : Heap} {a : Addr} {xs : List V} {its : List Value} (z : xs.length ≤ sizeLine) (r : Vals xs its) (e : h.get? a = some (tupObj its)) : ObjOk P w H h a (.frz (tupObj its) (.tup xs)) :=
  ⟨e, z, its, r, _, e, rfl, _, rfl⟩
section
variable {X : Cx}
/-- (a, b, ..) -/
def tTupF (t : TA) : TE := fun σ H Q => t σ H fun xs H1 => xs.length ≤ sizeLine ∧ ∀ p its, H1 p = none → Q (.ref p) (upd H1 p (.frz (tupObj its) (.tup xs)))
theorem pe_tupF {es : List Expr} {t : TA} {pos : Pos} {x1} (h : PA X es t) : PE X (.Tuple es x1 pos) (tTupF t) := by
  refine ⟨fun pins s σ H Q I hq => ?_⟩
  refine wpAny_Tuple_spliced (thn (h.run pos pins s σ H _ I hq) fun us s1 ⟨xs, H1, I1, r, z, q⟩ => ⟨by rw [← r.length]; exact z, ?_⟩)
  have hf : H1 s1.heap.objs.size = none := I1.hok.fresh (Nat.le_refl _)
  exact ⟨.ref s1.heap.objs.size, upd H1 s1.heap.objs.size (.frz (tupObj us) (.tup xs)), I1.laid (t' := s1.toks) (fun b u e => Heap.get?_push_of_some _ e) (Nat.le_refl _) (frz_ok z r (Heap.get?_push_size _ rfl)), rfl, q _ us hf⟩
/-- tuple(xs) of a list -/
theorem call_tupleF : CallR X (.type "tuple") (fun xs H Q => ∃ p ys, xs = [.ref p] ∧ SqL X.K H p ys ∧ ∀ l its, H l = none → Q (.ref l) (upd H l (.frz (tupObj its) (.tup ys)))) := by
  intro pins s σ H xs us Q I r h
  obtain ⟨p, ys, rfl, hq, q⟩ := h
  obtain ⟨u, rfl, rx⟩ := vals1 r
  cases rx
  obtain ⟨its, r', pl, hz⟩ := I.list hq
  have hlen := r'.length
  refine call_tuple_list pl.isList (fun h' kp => ?_) (by simp only [List.size_toArray] <;> omega)
  have I1 : Inv X pins σ H { s with heap := h' } := I.kept (t' := s.toks) kp
  have I2 : Inv X pins σ (upd H h'.objs.size (.frz (tupObj its) (.tup ys))) { s with heap := h'.push { cls := .type "tuple", data := .seq its.toArray } } :=
    I1.laid (t' := s.toks) (fun b o e => Heap.get?_push_of_some _ e) (Nat.le_refl _) (frz_ok hz r' (Heap.get?_push_size _ rfl))
  exact ⟨.ref h'.objs.size, _, I2, rfl, q _ its (I1.hok.fresh (Nat.le_refl _))⟩
/-- t + u -/
def rCatF (K : PySem.W.Frag) : R2 := fun x y H Q => ∃ a b xs ys, x = .ref a ∧ y = .ref b ∧ SqT K H a xs ∧ SqT K H b ys ∧ ys ≠ [] ∧ xs.length + ys.length ≤ sizeLine ∧
  (xs = [] → Q (.ref b) H) ∧ (xs ≠ [] → ∀ p its, H p = none → Q (.ref p) (upd H p (.frz (tupObj its) (.tup (xs ++ ys)))))
theorem op_catF : OpR X (binaryOp .Add) (rCatF X.K) := by
  intro pins s σ H x y v u Q I rx ry h
  obtain ⟨a, b, xs, ys, rfl, rfl, ha, hb, hy, hz, q1, q2⟩ := h
  cases rx
  cases ry
  obtain ⟨its, r1, p1, _⟩ := I.tuple ha
  obtain ⟨its2, r2, p2, _⟩ := I.tuple hb
  by_cases hx : xs = []
  · subst hx
    cases r1
    exact cat_tup0 p1 p2 ⟨.ref b, H, I, rfl, q1 rfl⟩
  · refine HT.cat_tup p1 p2 (fun z => hx (r1.nil_iff.mp z)) (fun z => absurd (r2.nil_iff.mp z) hy) (fun z => ?_) (by rw [← r1.length, ← r2.length]; exact hz)
    refine ⟨.ref s.heap.objs.size, _, I.laid (t' := s.toks) (o := .frz (tupObj (its ++ its2)) (.tup (xs ++ ys))) (fun b ob q => Heap.get?_push_of_some _ q) (Nat.le_refl _) ?_, rfl, q2 hx _ _ (I.hok.fresh (Nat.le_refl _))⟩
    exact frz_ok (by rw [List.length_append]; exact hz) (r1.append r2) (Heap.get?_push_size _ rfl)
/-- t * n, t a tuple that was just written -/
def rRepF (K : PySem.W.Frag) : R2 := fun x y H Q => ∃ l k xs, x = .ref l ∧ y = .int k ∧ SqT K H l xs ∧ xs ≠ [] ∧ 1 ≤ k ∧ k ≤ 1000 ∧ xs.length ≤ 1000 ∧ (k = 1 → Q (.ref l) H) ∧ (2 ≤ k → ∀ p its, H p = none → Q (.ref p) (upd H p (.frz (tupObj its) (.tup (List.replicate k.toNat xs).flatten))))
theorem op_repF : OpR X (binaryOp .Mult) (rRepF X.K) := by
  intro pins s σ H x y v u Q I rx ry h
  obtain ⟨l, k, xs, rfl, rfl, hT, hne, h1, h2, hz, q1, q2⟩ := h
  by_cases hk : k = 1
  · subst hk
    cases rx
    obtain ⟨t, rfl⟩ := ry
    obtain ⟨its, r, ⟨⟨cls, dd, data, sl⟩, ho, hc, n, hd⟩, hs⟩ := I.tuple hT
    simp only at hc hd
    subst hc hd
    refine wpAny_binaryOp_repeat_ref (T := "tuple") (U := "int") (by decide) ⟨_, ho, rfl⟩ (fun s' => typeIs_int s' 1 t) noFill_tuple_mul F.fills_int_mul F.slot_int_rmul repeat_tuple F.slot_int_index.lookup
      (call_meets F.slot_int_rmul (typeIs_int s 1 t) F.entry_int_rmul (F.args_int_rmul_2 _ _) (int_rmul_tuple 1 t l its.toArray n dd sl)
        ⟨ho, rfl, ⟨_, ho, rfl⟩, call_meets F.slot_tuple_mul ⟨_, ho, rfl⟩ F.entry_tuple_mul (F.args_tuple_mul_2 _ _) (tuple_mul1 l its.toArray n dd sl t) ⟨ho, ?_⟩⟩)
    exact ⟨.ref l, H, I, rfl, q1 rfl⟩
  · have q2 := q2 (by omega)
    cases rx
    obtain ⟨t, rfl⟩ := ry
    obtain ⟨its, r, ⟨⟨cls, dd, data, sl⟩, ho, hc, n, hd⟩, hs⟩ := I.tuple hT
    simp only at hc hd
    subst hc hd
    have hle : its.length = xs.length := r.length.symm
    have hn : its ≠ [] := fun e => hne (by
      rw [e] at hle
      exact List.eq_nil_of_length_eq_zero hle.symm)
    have hi : its.toArray.isEmpty = false := by
      cases its with
      | nil => exact absurd rfl hn
      | cons a b => rfl
    have hsz0 : its.toArray.size = xs.length := by rw [List.size_toArray, hle]
    have hm : ((its.toArray.size : Nat) : Int) * k ≤ 1000000 := by
      rw [hsz0]
      have a1 : ((xs.length : Nat) : Int) * k ≤ 1000 * k := Int.mul_le_mul_of_nonneg_right (by omega) (by omega)
      omega
    have flen : (List.replicate k.toNat its).flatten.length ≤ sizeLine := by
      rw [PyProof.Rows.lm_len_rep_flat, hle, sizeLine_eq]
      have a1 : k.toNat * xs.length ≤ 1000 * 1000 := Nat.mul_le_mul (by omega) hz
      omega
    have c0 : (decide (k < -(2 ^ 63)) || decide (k ≥ 2 ^ 63)) = false := by
      rw [decide_eq_false (by omega), decide_eq_false (by omega)] <;> rfl
    have c1 : (its.toArray.isEmpty || k == 1) = false := by
      rw [hi, Bool.false_or]
      exact beq_eq_false_iff_ne.mpr (by omega)
    have c2 : (decide (k ≤ 0) || its.toArray.isEmpty) = false := by
      rw [hi, Bool.or_false]
      exact decide_eq_false (by omega)
    have c4 : Builtin.Tuple.tupleTooMany (((its.toArray.size : Nat) : Int) * k) = false := by
      unfold Builtin.Tuple.tupleTooMany
      rw [sizeLine_eq]
      exact decide_eq_false (by omega)
    refine wpAny_binaryOp_repeat_ref (T := "tuple") (U := "int") (by decide) ⟨_, ho, rfl⟩ (fun s' => typeIs_int s' k t) noFill_tuple_mul F.fills_int_mul F.slot_int_rmul repeat_tuple F.slot_int_index.lookup
      (call_meets F.slot_int_rmul (typeIs_int s k t) F.entry_int_rmul (F.args_int_rmul_2 _ _) (int_rmul_tuple k t l its.toArray n dd sl)
        ⟨ho, rfl, ⟨_, ho, rfl⟩, call_meets F.slot_tuple_mul ⟨_, ho, rfl⟩ F.entry_tuple_mul (F.args_tuple_mul_2 _ _) (tuple_mulW l its.toArray n dd sl k t c0 c1 c2 (by omega) c4 (by rw [size_rep, List.size_toArray]; exact flen)) ⟨ho, ?_⟩⟩)
    rw [size_rep]
    refine ⟨.ref s.heap.objs.size, _, I.laid (t' := s.toks) (o := .frz (tupObj (List.replicate k.toNat its).flatten) (.tup (List.replicate k.toNat xs).flatten)) (fun b ob q => Heap.get?_push_of_some _ q) (Nat.le_refl _) ?_, rfl, q2 _ _ (I.hok.fresh (Nat.le_refl _))⟩
    exact frz_ok (by rw [PyProof.Rows.lm_len_rep_flat, sizeLine_eq]; have a1 : k.toNat * xs.length ≤ 1000 * 1000 := Nat.mul_le_mul (by omega) hz; omega) (r.rep k.toNat) (Heap.get?_push_size _ rfl)
/-- t.m(e), t such a tuple -/
def tBMF (r : V → List V → Hp → VK → Prop) (to : TE) (t : TA) : TE := fun σ H Q => to σ H fun x H1 => (∃ a xs, x = .ref a ∧ FT H1 xs a) ∧ t σ H1 fun xs H2 => r x xs H2 Q
theorem pe_bmF {o e : Expr} {es : List Expr} {to : TE} {t : TA} {name : Str} {apos cpos : Pos} {id : String} {r : V → List V → Hp → VK → Prop} (slot : Slot "tuple" name id) (hty : typeOf (.builtin id) = pure (.type "method_descriptor")) (hm : MtR X id r) (ho : PE X o to) (ha : PA X (e :: es) t)
    (hbase : attributeBase o name X.env (eval o X.env) = eval o X.env := by rfl)
    (hfew : ((backTo cpos (starEach (e :: es) X.env)).all (fun x => !x.1) && (backToKw cpos (keywordEach [] X.env)).all (fun x => x.1.isSome)
      && decide ((e :: es).length + ([] : List Keyword).length + (if ([] : List Keyword).isEmpty then 0 else 1) < 30)) = true := by rfl)
    (hline : (apos.endLine == cpos.line) = true := by rfl) (hs : starEach (e :: es) X.env = (false, eval e X.env) :: starEach es X.env := by rfl) (hplain : (backTo cpos (starEach es X.env)).any (·.1) = false := by rfl) :
    PE X (.Call (.Attribute o name apos) (e :: es) [] cpos) (tBMF r to t) := by
  refine ⟨fun pins s σ H Q I h => ?_⟩
  refine wpAny_Call_method_late hbase hfew hline rfl (thn (ho.run pins s σ H _ I h) fun v s1 ⟨x, H1, I1, r1, ty, q1⟩ => ?_)
  obtain ⟨a, xs, rfl, its, hf⟩ := ty
  cases r1
  obtain ⟨hg, _⟩ := (show ObjOk X.prog X.w H1 s1.heap a (.frz (tupObj its) (.tup xs)) from I1.hok _ _ hf)
  refine ⟨"tuple", id, PySem.F.plainAttrs_tuple, slot, hty, ⟨_, hg, rfl⟩, fun b e => ?_, ?_⟩
  · cases e
    exact ⟨_, hg, rfl⟩
  have hA := ha.run cpos pins s1 σ H1 _ I1 q1
  rw [hs] at hA ⊢
  refine Calls.callWith_builtin (by show (false || (backTo cpos (starEach es X.env)).any (·.1)) = false; rw [hplain] <;> rfl) (Calls.evalArgs_plain ?_)
  exact thn hA fun us s2 ⟨vs, H2, I2, r2, q2⟩ => hm pins s2 σ H2 (.ref a) vs (.ref a) us Q I2 rfl r2 q2
end
end K19

/-! part Base -/
/-! The text by places, what stands in the heap (panels, words, lists of buttons), the module's names. -/
namespace K19
open PySem PySem.Spec PyProof.Rows L2
def topS (i : Nat) : Stmt := PySem.Challenge.pw_pressrelease_k19_whole_conditions_of_eff.main.body.getD i (.Pass ⟨0, 0, 0, 0⟩)
abbrev sCW : Stmt := topS 8
abbrev sEA : Stmt := topS 9
abbrev sEO : Stmt := topS 10
abbrev sFB : Stmt := topS 11
abbrev sIE : Stmt := topS 12
abbrev sOR : Stmt := topS 13
abbrev sGA : Stmt := topS 14
abbrev sRF : Stmt := topS 15
abbrev sAE : Stmt := topS 16
abbrev sWB : Stmt := topS 18
abbrev sFR : Stmt := topS 19
abbrev sLD : Stmt := topS 21
abbrev sLN : Stmt := topS 22
abbrev sLP : Stmt := topS 23
abbrev sLR : Stmt := topS 24
abbrev sLW : Stmt := topS 25
abbrev sLG : Stmt := topS 26
abbrev sLH : Stmt := topS 27
abbrev sLA : Stmt := topS 28
abbrev sLaw : Stmt := topS 29
/-! ### values and heaps -/
@[reducible] def nV (n : Nat) : V := V.int (n : Int)
abbrev lV (l : List Nat) : List V := l.map nV
abbrev wV (x : W) : V := V.str (strW x)
theorem nV_inj {a b : Nat} (h : nV a = nV b) : a = b := by
  have := V.int.inj h
  omega
theorem nV_dec (a b : Nat) : decide (nV a = nV b) = decide (a = b) := by
  by_cases e : a = b
  · subst e; simp
  · rw [decide_eq_false e, decide_eq_false fun z => e (nV_inj z)]
theorem wV_dec (a b : W) : decide (wV a = wV b) = decide (a = b) := by
  by_cases e : a = b
  · subst e; simp
  · rw [decide_eq_false e, decide_eq_false fun z => e (strW_inj (V.str.inj z))]
theorem lV_len (l : List Nat) : (lV l).length = l.length := List.length_map ..
theorem lV_get {l : List Nat} {i b : Nat} (h : l[i]? = some b) : (lV l)[i]? = some (nV b) := by
  rw [List.getElem?_map, h]; rfl
theorem lV_of {l : List Nat} {i : Nat} {x : V} (h : (lV l)[i]? = some x) : ∃ b, l[i]? = some b ∧ x = nV b := by
  rw [List.getElem?_map] at h
  cases e : l[i]? with
  | none => rw [e] at h; cases h
  | some b => rw [e] at h; exact ⟨b, rfl, (Option.some.inj h).symm⟩
theorem lV_flat (l : List Nat) : (lV l).all flatV = true := by
  rw [List.all_eq_true]
  intro x hx
  obtain ⟨b, _, rfl⟩ := List.mem_map.mp hx
  rfl
theorem inV_nat (b : Nat) (l : List Nat) : inV (nV b) (lV l) = decide (b ∈ l) := by
  unfold inV
  rw [Bool.eq_iff_iff, List.any_eq_true, decide_eq_true_iff]
  constructor
  · rintro ⟨x, hx, he⟩
    obtain ⟨c, hc, rfl⟩ := List.mem_map.mp hx
    have : ((c : Int) == (b : Int)) = true := he
    have : (c : Int) = b := by simpa using this
    have : c = b := by omega
    rw [← this]; exact hc
  · intro h
    exact ⟨nV b, List.mem_map.mpr ⟨b, h, rfl⟩, by show ((b : Int) == (b : Int)) = true; simp⟩
theorem strV_flat (w : List W) : (strV w).all flatV = true := by
  rw [List.all_eq_true]
  intro x hx
  obtain ⟨b, _, rfl⟩ := List.mem_map.mp hx
  rfl
theorem inV_word (b : W) (l : List W) : inV (wV b) (strV l) = decide (b ∈ l) := by
  unfold inV
  rw [Bool.eq_iff_iff, List.any_eq_true, decide_eq_true_iff]
  constructor
  · rintro ⟨x, hx, he⟩
    obtain ⟨c, hc, rfl⟩ := List.mem_map.mp hx
    have : (strW c == strW b) = true := he
    have : c = b := strW_inj (by simpa using this)
    rw [← this]; exact hc
  · intro h
    exact ⟨wV b, List.mem_map.mpr ⟨b, h, rfl⟩, by show (strW b == strW b) = true; simp⟩
/-- a list of buttons, a tuple of buttons -/
abbrev LN (H : Hp) (l : List Nat) (a : Addr) : Prop := H a = some (.lst (lV l))
abbrev TN (H : Hp) (l : List Nat) (a : Addr) : Prop := H a = some (.tup (lV l))
/-- a panel at a -/
def PT' (H : Hp) (P : Pan) (a : Addr) : Prop := ∃ as : List Addr, H a = some (.tup (as.map V.ref)) ∧ Paired (fun l b => TN H l b) P as
theorem paired_get {α β : Type} {F : α → β → Prop} : ∀ {l : List α} {m : List β} {i : Nat} {x : α}, Paired F l m → l[i]? = some x → ∃ y, m[i]? = some y ∧ F x y
  | _, _, _, _, .nil, e => by simp at e
  | _, _, 0, _, .cons r _, e => by simp at e; subst e; exact ⟨_, rfl, r⟩
  | _, _, i + 1, _, .cons _ t, e => by
    obtain ⟨y, h1, h2⟩ := paired_get (i := i) t (by simpa using e)
    exact ⟨y, by simpa using h1, h2⟩
theorem paired_mono {α β : Type} {F G : α → β → Prop} {l : List α} {m : List β} (h : Paired F l m) (g : ∀ x y, F x y → G x y) : Paired G l m := Paired.mapP h g
theorem paired_app {α β : Type} {F : α → β → Prop} : ∀ {l : List α} {m : List β} {l' : List α} {m' : List β}, Paired F l m → Paired F l' m' → Paired F (l ++ l') (m ++ m')
  | _, _, _, _, .nil, s => s
  | _, _, _, _, .cons r t, s => .cons r (paired_app t s)
theorem PT'.same {H H' : Hp} {P : Pan} {a : Addr} (h : PT' H P a) (s : Same H H') : PT' H' P a :=
  let ⟨as, h1, h2⟩ := h
  ⟨as, s _ _ h1, paired_mono h2 fun _ _ q => s _ _ q⟩
theorem PT'.len {H : Hp} {P : Pan} {a : Addr} (h : PT' H P a) : ∃ as : List Addr, H a = some (.tup (as.map V.ref)) ∧ (as.map V.ref).length = P.length := by
  obtain ⟨as, h1, h2⟩ := h
  exact ⟨as, h1, by rw [List.length_map, ← Paired.length h2]⟩
theorem rel_get {P : Pan} {p : Nat} (h : p < P.length) : P[p]? = some (rel P p) := by
  unfold rel
  rw [List.getD_eq_getElem?_getD, List.getElem?_eq_getElem h]; rfl
/-- panel[p] -/
theorem PT'.at {H : Hp} {P : Pan} {a : Addr} {p : Nat} (h : PT' H P a) (hp : p < P.length) : ∃ (as : List Addr) (b : Addr), H a = some (.tup (as.map V.ref)) ∧ atI (as.map V.ref) (p : Int) = some (V.ref b) ∧ TN H (rel P p) b := by
  obtain ⟨as, h1, h2⟩ := h
  obtain ⟨b, e, q⟩ := paired_get h2 (rel_get hp)
  exact ⟨as, b, h1, atI_nat (by rw [List.getElem?_map, e]; rfl), q⟩
theorem same_upd {H : Hp} {p : Addr} {o : HO} (h : H p = none) : Same H (upd H p o) := fun b x e => by
  rw [upd_ne (ne_of_none e h)]
  exact e
theorem WT.same {H H' : Hp} {w : List W} {a : Addr} (h : WT H w a) (s : Same H H') : WT H' w a := s _ _ h
/-- what was there before a new thing was laid at p stays when p is written -/
theorem same_put {H H1 : Hp} {p : Addr} {o : HO} (s : Same H H1) (hp : H p = none) : Same H (upd H1 p o) := fun b x e => by
  rw [upd_ne (ne_of_none e hp)]
  exact s b x e
/-- the list that a comprehension grows -/
structure At (H1 : Hp) (D : Addr) (l : List V) (H : Hp) : Prop where
  same : Same H1 H
  lst : H D = some (.lst l)
theorem At.start {H1 : Hp} {D : Addr} (hD : H1 D = none) : At H1 D [] (upd H1 D (.lst [])) := ⟨same_upd hD, upd_same⟩
theorem At.next {H1 H H' : Hp} {D : Addr} {l : List V} (a : At H1 D l H) (s : Same H H') : At H1 D l H' := ⟨a.same.trans s, s _ _ a.lst⟩
theorem At.put {H1 H H4 : Hp} {D : Addr} {l m : List V} {y : V} (hD : H1 D = none) (a : At H1 D l H) (s : Same H H4) (hz : l.length < sizeLine) (em : m = l ++ [y]) :
    ∃ acc, H4 D = some (.lst acc) ∧ acc.length < sizeLine ∧ At H1 D m (upd H4 D (.lst (acc ++ [y]))) :=
  ⟨l, s _ _ a.lst, hz, same_put (a.same.trans s) hD, by rw [upd_same, em]⟩
theorem small {n : Nat} (h : n ≤ 10000) : n < sizeLine := by rw [sizeLine_eq]; omega
/-- the module's names -/
structure Txt (mg : Str → Option Value) : Prop where
  on : ∃ t, mg "ON" = some (.str "on" t)
  off : ∃ t, mg "OFF" = some (.str "off" t)
  same : ∃ t, mg "SAME" = some (.str "same" t)
  small : ∃ t, mg "SMALL_BUTTONS" = some (.int 7 t)
  len : mg "len" = none
  tuple : mg "tuple" = none
  list : mg "list" = none
  range : mg "range" = none
  enum : mg "enumerate" = none
  any : mg "any" = none
  all : mg "all" = none
  isin : mg "isinstance" = none
  str : mg "str" = none
  sorted : mg "sorted" = none
  int : mg "int" = none
section
variable {X : Cx}
theorem pe_on (T : Txt X.mg) {pos : Pos} (hg : Gl X "ON" := by rfl) : PE X (.Name "ON" pos) (tC (wV .on)) := let ⟨_, h⟩ := T.on; pe_glob hg h ⟨_, rfl⟩
theorem pe_off (T : Txt X.mg) {pos : Pos} (hg : Gl X "OFF" := by rfl) : PE X (.Name "OFF" pos) (tC (wV .off)) := let ⟨_, h⟩ := T.off; pe_glob hg h ⟨_, rfl⟩
theorem pe_same (T : Txt X.mg) {pos : Pos} (hg : Gl X "SAME" := by rfl) : PE X (.Name "SAME" pos) (tC (wV .same)) := let ⟨_, h⟩ := T.same; pe_glob hg h ⟨_, rfl⟩
theorem pe_small (T : Txt X.mg) {pos : Pos} (hg : Gl X "SMALL_BUTTONS" := by rfl) : PE X (.Name "SMALL_BUTTONS" pos) (tC (V.int 7)) := let ⟨_, h⟩ := T.small; pe_glob hg h ⟨_, rfl⟩
end
theorem mono (k : Nat) {A : Around} {n : Nat} (h : Room n A) (hk : k ≤ n) : Room k A := h.mono hk
/-- a comprehension without a test -/
theorem yes_lc {te : TE} {σ : L2.St} {H : Hp} {R : VK} {S : Hp → Prop} (h : te σ H R) : tYes σ H fun b H3 => if b = true then te σ H3 R else S H3 := by
  show if true = true then te σ H R else S H
  rw [if_pos rfl]
  exact h
theorem rep_flat (n : Nat) : (List.replicate n [wV .same]).flatten = strV (List.replicate n .same) := by
  induction n with
  | zero => rfl
  | succ n ih => rw [List.replicate_succ, List.flatten_cons, ih, List.replicate_succ]; rfl
/-- (SAME,) * n -/
theorem rep_same {K : PySem.W.Frag} {H : Hp} {p : Addr} {n : Nat} {Q : VK} (h1 : 1 ≤ n) (h2 : n ≤ 100) (hp : H p = some (.tup [wV .same])) (q : ∀ H' r, Same H H' → WT H' (List.replicate n .same) r → Q (.ref r) H') :
    rRepA K (.ref p) (.int (n : Int)) H Q := by
  refine ⟨p, n, _, rfl, rfl, SqT.of hp, (fun z => by cases z), by omega, by omega, by show 1 ≤ 1000; decide, fun e => ?_, fun _ r hr => ?_⟩
  · have e : n = 1 := by omega
    subst e
    exact q H p (Same.refl _) hp
  · refine q _ r (same_upd hr) ?_
    show upd H r _ r = some (.tup (strV (List.replicate n .same)))
    rw [upd_same, Int.toNat_natCast, rep_flat]
theorem walk_rng0 {n : Nat} : Walk (Itr 0 n) n (fun _ => True) (YFn nV) :=
  ⟨fun _ _ hi _ => hi, fun _ _ => Nat.le_refl _, fun i H x H' _ _ y => ⟨y.1, by rw [y.2, Int.zero_add]⟩⟩
theorem none_upd {H : Hp} {a b : Addr} {o : HO} (h : upd H a o b = none) : b ≠ a ∧ H b = none := by
  by_cases e : b = a
  · rw [e, upd_same] at h; cases h
  · rw [upd_ne e] at h; exact ⟨e, h⟩
theorem same_none {H H' : Hp} {b : Addr} (s : Same H H') (h : H' b = none) : H b = none := s.free h
/-- the words w are to be read at a; .. in a tuple without attributes of its own -/
abbrev WS (K : PySem.W.Frag) (H : Hp) (w : List W) (a : Addr) : Prop := SqT K H a (strV w)
abbrev WF (H : Hp) (w : List W) (a : Addr) : Prop := FT H (strV w) a
theorem tsame {K : PySem.W.Frag} {H H' : Hp} {a : Addr} {xs : List V} (s : Same H H') (h : SqT K H a xs) : SqT K H' a xs := by
  rcases h with (h | ⟨o, h⟩) | h
  · exact .inl (.inl (s _ _ h))
  · exact .inl (.inr ⟨o, s _ _ h⟩)
  · exact .inr h
theorem rep_sameF {K : PySem.W.Frag} {H : Hp} {p : Addr} {n : Nat} {Q : VK} (h1 : 1 ≤ n) (h2 : n ≤ 100) (hp : FT H [wV .same] p) (q : ∀ H' r, Same H H' → WF H' (List.replicate n .same) r → Q (.ref r) H') :
    rRepF K (.ref p) (.int (n : Int)) H Q := by
  refine ⟨p, n, _, rfl, rfl, hp.sq, (fun z => by cases z), by omega, by omega, by show 1 ≤ 1000; decide, fun e => ?_, fun _ r its hr => ?_⟩
  · have e : n = 1 := by omega
    subst e
    exact q H p (Same.refl _) hp
  · refine q _ r (same_upd hr) ⟨its, ?_⟩
    rw [upd_same, Int.toNat_natCast, rep_flat]
end K19

/-! part Data -/
/-! Data as a whole, for == and !=. -/
namespace K19
open PySem PySem.Spec PyProof.Rows L2
def Sm (k : Nat) (d : PyData) : Prop := d.canLay0 = true ∧ d.depth ≤ k
theorem Sm.all {k : Nat} : ∀ {ds : List PyData}, (∀ d, d ∈ ds → Sm k d) → PyData.canLayAll0 ds = true ∧ PyData.depthAll ds ≤ k
  | [], _ => ⟨rfl, Nat.zero_le _⟩
  | d :: r, h => by
    obtain ⟨h1, h2⟩ := h d List.mem_cons_self
    obtain ⟨r1, r2⟩ := Sm.all (ds := r) fun x hx => h x (List.mem_cons_of_mem _ hx)
    refine ⟨by rw [PyData.canLayAll0, h1, r1]; rfl, ?_⟩
    rw [PyData.depthAll]
    exact Nat.max_le.mpr ⟨h2, r2⟩
theorem Sm.lst {k : Nat} {ds : List PyData} (h : ∀ d, d ∈ ds → Sm k d) : Sm (k + 1) (.list ds) := by
  obtain ⟨a, b⟩ := Sm.all h
  exact ⟨by rw [PyData.canLay0]; exact a, by rw [PyData.depth]; exact Nat.succ_le_succ b⟩
theorem Sm.tup {k : Nat} {ds : List PyData} (h : ∀ d, d ∈ ds → Sm k d) : Sm (k + 1) (.tuple ds) := by
  obtain ⟨a, b⟩ := Sm.all h
  exact ⟨by rw [PyData.canLay0]; exact a, by rw [PyData.depth]; exact Nat.succ_le_succ b⟩
theorem Sm.int (i : Int) : Sm 0 (.int i) := ⟨rfl, Nat.le_refl _⟩
theorem Sm.word (x : W) : Sm 0 (.str (strW x)) := ⟨by cases x <;> decide +kernel, Nat.le_refl _⟩
theorem Sm.shaped {k : Nat} {d : PyData} (h : Sm k d) (hk : k ≤ 64) : SeqAt.shaped d = true := by
  unfold SeqAt.shaped
  rw [h.1, decide_eq_true (Nat.le_trans h.2 hk)]; rfl
def dN (l : List Nat) : List PyData := l.map fun (n : Nat) => PyData.int (n : Int)
def dW (w : List W) : List PyData := w.map fun x => .str (strW x)
theorem sm_N (l : List Nat) : ∀ d, d ∈ dN l → Sm 0 d := fun d hd => by
  obtain ⟨n, _, rfl⟩ := List.mem_map.mp hd
  exact Sm.int _
theorem sm_W (w : List W) : ∀ d, d ∈ dW w → Sm 0 d := fun d hd => by
  obtain ⟨n, _, rfl⟩ := List.mem_map.mp hd
  exact Sm.word _
def dTs (E : List (List W)) : List PyData := E.map fun w => .tuple (dW w)
def dWs (E : List (List Nat)) : List PyData := E.map fun w => .tuple (dN w)
theorem sm_Ts (E : List (List W)) : ∀ d, d ∈ dTs E → Sm 1 d := fun d hd => by
  obtain ⟨w, _, rfl⟩ := List.mem_map.mp hd
  exact Sm.tup (sm_W w)
theorem sm_Ws (E : List (List Nat)) : ∀ d, d ∈ dWs E → Sm 1 d := fun d hd => by
  obtain ⟨w, _, rfl⟩ := List.mem_map.mp hd
  exact Sm.tup (sm_N w)
section
variable {K : PySem.W.Frag} {H : Hp}
theorem dp_N : ∀ l : List Nat, DpAll K H (lV l) (dN l)
  | [] => .nil
  | n :: r => .cons (.int _) (dp_N r)
theorem dp_W : ∀ w : List W, DpAll K H (strV w) (dW w)
  | [] => .nil
  | x :: r => .cons (.str _) (dp_W r)
theorem dp_Ts : ∀ {E : List (List W)} {bs : List Addr}, Paired (WT H) E bs → DpAll K H (bs.map V.ref) (dTs E)
  | _, _, .nil => .nil
  | _, _, .cons r t => .cons (.tup (SqT.of r) (dp_W _)) (dp_Ts t)
theorem dp_Ws : ∀ {E : List (List Nat)} {bs : List Addr}, Paired (TN H) E bs → DpAll K H (bs.map V.ref) (dWs E)
  | _, _, .nil => .nil
  | _, _, .cons r t => .cons (.tup (SqT.of r) (dp_N _)) (dp_Ws t)
end
theorem eqv_nil : ∀ ds : List PyData, PyData.eqv (.list ds) (.list []) = decide (ds = [])
  | [] => by simp [PyData.eqv, PyData.eqvAll]
  | d :: r => by simp [PyData.eqv, PyData.eqvAll]
theorem dN_nil (l : List Nat) : decide (dN l = []) = decide (l = []) := by cases l <;> rfl
theorem dTs_nil (l : List (List W)) : decide (dTs l = []) = decide (l = []) := by cases l <;> rfl
theorem dWs_nil (l : List (List Nat)) : decide (dWs l = []) = decide (l = []) := by cases l <;> rfl
/-- l != [] -/
theorem ne_nilN {K : PySem.W.Frag} {H : Hp} {l : List Nat} {a p : Addr} {Q : VK} (ha : LN H l a) (hp : H p = some (.lst [])) (q : Q (.bl (!decide (l = []))) H) : rNeD K (.ref a) (.ref p) H Q := by
  refine ⟨.list (dN l), .list [], .lst (SqL.of ha) (dp_N l), .lst (SqL.of hp) .nil, (Sm.lst (sm_N l)).shaped (by decide), rfl, ?_⟩
  rw [eqv_nil, dN_nil]; exact q
theorem eq_nilN {K : PySem.W.Frag} {H : Hp} {l : List Nat} {a p : Addr} {Q : VK} (ha : LN H l a) (hp : H p = some (.lst [])) (q : Q (.bl (decide (l = []))) H) : rEqD K (.ref a) (.ref p) H Q := by
  refine ⟨.list (dN l), .list [], .lst (SqL.of ha) (dp_N l), .lst (SqL.of hp) .nil, (Sm.lst (sm_N l)).shaped (by decide), rfl, ?_⟩
  rw [eqv_nil, dN_nil]; exact q
theorem ne_nilT {K : PySem.W.Frag} {H : Hp} {E : List (List W)} {bs : List Addr} {a p : Addr} {Q : VK} (ha : H a = some (.lst (bs.map V.ref))) (hE : Paired (WT H) E bs) (hp : H p = some (.lst [])) (q : Q (.bl (!decide (E = []))) H) : rNeD K (.ref a) (.ref p) H Q := by
  refine ⟨.list (dTs E), .list [], .lst (SqL.of ha) (dp_Ts hE), .lst (SqL.of hp) .nil, (Sm.lst (sm_Ts E)).shaped (by decide), rfl, ?_⟩
  rw [eqv_nil, dTs_nil]; exact q
theorem ne_nilW {K : PySem.W.Frag} {H : Hp} {E : List (List Nat)} {bs : List Addr} {a p : Addr} {Q : VK} (ha : H a = some (.lst (bs.map V.ref))) (hE : Paired (TN H) E bs) (hp : H p = some (.lst [])) (q : Q (.bl (!decide (E = []))) H) : rNeD K (.ref a) (.ref p) H Q := by
  refine ⟨.list (dWs E), .list [], .lst (SqL.of ha) (dp_Ws hE), .lst (SqL.of hp) .nil, (Sm.lst (sm_Ws E)).shaped (by decide), rfl, ?_⟩
  rw [eqv_nil, dWs_nil]; exact q
end K19

/-! part W1 -/
/-! Walks 1: changed_word, effect_after, effect_of. -/
namespace K19
open PySem PySem.Spec PyProof.Rows L2
theorem scCW : FnScope ["panel", "pressed", "button", "word"] ["panel", "pressed", "button", "word"] (defScope sCW) := ⟨rfl, rfl, rfl, by decide +kernel, rfl, by decide +kernel, by decide +kernel⟩
theorem scEA : FnScope ["panel", "effect", "pressed", "button", "word"] ["panel", "effect", "pressed"] (defScope sEA) := ⟨rfl, rfl, rfl, by decide +kernel, rfl, by decide +kernel, by decide +kernel⟩
theorem scEO : FnScope ["panel", "row", "effect", "button"] ["panel", "row"] (defScope sEO) := ⟨rfl, rfl, rfl, by decide +kernel, rfl, by decide +kernel, by decide +kernel⟩
def spCW : Sp := fun vs H Q _ => ∃ (a : Addr) (P : Pan) (p b : Nat) (w : W), vs = [.ref a, nV p, nV b, wV w] ∧ PT' H P a ∧ p < P.length ∧ Q (wV (cw P p b w)) H
def spEA (K : PySem.W.Frag) : Sp := fun vs H Q _ => ∃ (a e : Addr) (P : Pan) (w : List W) (p : Nat), vs = [.ref a, .ref e, nV p] ∧ PT' H P a ∧ WS K H w e ∧ w.length ≤ 100 ∧ p < P.length ∧
  ∀ H' r, Same H H' → WT H' (press P w p) r → Q (.ref r) H'
def spEF (K : PySem.W.Frag) : Sp := fun vs H Q _ => ∃ (a e : Addr) (P : Pan) (w : List W) (p : Nat), vs = [.ref a, .ref e, nV p] ∧ PT' H P a ∧ WS K H w e ∧ w.length ≤ 100 ∧ p < P.length ∧
  ∀ H' r, Same H H' → WF H' (press P w p) r → Q (.ref r) H'
def spEO : Sp := fun vs H Q _ => ∃ (a e : Addr) (P : Pan) (r : List Nat), vs = [.ref a, .ref e] ∧ PT' H P a ∧ 1 ≤ P.length ∧ P.length ≤ 100 ∧ TN H r e ∧ (∀ b, b ∈ r → b < P.length) ∧
  ∀ H' w q, Same H H' → WF H' w q → Reach P w → Q (.ref q) H'
section
variable {P_ : Program} {w_ : World} {K : PySem.W.Frag} {mg : Str → Option Value} {base : Heap}
theorem ok_cw {f : Addr} {fd : FuncData} (F : Fun K "changed_word" "changed_word" sCW f fd) (T : Txt mg) : FnOk P_ w_ K mg base CX0 1 f fd ["panel", "pressed", "button", "word"] spCW := by
  refine F.ok scCW (fun vs H Q E h => ?_) (fun cdv A outer s H vs Q E hr h => ?_)
  · obtain ⟨a, P, p, b, w, rfl, _⟩ := h
    rfl
  · obtain ⟨a, P, p, b, w, rfl, hP, hp, k⟩ := h
    refine ⟨_, pss_cons (ps_if (pt_cmpR op_eq (pv 2) (pv 1) (nomark _)) (pss_one (ps_ret (pe_on T))) pss_nil)
      (pss_one (ps_ret (pe_ifExp (pt_cmpR op_in_seq (pv 2) (pe_ix ix_tup (pv 0) (pv 1) (fun _ _ => rfl)) (by rfl)) (pe_off T) (pv 3)))), ?_⟩
    refine ⟨_, rfl, _, rfl, rfl, _, rfl, ?_⟩
    rw [nV_dec]
    refine ite2 (fun e => ?_) (fun e => ?_)
    · have e := of_decide_eq_true e
      unfold cw at k
      rw [if_pos e] at k
      exact k
    · have e : ¬ b = p := fun z => e (decide_eq_true z)
      unfold cw at k
      rw [if_neg e] at k
      obtain ⟨as, c, h1, h2, h3⟩ := hP.at hp
      refine ⟨_, rfl, _, rfl, _, rfl, a, _, _, _, rfl, rfl, SqT.of h1, h2, c, _, rfl, .inr (SqT.of h3), rfl, lV_flat _, _, rfl, ?_⟩
      show if inV (nV b) (lV (rel P p)) = true then _ else _
      rw [inV_nat]
      refine ite2 (fun m => ?_) (fun m => ?_)
      · have m := of_decide_eq_true m
        rw [if_pos m] at k
        exact k
      · have m : ¬ b ∈ rel P p := fun z => m (decide_eq_true z)
        rw [if_neg m] at k
        exact ⟨_, rfl, k⟩
theorem press_get {P : Pan} {w : List W} {p i : Nat} {x : W} (h : w[i]? = some x) : (strV (press P w p))[i]? = some (wV (cw P p i x)) := by
  rw [strV_get]; unfold press; rw [List.getElem?_mapIdx, h]; rfl
theorem ok_ea {f fC : Addr} {fd fdC : FuncData} (F : Fun K "effect_after" "effect_after" sEA f fd) (T : Txt mg)
    (FC : Fun K "changed_word" "changed_word" sCW fC fdC) (bC : Binds K fdC ["panel", "pressed", "button", "word"] []) (gC : mg "changed_word" = some (.ref fC)) : FnOk P_ w_ K mg base CX0 2 f fd ["panel", "effect", "pressed"] (spEA K) := by
  have GC : FnOk P_ w_ K mg base CX0 1 fC fdC ["panel", "pressed", "button", "word"] spCW := ok_cw FC T
  refine F.ok scEA (fun vs H Q E h => ?_) (fun cdv A outer s H vs Q E hr h => ?_)
  · obtain ⟨a, e, P, w, p, rfl, _⟩ := h
    rfl
  · obtain ⟨a, e, P, w, p, rfl, hP, hE, hl, hp, k⟩ := h
    refine ⟨_, pss_one (ps_ret (pe_callTy call_tuple_of (by rfl) T.tuple (by decide +kernel) (pa_cons
      (pe_lc (own := [("button", 3), ("word", 4)]) (g := gTup K 2 (gCons (gName 3) (gCons (gName 4) gNil))) (tt := tYes) rfl scEA.nd (pi_enumT (by rfl) T.enum (pa_cons (pv 1) pa_nil))
        (blkOk_by (N := ["panel", "effect", "pressed", "button", "word"]) (sc := defScope sEA) (by decide +kernel))
        (fun _ _ _ _ _ => pg_tup rfl (pgs_cons (pg_name (i := 3) scEA.nd rfl (Or.inl rfl)) (pgs_cons (pg_name (i := 4) scEA.nd rfl (Or.inl rfl)) pgs_nil)))
        (fun _ _ _ _ _ => pts_nil)
        (fun _ _ _ _ _ => pe_call GC hr (by rfl) gC FC.kp bC .nil pass0 (pa_cons (pv 0) (pa_cons (pv 2) (pa_cons (pv 3) (pa_cons (pv 4) pa_nil))))))
      pa_nil))), ?_⟩
    refine ⟨.ref e, rfl, e, strV w, rfl, hE, fun D hD => lc_it (walk_enumT (xs := strV w)) (fun i => At H D ((strV (press P w p)).take i)) (At.start hD) (fun i H' _ z => tsame z.same hE) ?_ ?_⟩
    · rintro i x H1 H2 hi z ⟨T, y1, y2, rfl, nT, rfl, e1, e2⟩
      have hi' : i < w.length := by rw [← strV_len]; exact hi
      have e1 : nV i = y1 := Option.some.inj e1
      obtain ⟨x, hx⟩ : ∃ x, w[i]? = some x := ⟨_, List.getElem?_eq_getElem hi'⟩
      have e2 : wV x = y2 := by
        have q : (strV w)[i]? = some y2 := e2
        rw [strV_get, hx] at q
        exact Option.some.inj q
      subst e1 e2
      have s1 : Same H1 (upd H1 T (.tup [nV i, wV x])) := same_upd nT
      refine ⟨T, _, rfl, SqT.of upd_same, rfl, _, _, rfl, _, _, rfl, rfl, rfl, ?_⟩
      refine yes_lc ⟨_, rfl, _, rfl, _, rfl, _, rfl, a, P, p, i, x, rfl, hP.same (z.same.trans s1), hp, ?_⟩
      refine At.put hD z s1 (small ?_) ?_
      · rw [List.length_take, strV_len, press_len]; omega
      · rw [List.take_add_one, press_get hx]; rfl
    · intro H' z
      rw [show (strV w).length = (strV (press P w p)).length by rw [strV_len, strV_len, press_len], List.take_length] at z
      exact ⟨D, _, rfl, .inl ⟨SqL.of z.lst, fun r hr => k _ r (z.same.trans (same_upd hr)) upd_same⟩⟩
theorem ok_ef {f fC : Addr} {fd fdC : FuncData} (F : Fun K "effect_after" "effect_after" sEA f fd) (T : Txt mg)
    (FC : Fun K "changed_word" "changed_word" sCW fC fdC) (bC : Binds K fdC ["panel", "pressed", "button", "word"] []) (gC : mg "changed_word" = some (.ref fC)) : FnOk P_ w_ K mg base CX0 2 f fd ["panel", "effect", "pressed"] (spEF K) := by
  have GC : FnOk P_ w_ K mg base CX0 1 fC fdC ["panel", "pressed", "button", "word"] spCW := ok_cw FC T
  refine F.ok scEA (fun vs H Q E h => ?_) (fun cdv A outer s H vs Q E hr h => ?_)
  · obtain ⟨a, e, P, w, p, rfl, _⟩ := h
    rfl
  · obtain ⟨a, e, P, w, p, rfl, hP, hE, hl, hp, k⟩ := h
    refine ⟨_, pss_one (ps_ret (pe_callTy call_tupleF (by rfl) T.tuple (by decide +kernel) (pa_cons
      (pe_lc (own := [("button", 3), ("word", 4)]) (g := gTup K 2 (gCons (gName 3) (gCons (gName 4) gNil))) (tt := tYes) rfl scEA.nd (pi_enumT (by rfl) T.enum (pa_cons (pv 1) pa_nil))
        (blkOk_by (N := ["panel", "effect", "pressed", "button", "word"]) (sc := defScope sEA) (by decide +kernel))
        (fun _ _ _ _ _ => pg_tup rfl (pgs_cons (pg_name (i := 3) scEA.nd rfl (Or.inl rfl)) (pgs_cons (pg_name (i := 4) scEA.nd rfl (Or.inl rfl)) pgs_nil)))
        (fun _ _ _ _ _ => pts_nil)
        (fun _ _ _ _ _ => pe_call GC hr (by rfl) gC FC.kp bC .nil pass0 (pa_cons (pv 0) (pa_cons (pv 2) (pa_cons (pv 3) (pa_cons (pv 4) pa_nil))))))
      pa_nil))), ?_⟩
    refine ⟨.ref e, rfl, e, strV w, rfl, hE, fun D hD => lc_it (walk_enumT (xs := strV w)) (fun i => At H D ((strV (press P w p)).take i)) (At.start hD) (fun i H' _ z => tsame z.same hE) ?_ ?_⟩
    · rintro i x H1 H2 hi z ⟨T, y1, y2, rfl, nT, rfl, e1, e2⟩
      have hi' : i < w.length := by rw [← strV_len]; exact hi
      have e1 : nV i = y1 := Option.some.inj e1
      obtain ⟨x, hx⟩ : ∃ x, w[i]? = some x := ⟨_, List.getElem?_eq_getElem hi'⟩
      have e2 : wV x = y2 := by
        have q : (strV w)[i]? = some y2 := e2
        rw [strV_get, hx] at q
        exact Option.some.inj q
      subst e1 e2
      have s1 : Same H1 (upd H1 T (.tup [nV i, wV x])) := same_upd nT
      refine ⟨T, _, rfl, SqT.of upd_same, rfl, _, _, rfl, _, _, rfl, rfl, rfl, ?_⟩
      refine yes_lc ⟨_, rfl, _, rfl, _, rfl, _, rfl, a, P, p, i, x, rfl, hP.same (z.same.trans s1), hp, ?_⟩
      refine At.put hD z s1 (small ?_) ?_
      · rw [List.length_take, strV_len, press_len]; omega
      · rw [List.take_add_one, press_get hx]; rfl
    · intro H' z
      rw [show (strV w).length = (strV (press P w p)).length by rw [strV_len, strV_len, press_len], List.take_length] at z
      exact ⟨D, _, rfl, SqL.of z.lst, fun r its hr => k _ r (z.same.trans (same_upd hr)) ⟨its, upd_same⟩⟩
theorem ok_eo {f fA : Addr} {fd fdA : FuncData} (F : Fun K "effect_of" "effect_of" sEO f fd) (T : Txt mg)
    (FA : Fun K "effect_after" "effect_after" sEA fA fdA) (bA : Binds K fdA ["panel", "effect", "pressed"] []) (gA : mg "effect_after" = some (.ref fA))
    (GA : FnOk P_ w_ K mg base CX0 2 fA fdA ["panel", "effect", "pressed"] (spEF K)) : FnOk P_ w_ K mg base CX0 3 f fd ["panel", "row"] spEO := by
  refine F.ok scEO (fun vs H Q E h => ?_) (fun cdv A outer s H vs Q E hr h => ?_)
  · obtain ⟨a, e, P, r, rfl, _⟩ := h
    rfl
  · obtain ⟨a, e, P, r, rfl, hP, h1, h2, hR, hb, k⟩ := h
    refine ⟨_, pss_cons (ps_set (i := 2) scEO.nd rfl (.inl rfl) (pe_op op_repF (pe_tupF (pa_cons (pe_same T) pa_nil)) (pe_callB call_len_seq (by rfl) T.len PySem.boot_len (pa_cons (pv 0) pa_nil))))
      (pss_cons (ps_for PassesOwn.never rfl (pi_tup (pv 1)) (pg_name (i := 3) scEO.nd rfl (.inl rfl))
        (pss_one (ps_set (i := 2) scEO.nd rfl (.inl rfl) (pe_call GA hr (by rfl) gA FA.kp bA .nil pass0 (pa_cons (pv 0) (pa_cons (pv 2) (pa_cons (pv 3) pa_nil)))))))
      (pss_one (ps_ret (pv 2)))), ?_⟩
    refine ⟨by show 1 ≤ sizeLine; decide, fun p its hp => ?_⟩
    have s1 : Same H (upd H p (.frz (tupObj its) (.tup [wV .same]))) := same_upd hp
    obtain ⟨as, ha, hal⟩ := (hP.same s1).len
    refine ⟨.ref a, rfl, a, _, rfl, .inr (SqT.of ha), ?_⟩
    rw [hal]
    refine rep_sameF h1 h2 ⟨its, upd_same⟩ fun H1 q sm hw => ?_
    have s2 := s1.trans sm
    refine ⟨_, rfl, e, rfl, ⟨_, SqT.of (s2 _ _ hR)⟩, for_tup (K := K) (a := e) (xs := lV r) (fun i σ H' => ∃ (q : Addr) (w : List W) (v : Option V), σ = [some (.ref a), some (.ref e), some (.ref q), v] ∧ Same H H' ∧ WF H' w q ∧ Reach P w)
      ⟨q, _, none, rfl, s2, hw, .start⟩ (fun i σ H' _ ⟨_, _, _, _, sm, _⟩ => SqT.of (sm _ _ hR)) ?_ ?_⟩
    · rintro i x σ H' hi ⟨q, w, v, rfl, sm, hw, rw⟩
      obtain ⟨b, hb', rfl⟩ := lV_of hi
      have hbl := hb b (List.mem_of_getElem? hb')
      have hwl := reach_len rw
      refine ⟨_, rfl, _, rfl, _, rfl, a, q, P, w, b, rfl, hP.same sm, hw.sq, by omega, hbl, fun H2 r' s3 h3 => ?_⟩
      exact ⟨r', _, _, rfl, sm.trans s3, h3, .press rw hbl⟩
    · rintro σ H' ⟨q, w, v, rfl, sm, hw, rw⟩
      exact ⟨_, rfl, k H' w q sm hw rw⟩
end
end K19

/-! part W2 -/
/-! Walks 2: free_buttons. -/
namespace K19
open PySem PySem.Spec PyProof.Rows L2
theorem scFB : FnScope ["panel", "effect", "kept", "button", "word", "one"] ["panel", "effect"] (defScope sFB) := ⟨rfl, rfl, rfl, by decide +kernel, rfl, by decide +kernel, by decide +kernel⟩
/-- the buttons with the word same -/
def keptL (w : List W) (i : Nat) : List Nat := (List.range i).filter fun b => decide (wd w b = .same)
def frB (P : Pan) (w : List W) (b : Nat) : Bool := !((b :: rel P b).map fun c => decide (c ∈ keptL w w.length)).any id
def freeL (P : Pan) (w : List W) (i : Nat) : List Nat := (List.range i).filter fun b => frB P w b
theorem mem_kept {w : List W} {b : Nat} : b ∈ keptL w w.length ↔ b < w.length ∧ wd w b = .same := by
  unfold keptL
  rw [List.mem_filter, List.mem_range, decide_eq_true_iff]
theorem mem_free {P : Pan} (ok : PanOk P) {w : List W} (hl : w.length = P.length) {b : Nat} : b ∈ freeL P w P.length ↔ b < P.length ∧ wd w b ≠ .same ∧ Free P w b := by
  unfold freeL frB
  rw [List.mem_filter, List.mem_range, Bool.not_eq_true', Bool.eq_false_iff, ne_eq, List.any_eq_true]
  constructor
  · rintro ⟨h, n⟩
    have no : ∀ c, c ∈ b :: rel P b → c ∉ keptL w w.length := fun c hc hk => n ⟨_, List.mem_map.mpr ⟨c, hc, rfl⟩, decide_eq_true hk⟩
    refine ⟨h, fun z => no b List.mem_cons_self (mem_kept.mpr ⟨by omega, z⟩), fun c hc z => no c (List.mem_cons_of_mem _ hc) (mem_kept.mpr ⟨?_, z⟩)⟩
    rw [hl]; exact ok.lt b c hc
  · rintro ⟨h, n1, n2⟩
    refine ⟨h, ?_⟩
    rintro ⟨x, hx, ht⟩
    obtain ⟨c, hc, rfl⟩ := List.mem_map.mp hx
    have hk := mem_kept.mp (of_decide_eq_true ht)
    rcases List.mem_cons.mp hc with rfl | hc
    · exact n1 hk.2
    · exact n2 c hc hk.2
theorem kept_succ {w : List W} {i : Nat} {x : W} (h : w[i]? = some x) : lV (keptL w (i + 1)) = lV (keptL w i) ++ (if x = .same then [nV i] else []) := by
  unfold keptL
  rw [List.range_succ, List.filter_append]
  show List.map nV _ = _
  rw [List.map_append]
  congr 1
  rw [List.filter_cons, List.filter_nil, wd_get h]
  by_cases e : x = .same
  · rw [if_pos (decide_eq_true e), if_pos e]; rfl
  · rw [if_neg (by simpa using e), if_neg e]; rfl
theorem free_succ {P : Pan} {w : List W} {i : Nat} : lV (freeL P w (i + 1)) = lV (freeL P w i) ++ (if frB P w i = true then [nV i] else []) := by
  unfold freeL
  rw [List.range_succ, List.filter_append]
  show List.map nV _ = _
  rw [List.map_append]
  congr 1
  rw [List.filter_cons, List.filter_nil]
  by_cases e : frB P w i = true
  · rw [if_pos e, if_pos e]; rfl
  · rw [if_neg e, if_neg e]; rfl
theorem kept_len (w : List W) (i : Nat) : (lV (keptL w i)).length ≤ i := by
  rw [lV_len]; unfold keptL
  exact Nat.le_trans (List.length_filter_le _ _) (by simp)
theorem free_len (P : Pan) (w : List W) (i : Nat) : (lV (freeL P w i)).length ≤ i := by
  rw [lV_len]; unfold freeL
  exact Nat.le_trans (List.length_filter_le _ _) (by simp)
def spFB (K : PySem.W.Frag) : Sp := fun vs H Q _ => ∃ (a e : Addr) (P : Pan) (w : List W), vs = [.ref a, .ref e] ∧ PT' H P a ∧ PanOk P ∧ WS K H w e ∧ w.length = P.length ∧ P.length ≤ 100 ∧
  ∀ H' r, Same H H' → LN H' (freeL P w P.length) r → Q (.ref r) H'
section
variable {P_ : Program} {w_ : World} {K : PySem.W.Frag} {mg : Str → Option Value} {base : Heap}
theorem ok_fb {f : Addr} {fd : FuncData} (F : Fun K "free_buttons" "free_buttons" sFB f fd) (T : Txt mg) : FnOk P_ w_ K mg base CX0 1 f fd ["panel", "effect"] (spFB K) := by
  refine F.ok scFB (fun vs H Q E h => ?_) (fun cdv A outer s H vs Q E hr h => ?_)
  · obtain ⟨a, e, P, w, rfl, _⟩ := h
    rfl
  · obtain ⟨a, e, P, w, rfl, hP, ok, hE, hl, hn, k⟩ := h
    refine ⟨_, pss_cons (ps_set (i := 2) scFB.nd rfl (.inr rfl)
        (pe_lc (own := [("button", 3), ("word", 4)]) (g := gTup K 2 (gCons (gName 3) (gCons (gName 4) gNil))) rfl scFB.nd (pi_enumT (by rfl) T.enum (pa_cons (pv 1) pa_nil))
          (blkOk_by (N := ["panel", "effect", "kept", "button", "word", "one"]) (sc := defScope sFB) (by decide +kernel))
          (fun _ _ _ _ _ => pg_tup rfl (pgs_cons (pg_name (i := 3) scFB.nd rfl (Or.inl rfl)) (pgs_cons (pg_name (i := 4) scFB.nd rfl (Or.inl rfl)) pgs_nil)))
          (fun _ _ _ _ _ => pts_one (pt_cmpR op_eq (pv 4) (pe_same T) (nomark _)))
          (fun _ _ _ _ _ => pv 3)))
      (pss_one (ps_ret (pe_lc (own := [("button", 3)]) (g := gName 3) (tt := tNot (tB (tCB (rAny K) (tCons (tLc (iTup K (tTup (tCons (tVar 3) (StX.tStar K (tOp (rIxT K) (tVar 0) (tVar 3)) tNil)))) (gName 5) tYes (tOp (rIn K false) (tVar 5) (tVar 2)) [5]) tNil)))) rfl scFB.nd (pi_range1 (by rfl) T.range (pa_cons (pe_callB call_len_seq (by rfl) T.len PySem.boot_len (pa_cons (pv 0) pa_nil)) pa_nil))
        (blkOk_by (N := ["panel", "effect", "kept", "button", "word", "one"]) (sc := defScope sFB) (by decide +kernel))
        (fun _ _ _ _ _ => pg_name (i := 3) scFB.nd rfl (Or.inl rfl))
        (fun _ _ _ _ _ => pts_one (pt_not (pt_val (pe_callB (cr_any rfl) (by rfl) T.any (by decide +kernel) (pa_cons
          (pe_lc (own := [("one", 5)]) (g := gName 5) (tt := tYes) (te := tOp (rIn K false) (tVar 5) (tVar 2)) rfl scFB.nd (pi_tup (pe_tup (pa_cons (pv 3) (StX.pa_star (pe_ix ix_tup (pv 0) (pv 3) (fun _ _ => rfl)) pa_nil))))
            (blkOk_by (by kernel_rfl))
            (fun _ _ _ _ _ => pg_name (i := 5) scFB.nd rfl (Or.inl rfl)) (fun _ _ _ _ _ => pts_nil)
            (fun _ _ _ _ _ => pe_cmpR op_in_seq (pv 5) (pv 2) (by rfl)))
          pa_nil)))))
        (fun _ _ _ _ _ => pv 3)))), ?_⟩
    -- kept
    refine ⟨.ref e, rfl, e, strV w, rfl, hE, fun D hD => lc_it (walk_enumT (xs := strV w)) (fun i => At H D (lV (keptL w i))) (At.start hD) (fun i H' _ z => tsame z.same hE) ?_ ?_⟩
    · rintro i x H1 H2 hi z ⟨T, y1, y2, rfl, nT, rfl, e1, e2⟩
      have hi' : i < w.length := by rw [← strV_len]; exact hi
      have e1 : nV i = y1 := Option.some.inj e1
      obtain ⟨x, hx⟩ : ∃ x, w[i]? = some x := ⟨_, List.getElem?_eq_getElem hi'⟩
      have e2 : wV x = y2 := by
        have q : (strV w)[i]? = some y2 := e2
        rw [strV_get, hx] at q
        exact Option.some.inj q
      subst e1 e2
      have s1 : Same H1 (upd H1 T (.tup [nV i, wV x])) := same_upd nT
      refine ⟨T, _, rfl, SqT.of upd_same, rfl, _, _, rfl, _, _, rfl, rfl, rfl, _, rfl, rfl, _, rfl, ?_⟩
      rw [wV_dec]
      have hk := kept_succ hx
      have hz := kept_len w i
      refine ite2 (fun q => ?_) (fun q => ?_)
      · have q := of_decide_eq_true q
        rw [if_pos q] at hk
        exact ⟨_, rfl, At.put hD z s1 (small (by omega)) hk⟩
      · have q : ¬ x = .same := fun z => q (decide_eq_true z)
        rw [if_neg q, List.append_nil] at hk
        rw [hk]
        exact z.next s1
    · intro H1 z
      have zl : LN H1 (keptL w w.length) D := by
        have := z.lst
        rw [strV_len] at this
        exact this
      have s1 : Same H H1 := z.same
      have hP1 := hP.same s1
      obtain ⟨as, ha, hal⟩ := hP1.len
      refine ⟨.ref a, rfl, a, _, rfl, .inr (SqT.of ha), ?_⟩
      rw [hal]
      refine ⟨(P.length : Int), rfl, by omega, by omega, ?_⟩
      rw [Int.toNat_natCast]
      refine fun D2 hD2 => lc_it (walk_rng0 (n := P.length)) (fun i => At H1 D2 (lV (freeL P w i))) (At.start hD2) (fun i H' _ z => trivial) ?_ ?_
      · rintro i x H2 H3 hi z ⟨rfl, rfl⟩
        obtain ⟨as2, b, h1, h2, h3⟩ := (hP1.same z.same).at hi
        refine ⟨rfl, _, rfl, _, rfl, _, rfl, a, _, _, _, rfl, rfl, SqT.of h1, h2, b, _, rfl, .inl (SqT.of h3), ?_, fun tp htp => ?_⟩
        · have := (PanOk.nd ok i).length_le_of_subset (l₂ := List.range P.length) fun c hc => List.mem_range.mpr (ok.lt i c hc)
          rw [List.length_range] at this
          refine Nat.le_of_lt (small ?_)
          rw [List.length_cons, List.append_nil, lV_len]; omega
        · have et : V.int (i : Int) :: (lV (rel P i) ++ []) = lV (i :: rel P i) := by rw [List.append_nil]; rfl
          rw [et]
          have s3 : Same H3 (upd H3 tp (.tup (lV (i :: rel P i)))) := same_upd htp
          generalize hH4 : upd H3 tp (.tup (lV (i :: rel P i))) = H4 at s3
          have ht4 : TN H4 (i :: rel P i) tp := by rw [← hH4]; exact upd_same
          have hk4 : LN H4 (keptL w w.length) D := s3 _ _ (z.same _ _ zl)
          refine ⟨tp, rfl, ⟨_, SqT.of ht4⟩, fun D3 hD3 => lc_it (walk_tup (xs := lV (i :: rel P i))) (fun j => At H4 D3 (((((i :: rel P i).map fun c => decide (c ∈ keptL w w.length)).take j)).map V.bl)) (At.start hD3) (fun i H' _ z => SqT.of (z.same _ _ ht4)) ?_ ?_⟩
          · rintro j y H5 H6 hj z5 ⟨rfl, hy⟩
            obtain ⟨c, hc, rfl⟩ := lV_of hy
            refine ⟨rfl, yes_lc ⟨_, rfl, _, rfl, D, _, rfl, .inl (SqL.of (z5.same _ _ hk4)), rfl, lV_flat _, ?_⟩⟩
            show ∃ acc, _
            rw [if_neg Bool.false_ne_true, inV_nat]
            refine At.put hD3 z5 (Same.refl _) (small ?_) ?_
            · have := (PanOk.nd ok i).length_le_of_subset (l₂ := List.range P.length) fun c hc => List.mem_range.mpr (ok.lt i c hc)
              rw [List.length_range] at this
              rw [List.length_map, List.length_take, List.length_map, List.length_cons]; omega
            · rw [List.take_add_one, List.getElem?_map, hc, List.map_append]; rfl
          · intro H5 z5
            refine ⟨D3, _, rfl, SqL.of z5.lst, ?_⟩
            have ef : (!(((i :: rel P i).map fun c => decide (c ∈ keptL w w.length)).take (lV (i :: rel P i)).length).any id) = frB P w i := by
              unfold frB
              rw [lV_len, List.take_of_length_le (by rw [List.length_map]; exact Nat.le_refl _)]
            refine ⟨_, rfl, ?_⟩
            dsimp only
            rw [ef]
            have hk := free_succ (P := P) (w := w) (i := i)
            have hz := free_len P w i
            refine ite2 (fun q => ?_) (fun q => ?_)
            · rw [if_pos q] at hk
              exact ⟨_, rfl, At.put hD2 z (s3.trans z5.same) (small (by omega)) hk⟩
            · rw [if_neg q, List.append_nil] at hk
              rw [hk]
              exact z.next (s3.trans z5.same)
      · intro H2 z2
        exact k H2 D2 (s1.trans z2.same) z2.lst
end
end K19

/-! part W3 -/
/-! Walks 3: is_effect_form, ordered. -/
namespace K19
open PySem PySem.Spec PyProof.Rows L2
theorem scIE : FnScope ["panel", "value", "word"] ["panel", "value"] (defScope sIE) := ⟨rfl, rfl, rfl, by decide +kernel, rfl, by decide +kernel, by decide +kernel⟩
def spIE : Sp := fun vs H Q _ => ∃ (a e : Addr) (P : Pan) (w : List W), vs = [.ref a, .ref e] ∧ PT' H P a ∧ WF H w e ∧ w.length = P.length ∧ P.length ≤ 100 ∧ ∀ H', Same H H' → Q (.bl true) H'
theorem word_in (x : W) : inV (wV x) [wV .on, wV .off, wV .same] = true := by
  have : inV (wV x) (strV [.on, .off, .same]) = true := by
    rw [inV_word]; cases x <;> rfl
  exact this
section
variable {P_ : Program} {w_ : World} {K : PySem.W.Frag} {mg : Str → Option Value} {base : Heap}
theorem ok_ie {f : Addr} {fd : FuncData} (F : Fun K "is_effect_form" "is_effect_form" sIE f fd) (T : Txt mg) : FnOk P_ w_ K mg base CX0 1 f fd ["panel", "value"] spIE := by
  refine F.ok scIE (fun vs H Q E h => ?_) (fun cdv A outer s H vs Q E hr h => ?_)
  · obtain ⟨a, e, P, w, rfl, _⟩ := h
    rfl
  · obtain ⟨a, e, P, w, rfl, hP, hE, hl, hn, k⟩ := h
    refine ⟨_, pss_cons (ps_if (PW.pt (pw_or (pt_not (pt_val (pe_callB call_isi (by rfl) T.isin PyProof.Rows.boot_isinstance (pa_cons (pv 1) (pa_cons (pe_bltn (v := .ty "tuple") (by rfl) T.tuple PyProof.Rows.boot_tuple rfl) pa_nil)))))
        (pw_or1 (pt_cmpR op_ne (pe_callB call_len_seq (by rfl) T.len PySem.boot_len (pa_cons (pv 1) pa_nil)) (pe_callB call_len_seq (by rfl) T.len PySem.boot_len (pa_cons (pv 0) pa_nil)) (nomark _))))) (pss_one (ps_ret pe_bl)) pss_nil)
      (pss_one (ps_ret (pe_callB (cr_all rfl) (by rfl) T.all PyProof.Rows.boot_all (pa_cons
        (pe_lc (own := [("word", 2)]) (g := gName 2) (tt := tYes) (te := tAndV (tCB (rIsi K) (tCons (tVar 2) (tCons (tC (.ty "str")) tNil))) (tOp (rIn K false) (tVar 2) (tTup (tCons (tC (wV .on)) (tCons (tC (wV .off)) (tCons (tC (wV .same)) tNil)))))) rfl scIE.nd (pi_tup (pv 1))
          (blkOk_by (N := ["panel", "value", "word"]) (sc := defScope sIE) (by decide +kernel))
          (fun _ _ _ _ _ => pg_name (i := 2) scIE.nd rfl (Or.inl rfl)) (fun _ _ _ _ _ => pts_nil)
          (fun _ _ _ _ _ => pe_and (pe_callB call_isi (by rfl) T.isin PyProof.Rows.boot_isinstance (pa_cons (pv 2) (pa_cons (pe_bltn (v := .ty "str") (by rfl) T.str PyProof.Rows.boot_str rfl) pa_nil)))
            (pe_one (pe_cmpR op_in_seq (pv 2) (pe_tup (pa_cons (pe_on T) (pa_cons (pe_off T) (pa_cons (pe_same T) pa_nil)))) (by rfl))))) pa_nil)))), ?_⟩
    obtain ⟨as, ha, hal⟩ := hP.len
    refine ⟨_, rfl, _, .ty "tuple", _, _, true, rfl, .ty "tuple", .fTuple hE.choose_spec, kit_ty (by decide +kernel), true, rfl, ?_⟩
    show if false = true then _ else _
    rw [if_neg Bool.false_ne_true]
    refine ⟨.ref e, rfl, e, _, rfl, .inr (hE.sq), .ref a, rfl, a, _, rfl, .inr (SqT.of ha), rfl, _, rfl, ?_⟩
    rw [strV_len, hal, hl, decide_eq_true rfl]
    refine iteF ?_
    refine ⟨_, rfl, e, rfl, ⟨_, hE.sq⟩, fun D hD => lc_it (walk_tup (xs := strV w)) (fun i => At H D ((List.replicate i true).map V.bl)) (At.start hD) (fun i H' _ z => tsame z.same hE.sq) ?_ ?_⟩
    · rintro i y H1 H2 hi z ⟨rfl, hy⟩
      obtain ⟨x, hx, rfl⟩ : ∃ x, w[i]? = some x ∧ y = wV x := by
        rw [strV_get] at hy
        cases q : w[i]? with
        | none => rw [q] at hy; cases hy
        | some x => rw [q] at hy; exact ⟨x, rfl, (Option.some.inj hy).symm⟩
      refine ⟨rfl, yes_lc ⟨_, rfl, _, .ty "str", _, _, true, rfl, .ty "str", .base (.str _), kit_ty (by decide +kernel), true, rfl, iteT (B := Q (.bl false) H2) ?_⟩⟩
      refine ⟨_, rfl, by show 3 ≤ sizeLine; decide, fun p hp => ⟨p, _, rfl, .inr (SqT.of upd_same), rfl, rfl, ?_⟩⟩
      show ∃ acc, _
      rw [if_neg Bool.false_ne_true, word_in]
      have hi' : i < w.length := by rw [← strV_len]; exact hi
      refine At.put hD z (same_upd hp) (small ?_) ?_
      · rw [List.length_map, List.length_replicate]; omega
      · rw [List.replicate_succ', List.map_append]; rfl
    · intro H1 z
      refine ⟨D, _, rfl, SqL.of z.lst, ?_⟩
      have : (List.replicate (strV w).length true).all id = true := by
        rw [List.all_eq_true]
        intro b hb
        rw [(List.mem_replicate.mp hb).2]; rfl
      rw [this]
      exact k H1 z.same
end
end K19

/-! part W4 -/
/-! Walks 4: ordered. -/
namespace K19
open PySem PySem.Spec PyProof.Rows L2
theorem scOR : FnScope ["panel", "buttons", "left", "order", "first", "button", "other"] ["panel", "buttons"] (defScope sOR) := ⟨rfl, rfl, rfl, by decide +kernel, rfl, by decide +kernel, by decide +kernel⟩
def srcB (P : Pan) (left : List Nat) (c : Nat) : Bool := !(left.map fun o => decide (c ∈ rel P o)).any id
theorem srcB_iff {P : Pan} {left : List Nat} {c : Nat} : srcB P left c = true ↔ ∀ a, a ∈ left → c ∉ rel P a := by
  unfold srcB
  rw [Bool.not_eq_true', Bool.eq_false_iff, ne_eq, List.any_eq_true]
  constructor
  · intro h a ha z
    exact h ⟨_, List.mem_map.mpr ⟨a, ha, rfl⟩, decide_eq_true z⟩
  · rintro h ⟨x, hx, ht⟩
    obtain ⟨a, ha, rfl⟩ := List.mem_map.mp hx
    exact h a ha (of_decide_eq_true ht)
theorem filter_succ {p : Nat → Bool} {l : List Nat} {i c : Nat} (h : l[i]? = some c) : lV ((l.take (i + 1)).filter p) = lV ((l.take i).filter p) ++ (if p c = true then [nV c] else []) := by
  rw [List.take_add_one, h, List.filter_append]
  show List.map nV _ = _
  rw [List.map_append]
  congr 1
  show List.map nV (List.filter p [c]) = _
  rw [List.filter_cons, List.filter_nil]
  by_cases e : p c = true
  · rw [if_pos e, if_pos e]; rfl
  · rw [if_neg e, if_neg e]; rfl
theorem filter_len (p : Nat → Bool) (l : List Nat) (i : Nat) : (lV ((l.take i).filter p)).length ≤ l.length := by
  rw [lV_len]
  exact Nat.le_trans (List.length_filter_le _ _) (by rw [List.length_take]; omega)
theorem first_ix {c : Nat} : ∀ {l : List Nat}, c ∈ l → ∃ j : Nat, l[j]? = some c ∧ ∀ m : Nat, m < j → l[m]? ≠ some c
  | [], h => by cases h
  | x :: r, h => by
    by_cases e : x = c
    · exact ⟨0, by rw [e]; rfl, fun m hm => absurd hm (Nat.not_lt_zero _)⟩
    · obtain ⟨j, h1, h2⟩ := first_ix (l := r) ((List.mem_cons.mp h).resolve_left fun z => e z.symm)
      refine ⟨j + 1, h1, fun m hm => ?_⟩
      cases m with
      | zero => intro z; exact e (Option.some.inj z)
      | succ m => exact h2 m (by omega)
theorem lV_int (l : List Nat) : lV l = (l.map fun n : Nat => (n : Int)).map V.int := by rw [List.map_map]; rfl
theorem map_erase {α β : Type} (f : α → β) : ∀ (l : List α) (j : Nat), (l.map f).eraseIdx j = (l.eraseIdx j).map f
  | [], j => by simp
  | a :: r, 0 => by simp
  | a :: r, j + 1 => by
    have ih := map_erase f r j
    simp [ih]
theorem lV_erase (l : List Nat) (j : Nat) : ((l.map fun n : Nat => (n : Int)).eraseIdx j).map V.int = lV (l.eraseIdx j) := by
  rw [lV_int, map_erase]
def spOR : Sp := fun vs H Q _ => ∃ (a e : Addr) (P : Pan) (S : List Nat), vs = [.ref a, .ref e] ∧ PT' H P a ∧ PanOk P ∧ LN H S e ∧ (∀ b, b ∈ S → b < P.length) ∧ S.length ≤ 100 ∧
  (∀ H', Same H H' → ¬ Acy P (· ∈ S) → Q .non H') ∧ ∀ H' r o, Same H H' → LN H' o r → o.length ≤ 100 → Acy P (· ∈ S) → (∀ b, b ∈ o ↔ b ∈ S) → Q (.ref r) H'
section
variable {P_ : Program} {w_ : World} {K : PySem.W.Frag} {mg : Str → Option Value} {base : Heap}
theorem ok_or {f : Addr} {fd : FuncData} (F : Fun K "ordered" "ordered" sOR f fd) (T : Txt mg) : FnOk P_ w_ K mg base CX0 1 f fd ["panel", "buttons"] spOR := by
  refine F.ok scOR (fun vs H Q E h => ?_) (fun cdv A outer s H vs Q E hr h => ?_)
  · obtain ⟨a, e, P, S, rfl, _⟩ := h
    rfl
  · obtain ⟨a, e, P, S, rfl, hP, ok, hS, hlt, hn, kN, kO⟩ := h
    refine ⟨_, pss_cons (ps_asg (pe_tup (pa_cons (pe_callTy call_list_of (by rfl) T.list PyProof.Rows.boot_list (pa_cons (pv 1) pa_nil)) (pa_cons (pe_lst pa_nil) pa_nil)))
        (pg_tup rfl (pgs_cons (pg_name (i := 2) scOR.nd rfl (Or.inr rfl)) (pgs_cons (pg_name (i := 3) scOR.nd rfl (Or.inl rfl)) pgs_nil))))
      (pss_cons (ps_while PassesOwn.never (pt_cmpR (op_neD hr.units) (pv 2) (pe_lst pa_nil) (nomark _))
        (pss_cons (ps_setLc (i := 4) (own := [("button", 5)]) (g := gName 5) (tt := tNot (tB (tCB (rAny K) (tCons (tLc (iList K (tVar 2)) (gName 6) tYes (tOp (rIn K false) (tVar 5) (tOp (rIxT K) (tVar 0) (tVar 6))) [6]) tNil)))) rfl scOR.nd rfl rfl (sw_true rfl rfl rfl (by decide +kernel)) (pi_list (pv 2))
            (blkOk_by (N := ["panel", "buttons", "left", "order", "first", "button", "other"]) (sc := defScope sOR) (by decide +kernel))
            (fun _ _ _ _ _ => pg_name (i := 5) scOR.nd rfl (Or.inr rfl))
            (fun _ _ _ _ _ => pts_one (pt_not (pt_val (pe_callB (cr_any rfl) (by rfl) T.any PyProof.Rows.boot_any (pa_cons
              (pe_lc (own := [("other", 6)]) (g := gName 6) (tt := tYes) (te := tOp (rIn K false) (tVar 5) (tOp (rIxT K) (tVar 0) (tVar 6))) rfl scOR.nd (pi_list (pv 2)) (blkOk_by (by kernel_rfl))
                (fun _ _ _ _ _ => pg_name (i := 6) scOR.nd rfl (Or.inl rfl)) (fun _ _ _ _ _ => pts_nil)
                (fun _ _ _ _ _ => pe_cmpR op_in_seq (pv 5) (pe_ix ix_tup (pv 0) (pv 6) (fun _ _ => rfl)) (by rfl))) pa_nil)))))
            (fun _ _ _ _ _ => pv 5))
        (pss_cons (ps_if (pt_cmpR (op_eqD hr.units) (pv 4) (pe_lst pa_nil) (nomark _)) (pss_one (ps_ret pe_non)) pss_nil)
        (pss_cons (ps_expr (pe_bm PySem.F.plainAttrs_list PySem.F.slot_list_append PySem.F.type_list_append mt_append (pv 3) (pa_cons (pe_ix ix_list (pv 4) pe_int (fun _ _ => rfl)) pa_nil)))
        (pss_one (ps_expr (pe_bm PySem.F.plainAttrs_list PySem.F.slot_list_remove PySem.F.type_list_remove mt_remove (pv 2) (pa_cons (pe_ix ix_list (pv 4) pe_int (fun _ _ => rfl)) pa_nil))))))))
      (pss_one (ps_ret (pv 3)))), ?_⟩
    refine ⟨_, rfl, e, _, rfl, .inl (SqL.of hS), fun L hL => ⟨Nat.zero_le _, fun O hO0 => ⟨by show 2 ≤ sizeLine; decide, fun tp htp => ?_⟩⟩⟩
    obtain ⟨hOL, hO⟩ := none_upd hO0
    obtain ⟨htO, ht1⟩ := none_upd htp
    obtain ⟨htL, ht⟩ := none_upd ht1
    refine ⟨tp, _, rfl, SqT.of upd_same, rfl, _, _, rfl, _, _, rfl, rfl, ?_⟩
    refine ⟨fun m σ H' => ∃ (left order : List Nat) (v4 : Option V), σ = [some (.ref a), some (.ref e), some (.ref L), some (.ref O), v4, none, none] ∧ Same H H' ∧ LN H' left L ∧ LN H' order O ∧ OI P S left order ∧ order.length + left.length = S.length ∧ m = left.length,
      ⟨S.length, S, [], none, rfl, same_put (same_put (same_upd hL) hO) ht, ?_, ?_, .start, by simp, rfl⟩, ?_⟩
    · show upd (upd (upd H L _) O _) tp _ L = _
      rw [upd_ne htL.symm, upd_ne hOL.symm, upd_same]
    · show upd (upd (upd H L _) O _) tp _ O = _
      rw [upd_ne htO.symm, upd_same]; rfl
    rintro m σ H1 ⟨left, order, v4, rfl, sm, hl, ho, oi, hc, rfl⟩
    have hleft : ∀ b, b ∈ left → b < P.length := fun b hb => hlt b ((oi.mem b).mpr (.inr hb))
    refine ⟨_, rfl, Nat.zero_le _, fun p np => ?_⟩
    have s1 : Same H1 (upd H1 p (.lst [])) := same_upd np
    have hp2 : upd H1 p (.lst []) p = some (.lst []) := upd_same
    generalize upd H1 p (.lst []) = H2 at s1 hp2
    have hl2 : LN H2 left L := s1 _ _ hl
    have ho2 : LN H2 order O := s1 _ _ ho
    have sm2 : Same H H2 := sm.trans s1
    refine ne_nilN hl2 hp2 ⟨_, rfl, ite2 (fun q => ?_) (fun q => ?_)⟩
    · have q : left ≠ [] := by simpa using q
      refine ⟨fun σ' H' => ∃ (left' order' : List Nat) (v4 : Option V), σ' = [some (.ref a), some (.ref e), some (.ref L), some (.ref O), v4, none, none] ∧ Same H H' ∧ LN H' left' L ∧ LN H' order' O ∧ OI P S left' order' ∧ order'.length + left'.length = S.length ∧ left'.length < left.length,
        fun σ' H' ⟨l', o', v, h1, h2, h3, h4, h5, h6, h7⟩ => ⟨_, h7, l', o', v, h1, h2, h3, h4, h5, h6, rfl⟩, ?_⟩
      refine ⟨_, rfl, L, rfl, ⟨_, SqL.of hl2⟩, fun D hD => lc_it (walk_list (xs := lV left)) (fun i => At H2 D (lV ((left.take i).filter (srcB P left)))) (At.start hD) (fun i H' _ z => SqL.of (z.same _ _ hl2)) ?_ ?_⟩
      · rintro i y H3 H4 hi z ⟨rfl, hy⟩
        obtain ⟨c, hcc, rfl⟩ := lV_of hy
        refine ⟨rfl, _, rfl, L, rfl, ⟨_, SqL.of (z.same _ _ hl2)⟩, fun D3 hD3 => lc_it (walk_list (xs := lV left)) (fun j => At H4 D3 (((left.map fun o => decide (c ∈ rel P o)).take j).map V.bl)) (At.start hD3) (fun j H' _ z' => SqL.of (z'.same _ _ (z.same _ _ hl2))) ?_ ?_⟩
        · rintro j y H5 H6 hj z5 ⟨rfl, hy⟩
          obtain ⟨o, hoo, rfl⟩ := lV_of hy
          obtain ⟨as, b, h1, h2, h3⟩ := (hP.same (sm2.trans (z.same.trans z5.same))).at (hleft o (List.mem_of_getElem? hoo))
          refine ⟨rfl, yes_lc ⟨_, rfl, _, rfl, _, rfl, a, _, _, _, rfl, rfl, SqT.of h1, h2, b, _, rfl, .inr (SqT.of h3), rfl, lV_flat _, ?_⟩⟩
          show ∃ acc, _
          rw [if_neg Bool.false_ne_true, inV_nat]
          refine At.put hD3 z5 (Same.refl _) (small ?_) ?_
          · rw [List.length_map, List.length_take, List.length_map]; omega
          · rw [List.take_add_one, List.getElem?_map, hoo, List.map_append]; rfl
        · intro H5 z5
          refine ⟨D3, _, rfl, SqL.of z5.lst, _, rfl, ?_⟩
          have ef : (!((left.map fun o => decide (c ∈ rel P o)).take (lV left).length).any id) = srcB P left c := by
            unfold srcB
            rw [lV_len, List.take_of_length_le (by rw [List.length_map]; exact Nat.le_refl _)]
          dsimp only
          rw [ef]
          have hk := filter_succ (p := srcB P left) hcc
          have hz := filter_len (srcB P left) left i
          refine ite2 (fun q => ?_) (fun q => ?_)
          · rw [if_pos q] at hk
            exact ⟨_, rfl, At.put hD z z5.same (small (by omega)) hk⟩
          · rw [if_neg q, List.append_nil] at hk
            rw [hk]
            exact z.next z5.same
      · intro H3 z
        have zl : LN H3 (left.filter (srcB P left)) D := by
          have := z.lst
          rw [lV_len, List.take_length] at this
          exact this
        have hl3 : LN H3 left L := z.same _ _ hl2
        have ho3 : LN H3 order O := z.same _ _ ho2
        have sm3 : Same H H3 := sm2.trans z.same
        have hDL : D ≠ L := fun w => by rw [w, hl2] at hD; cases hD
        have hDO : D ≠ O := fun w => by rw [w, ho2] at hD; cases hD
        refine ⟨_, rfl, Nat.zero_le _, fun p2 np2 => ?_⟩
        have s4 : Same H3 (upd H3 p2 (.lst [])) := same_upd np2
        have hp4 : upd H3 p2 (.lst []) p2 = some (.lst []) := upd_same
        generalize upd H3 p2 (.lst []) = H4 at s4 hp4
        have hl4 : LN H4 left L := s4 _ _ hl3
        have ho4 : LN H4 order O := s4 _ _ ho3
        have zl4 : LN H4 (left.filter (srcB P left)) D := s4 _ _ zl
        have sm4 : Same H H4 := sm3.trans s4
        refine eq_nilN zl4 hp4 ⟨_, rfl, ite2 (fun q2 => ?_) (fun q2 => ?_)⟩
        · have q2 := of_decide_eq_true q2
          refine kN H4 sm4 (oi.stuck q fun b hb => ?_)
          have : ¬ srcB P left b = true := fun w => by
            have : b ∈ left.filter (srcB P left) := List.mem_filter.mpr ⟨hb, w⟩
            rw [q2] at this; cases this
          rw [srcB_iff] at this
          exact Classical.byContradiction fun w => this fun a ha r => w ⟨a, ha, r⟩
        · have q2 : left.filter (srcB P left) ≠ [] := fun w => q2 (decide_eq_true w)
          obtain ⟨c, rest, ec⟩ : ∃ c rest, left.filter (srcB P left) = c :: rest := by
            cases e : left.filter (srcB P left) with
            | nil => exact absurd e q2
            | cons c r => exact ⟨c, r, rfl⟩
          have hcm : c ∈ left.filter (srcB P left) := by rw [ec]; exact List.mem_cons_self
          obtain ⟨hcl, hcs⟩ := List.mem_filter.mp hcm
          rw [srcB_iff] at hcs
          obtain ⟨j, hj, hno⟩ := first_ix hcl
          have at0 : atI (lV (left.filter (srcB P left))) 0 = some (nV c) := by
            rw [ec]; exact atI_nat (j := 0) rfl
          have hLO : L ≠ O := fun w => hOL w.symm
          refine ⟨_, rfl, .inl ⟨rfl, _, SqL.of ho4⟩, _, rfl, D, _, 0, nV c, rfl, rfl, SqL.of zl4, at0, O, _, _, rfl, rfl, ho4, small ?_, ?_⟩
          · rw [lV_len]; omega
          have s5 : Same H (upd H4 O (.lst (lV order ++ [nV c]))) := same_put sm4 hO
          have ho5 : LN (upd H4 O (.lst (lV order ++ [nV c]))) (order ++ [c]) O := by
            show upd _ _ _ O = _
            rw [upd_same]; show _ = some (HO.lst (List.map nV (order ++ [c]))); rw [List.map_append]; rfl
          have hl5 : LN (upd H4 O (.lst (lV order ++ [nV c]))) left L := by
            show upd _ _ _ L = _
            rw [upd_ne hLO]; exact hl4
          have zl5 : LN (upd H4 O (.lst (lV order ++ [nV c]))) (left.filter (srcB P left)) D := by
            show upd _ _ _ D = _
            rw [upd_ne hDO]; exact zl4
          generalize upd H4 O (.lst (lV order ++ [nV c])) = H5 at s5 ho5 hl5 zl5
          refine ⟨_, rfl, .inl ⟨rfl, _, SqL.of hl5⟩, _, rfl, D, _, 0, nV c, rfl, rfl, SqL.of zl5, at0, L, left.map fun n : Nat => (n : Int), (c : Int), j, rfl, rfl, (by rw [← lV_int]; exact hl5), ?_, ?_, ?_⟩
          · rw [List.getElem?_map, hj]; rfl
          · intro m hm z
            rw [List.getElem?_map] at z
            cases e1 : left[m]? with
            | none => rw [e1] at z; cases z
            | some b =>
              rw [e1] at z
              have z : (b : Int) = (c : Int) := Option.some.inj z
              have : b = c := by omega
              exact hno m hm (by rw [e1, this])
          · rw [lV_erase]
            have hjl := (List.getElem?_eq_some_iff.mp hj).1
            refine ⟨left.eraseIdx j, order ++ [c], _, rfl, same_put s5 hL, upd_same, ?_, oi.step hj hcs, ?_, ?_⟩
            · show upd _ _ _ O = _
              rw [upd_ne hOL]; exact ho5
            · rw [List.length_append, List.length_eraseIdx_of_lt hjl, List.length_singleton]; omega
            · rw [List.length_eraseIdx_of_lt hjl]; omega
    · have q : left = [] := by simpa using q
      subst q
      obtain ⟨h1, h2⟩ := oi.done ok
      have ho' : order.length = S.length := by simpa using hc
      exact ⟨_, rfl, kO H2 O order sm2 ho2 (by omega) h1 h2⟩
end
end K19

/-! part W5 -/
/-! Walks 5: gather. -/
namespace K19
open PySem PySem.Spec PyProof.Rows L2
theorem scGA : FnScope ["panel", "effect", "free", "pressed", "gathered", "helpers", "waiting", "button", "new", "one"] ["panel", "effect", "free", "pressed"] (defScope sGA) := ⟨rfl, rfl, rfl, by decide +kernel, rfl, by decide +kernel, by decide +kernel⟩
def spGA (K : PySem.W.Frag) : Sp := fun vs H Q _ => ∃ (a e f p : Addr) (P : Pan) (w : List W) (fl S : List Nat), vs = [.ref a, .ref e, .ref f, .ref p] ∧ PT' H P a ∧ PanOk P ∧ WS K H w e ∧ w.length = P.length ∧ P.length ≤ 100 ∧ LN H fl f ∧
  (∀ b, isOff w b → (b ∈ fl ↔ Free P w b)) ∧ LN H S p ∧ (∀ b, b ∈ S ↔ isOn w b) ∧ S.length ≤ 100 ∧
  ∀ (H' : Hp) (r G A : Addr) (g hs : List Nat), Same H H' → H' r = some (.tup [.ref G, .ref A]) → LN H' g G → LN H' hs A → hs.length ≤ 100 → g.Nodup → (∀ b, b ∈ g ↔ Gat P w b) → Q (.ref r) H'
def newB (w : List W) (g : List Nat) (b : Nat) : Bool := decide (wd w b = .off) && !decide (b ∈ g)
theorem newB_iff {w : List W} {g : List Nat} {b : Nat} : newB w g b = true ↔ isOff w b ∧ b ∉ g := by
  unfold newB isOff
  rw [Bool.and_eq_true, decide_eq_true_iff, Bool.not_eq_true', decide_eq_false_iff_not]
theorem atI_word {w : List W} {b : Nat} (h : b < w.length) : atI (strV w) (b : Int) = some (wV (wd w b)) :=
  atI_nat (by rw [strV_get, get_wd h]; rfl)
section
variable {P_ : Program} {w_ : World} {K : PySem.W.Frag} {mg : Str → Option Value} {base : Heap}
/-- [one for one in new if one in free] -/
theorem lc_in {v0 v1 v3 v4 v5 v6 v7 v9 : Option V} {f N : Addr} {nw fl : List Nat} {H : Hp} {Q : VK} (hN : LN H nw N) (hF : LN H fl f) (hz : nw.length ≤ 1000)
    (k : ∀ H' D, H D = none → Same H H' → LN H' (nw.filter fun b => decide (b ∈ fl)) D → Q (.ref D) H') :
    tLc (iList K (tVar 8)) (gName 9) (tTest (tOp (rIn K false) (tVar 9) (tVar 2))) (tVar 9) [9] [v0, v1, some (.ref f), v3, v4, v5, v6, v7, some (.ref N), v9] H Q := by
  refine ⟨_, rfl, N, rfl, ⟨_, SqL.of hN⟩, fun D hD => lc_it (walk_list (xs := lV nw)) (fun i => At H D (lV ((nw.take i).filter fun b => decide (b ∈ fl)))) (At.start hD) (fun i H' _ z => SqL.of (z.same _ _ hN)) ?_ ?_⟩
  · rintro i y H1 H2 hi z ⟨rfl, hy⟩
    obtain ⟨b, hb, rfl⟩ := lV_of hy
    refine ⟨rfl, _, rfl, _, rfl, f, _, rfl, .inl (SqL.of (z.same _ _ hF)), rfl, lV_flat _, _, rfl, ?_⟩
    have e : (if false = true then !inV (nV b) (lV fl) else inV (nV b) (lV fl)) = decide (b ∈ fl) := by rw [if_neg Bool.false_ne_true, inV_nat]
    rw [e]
    have hk := filter_succ (p := fun b => decide (b ∈ fl)) hb
    have hz := filter_len (fun b => decide (b ∈ fl)) nw i
    refine ite2 (fun q => ?_) (fun q => ?_)
    · rw [if_pos q] at hk
      exact ⟨_, rfl, At.put hD z (Same.refl _) (small (by omega)) hk⟩
    · rw [if_neg q, List.append_nil] at hk
      rw [hk]
      exact z
  · intro H1 z
    refine k H1 D hD z.same ?_
    have := z.lst
    rw [lV_len, List.take_length] at this
    exact this
theorem ok_ga {f : Addr} {fd : FuncData} (F : Fun K "gather" "gather" sGA f fd) (T : Txt mg) : FnOk P_ w_ K mg base CX0 1 f fd ["panel", "effect", "free", "pressed"] (spGA K) := by
  refine F.ok scGA (fun vs H Q E h => ?_) (fun cdv A outer s H vs Q E hr h => ?_)
  · obtain ⟨a, e, f, p, P, w, fl, S, rfl, _⟩ := h
    rfl
  · obtain ⟨a, e, f, p, P, w, fl, S, rfl, hP, ok, hE, hl, hn, hF, hfl, hS, hSon, hSl, k⟩ := h
    refine ⟨_, pss_cons (ps_asg (pe_tup (pa_cons (pe_lst pa_nil) (pa_cons (pe_lst pa_nil) pa_nil)))
        (pg_tup rfl (pgs_cons (pg_name (i := 4) scGA.nd rfl (Or.inr rfl)) (pgs_cons (pg_name (i := 5) scGA.nd rfl (Or.inl rfl)) pgs_nil))))
      (pss_cons (ps_set (i := 6) scGA.nd rfl (.inl rfl) (pe_callTy call_list_of (by rfl) T.list PyProof.Rows.boot_list (pa_cons (pv 3) pa_nil)))
      (pss_cons (ps_while PassesOwn.never (pt_cmpR (op_neD hr.units) (pv 6) (pe_lst pa_nil) (nomark _))
        (pss_cons (ps_set (i := 7) scGA.nd rfl (.inl rfl) (pe_bm PySem.F.plainAttrs_list PySem.F.slot_list_pop PySem.F.type_list_pop mt_popAt (pv 6) (pa_cons pe_int pa_nil)))
        (pss_cons (ps_setLc (i := 8) (own := [("one", 9)]) (g := gName 9) (tt := tAnd (tTest (tOp rEq (tOp (rIxT K) (tVar 1) (tVar 9)) (tC (wV .off)))) (tTest (tOp (rIn K true) (tVar 9) (tVar 4)))) rfl scGA.nd rfl rfl (sw_true rfl rfl rfl (by decide +kernel)) (pi_tup (pe_ix ix_tup (pv 0) (pv 7) (fun _ _ => rfl)))
            (blkOk_by (N := ["panel", "effect", "free", "pressed", "gathered", "helpers", "waiting", "button", "new", "one"]) (sc := defScope sGA) (by decide +kernel))
            (fun _ _ _ _ _ => pg_name (i := 9) scGA.nd rfl (Or.inl rfl))
            (fun _ _ _ _ _ => pts_one (PW.pt (pw_and (pt_cmpR op_eq (pe_ix ix_tup (pv 1) (pv 9) (fun _ _ => rfl)) (pe_off T) (nomark _)) (pw_and1 (pt_cmpR op_notIn_seq (pv 9) (pv 4) (by rfl))))))
            (fun _ _ _ _ _ => pv 9))
        (pss_cons (ps_expr (pe_bm PySem.F.plainAttrs_list PySem.F.slot_list_extend PySem.F.type_list_extend mt_extend (pv 4) (pa_cons (pv 8) pa_nil)))
        (pss_cons (ps_expr (pe_bm PySem.F.plainAttrs_list PySem.F.slot_list_extend PySem.F.type_list_extend mt_extend (pv 6) (pa_cons
            (pe_lc (own := [("one", 9)]) (g := gName 9) (tt := tTest (tOp (rIn K false) (tVar 9) (tVar 2))) rfl scGA.nd (pi_list (pv 8))
              (blkOk_by (N := ["panel", "effect", "free", "pressed", "gathered", "helpers", "waiting", "button", "new", "one"]) (sc := defScope sGA) (by decide +kernel))
              (fun _ _ _ _ _ => pg_name (i := 9) scGA.nd rfl (Or.inl rfl))
              (fun _ _ _ _ _ => pts_one (pt_cmpR op_in_seq (pv 9) (pv 2) (by rfl))) (fun _ _ _ _ _ => pv 9)) pa_nil)))
        (pss_one (ps_expr (pe_bm PySem.F.plainAttrs_list PySem.F.slot_list_extend PySem.F.type_list_extend mt_extend (pv 5) (pa_cons
            (pe_lc (own := [("one", 9)]) (g := gName 9) (tt := tTest (tOp (rIn K false) (tVar 9) (tVar 2))) rfl scGA.nd (pi_list (pv 8))
              (blkOk_by (N := ["panel", "effect", "free", "pressed", "gathered", "helpers", "waiting", "button", "new", "one"]) (sc := defScope sGA) (by decide +kernel))
              (fun _ _ _ _ _ => pg_name (i := 9) scGA.nd rfl (Or.inl rfl))
              (fun _ _ _ _ _ => pts_one (pt_cmpR op_in_seq (pv 9) (pv 2) (by rfl))) (fun _ _ _ _ _ => pv 9)) pa_nil)))))))))
      (pss_one (ps_ret (pe_tup (pa_cons (pv 4) (pa_cons (pv 5) pa_nil))))))), ?_⟩
    -- [], []
    refine ⟨Nat.zero_le _, fun G hG => ⟨Nat.zero_le _, fun Hh hH0 => ⟨by show 2 ≤ sizeLine; decide, fun tp htp => ?_⟩⟩⟩
    obtain ⟨hHG, hH⟩ := none_upd hH0
    obtain ⟨htH, ht1⟩ := none_upd htp
    obtain ⟨htG, ht⟩ := none_upd ht1
    refine ⟨tp, _, rfl, SqT.of upd_same, rfl, _, _, rfl, _, _, rfl, rfl, ?_⟩
    have s0 : Same H (upd (upd (upd H G (.lst [])) Hh (.lst [])) tp (.tup [.ref G, .ref Hh])) := same_put (same_put (same_upd hG) hH) ht
    have g0 : LN (upd (upd (upd H G (.lst [])) Hh (.lst [])) tp (.tup [.ref G, .ref Hh])) [] G := by
      show upd _ _ _ G = _
      rw [upd_ne htG.symm, upd_ne hHG.symm, upd_same]; rfl
    have h0 : LN (upd (upd (upd H G (.lst [])) Hh (.lst [])) tp (.tup [.ref G, .ref Hh])) [] Hh := by
      show upd _ _ _ Hh = _
      rw [upd_ne htH.symm, upd_same]; rfl
    generalize upd (upd (upd H G (.lst [])) Hh (.lst [])) tp (.tup [.ref G, .ref Hh]) = H0 at s0 g0 h0
    -- waiting
    refine ⟨_, rfl, p, _, rfl, .inl (SqL.of (s0 _ _ hS)), fun Wt hW0 => ?_⟩
    have hW : H Wt = none := same_none s0 hW0
    have hWG : Wt ≠ G := fun z => by rw [z, g0] at hW0; cases hW0
    have hWH : Wt ≠ Hh := fun z => by rw [z, h0] at hW0; cases hW0
    refine ⟨fun m σ H' => ∃ (g hs wt : List Nat) (v7 v8 : Option V), σ = [some (.ref a), some (.ref e), some (.ref f), some (.ref p), some (.ref G), some (.ref Hh), some (.ref Wt), v7, v8, none] ∧ Same H H' ∧ LN H' g G ∧ LN H' hs Hh ∧ LN H' wt Wt ∧ GI P w g wt ∧ hs.length ≤ g.length ∧ wt.length ≤ 100 + g.length ∧ m = wt.length + 2 * (w.length - g.length),
      ⟨_, [], [], S, none, none, rfl, s0.trans (same_upd hW0), ?_, ?_, upd_same, .start hSon, Nat.le_refl _, hSl, rfl⟩, ?_⟩
    · show upd _ _ _ G = _
      rw [upd_ne hWG.symm]; exact g0
    · show upd _ _ _ Hh = _
      rw [upd_ne hWH.symm]; exact h0
    rintro m σ H1 ⟨g, hs, wt, v7, v8, rfl, sm, hg, hh, hw, gi, hhl, hwl, rfl⟩
    refine ⟨_, rfl, Nat.zero_le _, fun q0 nq => ?_⟩
    have s1 : Same H1 (upd H1 q0 (.lst [])) := same_upd nq
    have hp2 : upd H1 q0 (.lst []) q0 = some (.lst []) := upd_same
    generalize upd H1 q0 (.lst []) = H2 at s1 hp2
    have hg2 : LN H2 g G := s1 _ _ hg
    have hh2 : LN H2 hs Hh := s1 _ _ hh
    have hw2 : LN H2 wt Wt := s1 _ _ hw
    have sm2 : Same H H2 := sm.trans s1
    refine ne_nilN hw2 hp2 ⟨_, rfl, ite2 (fun q => ?_) (fun q => ?_)⟩
    · have q : wt ≠ [] := by simpa using q
      obtain ⟨c, rest, rfl⟩ : ∃ c rest, wt = c :: rest := by
        cases wt with
        | nil => exact absurd rfl q
        | cons c r => exact ⟨c, r, rfl⟩
      have hcl : c < P.length := by
        rcases gi.wt c List.mem_cons_self with z | ⟨z, _⟩
        · rw [← hl]; exact wd_lt (by unfold isOn at z; rw [z]; intro z; cases z)
        · rw [← hl]; exact wd_lt (by have z := z.off; unfold isOff at z; rw [z]; intro z; cases z)
      refine ⟨fun σ' H' => ∃ (g' hs' wt' : List Nat) (v7 v8 : Option V), σ' = [some (.ref a), some (.ref e), some (.ref f), some (.ref p), some (.ref G), some (.ref Hh), some (.ref Wt), v7, v8, none] ∧ Same H H' ∧ LN H' g' G ∧ LN H' hs' Hh ∧ LN H' wt' Wt ∧ GI P w g' wt' ∧ hs'.length ≤ g'.length ∧ wt'.length ≤ 100 + g'.length ∧ wt'.length + 2 * (w.length - g'.length) < (c :: rest).length + 2 * (w.length - g.length),
        fun σ' H' ⟨g', hs', wt', x7, x8, h1, h2, h3, h4, h5, h6, h7, h8, h9⟩ => ⟨_, h9, g', hs', wt', x7, x8, h1, h2, h3, h4, h5, h6, h7, h8, rfl⟩, ?_⟩
      -- button = waiting.pop(0)
      refine ⟨_, rfl, .inl ⟨rfl, _, SqL.of hw2⟩, Wt, _, 0, 0, nV c, rfl, rfl, hw2, by decide, by decide, ?_, rfl, ?_⟩
      · show seqIndex? 0 (lV (c :: rest)).length = some 0
        rw [lV_len, List.length_cons]
        unfold seqIndex?
        simp
      show tSeq _ _ _ _ (upd H2 Wt (.lst (lV rest)))
      have s3 : Same H (upd H2 Wt (.lst (lV rest))) := same_put sm2 hW
      have hg3 : LN (upd H2 Wt (.lst (lV rest))) g G := by
        show upd _ _ _ G = _
        rw [upd_ne hWG.symm]; exact hg2
      have hh3 : LN (upd H2 Wt (.lst (lV rest))) hs Hh := by
        show upd _ _ _ Hh = _
        rw [upd_ne hWH.symm]; exact hh2
      have hw3 : LN (upd H2 Wt (.lst (lV rest))) rest Wt := upd_same
      generalize upd H2 Wt (.lst (lV rest)) = H3 at s3 hg3 hh3 hw3
      -- new
      obtain ⟨as, b, h1, h2, h3⟩ := (hP.same s3).at hcl
      have hrl : (rel P c).length ≤ P.length := by
        have := (PanOk.nd ok c).length_le_of_subset (l₂ := List.range P.length) fun x hx => List.mem_range.mpr (ok.lt c x hx)
        simpa using this
      refine ⟨_, rfl, _, rfl, a, _, _, _, rfl, rfl, SqT.of h1, h2, b, rfl, ⟨_, SqT.of h3⟩, fun D hD => lc_it (walk_tup (xs := lV (rel P c))) (fun i => At H3 D (lV (((rel P c).take i).filter (newB w g)))) (At.start hD) (fun i H' _ z => SqT.of (z.same _ _ h3)) ?_ ?_⟩
      · rintro i y H4 H5 hi z ⟨rfl, hy⟩
        obtain ⟨o, ho, rfl⟩ := lV_of hy
        have hol : o < P.length := ok.lt c o (List.mem_of_getElem? ho)
        refine ⟨rfl, _, rfl, _, rfl, e, _, _, _, rfl, rfl, tsame (s3.trans z.same) hE, atI_word (by omega), rfl, _, rfl, ?_⟩
        have hk := filter_succ (p := newB w g) ho
        have hz := filter_len (newB w g) (rel P c) i
        rw [wV_dec]
        refine ite2 (fun q1 => ?_) (fun q1 => ?_)
        · refine ⟨_, rfl, _, rfl, G, _, rfl, .inl (SqL.of (z.same _ _ hg3)), rfl, lV_flat _, _, rfl, ?_⟩
          have e2 : (if true = true then !inV (nV o) (lV g) else inV (nV o) (lV g)) = newB w g o := by
            rw [if_pos rfl, inV_nat]; unfold newB; rw [q1]; rfl
          rw [e2]
          refine ite2 (fun q => ?_) (fun q => ?_)
          · rw [if_pos q] at hk
            exact ⟨_, rfl, At.put hD z (Same.refl _) (small (by omega)) hk⟩
          · rw [if_neg q, List.append_nil] at hk
            rw [hk]
            exact z
        · have q : ¬ newB w g o = true := by
            unfold newB
            rw [Bool.eq_false_iff.mpr q1]; simp
          rw [if_neg q, List.append_nil] at hk
          show if false = true then _ else _
          rw [if_neg Bool.false_ne_true, hk]
          exact z
      · intro H4 z
        have zn : LN H4 ((rel P c).filter (newB w g)) D := by
          have := z.lst
          rw [lV_len, List.take_length] at this
          exact this
        have s4 : Same H H4 := s3.trans z.same
        have hg4 : LN H4 g G := z.same _ _ hg3
        have hh4 : LN H4 hs Hh := z.same _ _ hh3
        have hw4 : LN H4 rest Wt := z.same _ _ hw3
        have hDG : D ≠ G := fun w => by rw [w, hg3] at hD; cases hD
        have hDH : D ≠ Hh := fun w => by rw [w, hh3] at hD; cases hD
        have hDW : D ≠ Wt := fun w => by rw [w, hw3] at hD; cases hD
        -- the mathematics
        have hnew : ∀ b, b ∈ (rel P c).filter (newB w g) ↔ b ∈ rel P c ∧ isOff w b ∧ b ∉ g := fun b => by
          rw [List.mem_filter, newB_iff]
        have nnew : ((rel P c).filter (newB w g)).Nodup := (ok.nd c).filter _
        have hfr : ∀ b, b ∈ ((rel P c).filter (newB w g)).filter (fun b => decide (b ∈ fl)) ↔ b ∈ (rel P c).filter (newB w g) ∧ Free P w b := fun b => by
          rw [List.mem_filter, decide_eq_true_iff]
          exact ⟨fun ⟨x, y⟩ => ⟨x, (hfl b ((hnew b).mp x).2.1).mp y⟩, fun ⟨x, y⟩ => ⟨x, (hfl b ((hnew b).mp x).2.1).mpr y⟩⟩
        have gi' := gi.step hnew nnew hfr
        have sz := gi'.size
        have hnl : ((rel P c).filter (newB w g)).length ≤ (rel P c).length := List.length_filter_le _ _
        have hfl2 : (((rel P c).filter (newB w g)).filter (fun b => decide (b ∈ fl))).length ≤ ((rel P c).filter (newB w g)).length := List.length_filter_le _ _
        generalize (rel P c).filter (newB w g) = new at zn hnew nnew hfr gi' sz hnl hfl2
        rw [List.length_append] at sz
        -- gathered.extend(new)
        refine ⟨_, rfl, .inl ⟨rfl, _, SqL.of hg4⟩, _, rfl, G, D, _, _, rfl, rfl, hg4, zn, Nat.le_of_lt (small (by rw [lV_len, lV_len]; omega)), ?_⟩
        have s5 : Same H (upd H4 G (.lst (lV g ++ lV new))) := same_put s4 hG
        have hg5 : LN (upd H4 G (.lst (lV g ++ lV new))) (g ++ new) G := by
          show upd _ _ _ G = some (.lst (List.map nV (g ++ new)))
          rw [upd_same, List.map_append]
        have hh5 : LN (upd H4 G (.lst (lV g ++ lV new))) hs Hh := by
          show upd _ _ _ Hh = _
          rw [upd_ne hHG]; exact hh4
        have hw5 : LN (upd H4 G (.lst (lV g ++ lV new))) rest Wt := by
          show upd _ _ _ Wt = _
          rw [upd_ne hWG]; exact hw4
        have zn5 : LN (upd H4 G (.lst (lV g ++ lV new))) new D := by
          show upd _ _ _ D = _
          rw [upd_ne hDG]; exact zn
        generalize upd H4 G (.lst (lV g ++ lV new)) = H5 at s5 hg5 hh5 hw5 zn5
        -- waiting.extend(..)
        refine ⟨_, rfl, .inl ⟨rfl, _, SqL.of hw5⟩, lc_in zn5 (s5 _ _ hF) (by omega) fun H6 D2 nD2 s56 zf => ?_⟩
        have hg6 : LN H6 (g ++ new) G := s56 _ _ hg5
        have hh6 : LN H6 hs Hh := s56 _ _ hh5
        have hw6 : LN H6 rest Wt := s56 _ _ hw5
        have zn6 : LN H6 new D := s56 _ _ zn5
        have s6 : Same H H6 := s5.trans s56
        generalize new.filter (fun b => decide (b ∈ fl)) = fr at zf hfr gi' hfl2
        refine ⟨Wt, D2, _, _, rfl, rfl, hw6, zf, Nat.le_of_lt (small (by rw [lV_len, lV_len]; simp at hwl; omega)), ?_⟩
        have s7 : Same H (upd H6 Wt (.lst (lV rest ++ lV fr))) := same_put s6 hW
        have hg7 : LN (upd H6 Wt (.lst (lV rest ++ lV fr))) (g ++ new) G := by
          show upd _ _ _ G = _
          rw [upd_ne hWG.symm]; exact hg6
        have hh7 : LN (upd H6 Wt (.lst (lV rest ++ lV fr))) hs Hh := by
          show upd _ _ _ Hh = _
          rw [upd_ne hWH.symm]; exact hh6
        have hw7 : LN (upd H6 Wt (.lst (lV rest ++ lV fr))) (rest ++ fr) Wt := by
          show upd _ _ _ Wt = some (.lst (List.map nV (rest ++ fr)))
          rw [upd_same, List.map_append]
        have zn7 : LN (upd H6 Wt (.lst (lV rest ++ lV fr))) new D := by
          show upd _ _ _ D = _
          rw [upd_ne hDW]; exact zn6
        generalize upd H6 Wt (.lst (lV rest ++ lV fr)) = H7 at s7 hg7 hh7 hw7 zn7
        -- helpers.extend(..)
        refine ⟨_, rfl, .inl ⟨rfl, _, SqL.of hh7⟩, lc_in zn7 (s7 _ _ hF) (by omega) fun H8 D3 nD3 s78 zf8 => ?_⟩
        have hg8 : LN H8 (g ++ new) G := s78 _ _ hg7
        have hh8 : LN H8 hs Hh := s78 _ _ hh7
        have hw8 : LN H8 (rest ++ fr) Wt := s78 _ _ hw7
        have s8 : Same H H8 := s7.trans s78
        have hfr2 : (new.filter fun b => decide (b ∈ fl)).length ≤ new.length := List.length_filter_le _ _
        generalize new.filter (fun b => decide (b ∈ fl)) = fr2 at zf8 hfr2
        refine ⟨Hh, D3, _, _, rfl, rfl, hh8, zf8, Nat.le_of_lt (small (by rw [lV_len, lV_len]; omega)), ?_⟩
        refine ⟨g ++ new, hs ++ fr2, rest ++ fr, _, _, rfl, same_put s8 hH, ?_, ?_, ?_, gi', ?_, ?_, ?_⟩
        · show upd _ _ _ G = _
          rw [upd_ne hHG.symm]; exact hg8
        · show upd _ _ _ Hh = some (.lst (List.map nV (hs ++ fr2)))
          rw [upd_same, List.map_append]
        · show upd _ _ _ Wt = _
          rw [upd_ne hWH]; exact hw8
        · rw [List.length_append, List.length_append]; omega
        · rw [List.length_append, List.length_append]
          rw [List.length_cons] at hwl
          omega
        · rw [List.length_append, List.length_append, List.length_cons]
          omega
    · have q : wt = [] := by simpa using q
      subst q
      have sz := gi.size
      refine ⟨_, rfl, _, rfl, by show 2 ≤ sizeLine; decide, fun r hr => ?_⟩
      exact k _ r G Hh g hs (sm2.trans (same_upd hr)) upd_same ((same_upd hr) _ _ hg2) ((same_upd hr) _ _ hh2) (by omega) gi.nd fun b => ⟨gi.gg b, gi.all⟩
end
end K19

/-! part W6 -/
/-! Walks 6: row_for. -/
namespace K19
open PySem PySem.Spec PyProof.Rows L2
theorem scRF : FnScope ["panel", "value", "free", "latched", "order", "gathered", "helpers", "button", "word"] ["panel", "value"] (defScope sRF) := ⟨rfl, rfl, rfl, by decide +kernel, rfl, by decide +kernel, by decide +kernel⟩
def spRF : Sp := fun vs H Q _ => ∃ (a e : Addr) (P : Pan) (w : List W), vs = [.ref a, .ref e] ∧ PT' H P a ∧ PanOk P ∧ WF H w e ∧ w.length = P.length ∧ P.length ≤ 100 ∧
  (∀ H', Same H H' → ¬ Cond P w → Q .non H') ∧ ∀ H' r, Same H H' → Cond P w → Q (.ref r) H'
def onL (w : List W) (i : Nat) : List Nat := (List.range i).filter fun b => decide (wd w b = .on)
theorem on_succ {w : List W} {i : Nat} {x : W} (h : w[i]? = some x) : lV (onL w (i + 1)) = lV (onL w i) ++ (if x = .on then [nV i] else []) := by
  unfold onL
  rw [List.range_succ, List.filter_append]
  show List.map nV _ = _
  rw [List.map_append]
  congr 1
  rw [List.filter_cons, List.filter_nil, wd_get h]
  by_cases e : x = .on
  · rw [if_pos (decide_eq_true e), if_pos e]; rfl
  · rw [if_neg (by simpa using e), if_neg e]; rfl
theorem on_len (w : List W) (i : Nat) : (onL w i).length ≤ i := by
  unfold onL
  exact Nat.le_trans (List.length_filter_le _ _) (by simp)
theorem mem_on {w : List W} {b : Nat} : b ∈ onL w w.length ↔ isOn w b := by
  unfold onL isOn
  rw [List.mem_filter, List.mem_range, decide_eq_true_iff]
  exact ⟨fun h => h.2, fun h => ⟨wd_lt (by rw [h]; intro z; cases z), h⟩⟩
theorem str_count (x : W) : ∀ w : List W, (w.map strW).count (strW x) = w.count x
  | [] => rfl
  | y :: r => by
    rw [List.map_cons, List.count_cons, List.count_cons, str_count x r]
    congr 1
    by_cases e : y = x
    · subst e; simp
    · have : strW y ≠ strW x := fun z => e (strW_inj z)
      simp [e, this]
theorem acy_on {P : Pan} {w : List W} : Acy P (· ∈ onL w w.length) ↔ Acy P (isOn w) :=
  ⟨fun h => h.sub fun _ hb => mem_on.mpr hb, fun h => h.sub fun _ hb => mem_on.mp hb⟩
theorem latched_free {P : Pan} (ok : PanOk P) {w : List W} (hl : w.length = P.length) : ((onL w w.length).map fun b => decide (b ∈ freeL P w P.length)).all id = true ↔ ∀ a, isOn w a → Free P w a := by
  rw [List.all_eq_true]
  constructor
  · intro h a ha
    have := h _ (List.mem_map.mpr ⟨a, mem_on.mpr ha, rfl⟩)
    exact ((mem_free ok hl).mp (of_decide_eq_true this)).2.2
  · intro h x hx
    obtain ⟨b, hb, rfl⟩ := List.mem_map.mp hx
    have hb := mem_on.mp hb
    refine decide_eq_true ((mem_free ok hl).mpr ⟨?_, ?_, h b hb⟩)
    · rw [← hl]; exact wd_lt (by unfold isOn at hb; rw [hb]; intro z; cases z)
    · unfold isOn at hb; rw [hb]; intro z; cases z
section
variable {P_ : Program} {w_ : World} {K : PySem.W.Frag} {mg : Str → Option Value} {base : Heap}
theorem ok_rf {f fI fB fO fG : Addr} {fd fdI fdB fdO fdG : FuncData} (F : Fun K "row_for" "row_for" sRF f fd) (T : Txt mg)
    (FI : Fun K "is_effect_form" "is_effect_form" sIE fI fdI) (bI : Binds K fdI ["panel", "value"] []) (gI : mg "is_effect_form" = some (.ref fI))
    (FB : Fun K "free_buttons" "free_buttons" sFB fB fdB) (bB : Binds K fdB ["panel", "effect"] []) (gB : mg "free_buttons" = some (.ref fB))
    (FO : Fun K "ordered" "ordered" sOR fO fdO) (bO : Binds K fdO ["panel", "buttons"] []) (gO : mg "ordered" = some (.ref fO))
    (FG : Fun K "gather" "gather" sGA fG fdG) (bG : Binds K fdG ["panel", "effect", "free", "pressed"] []) (gG : mg "gather" = some (.ref fG)) :
    FnOk P_ w_ K mg base CX0 2 f fd ["panel", "value"] spRF := by
  have GI : FnOk P_ w_ K mg base CX0 1 fI fdI ["panel", "value"] spIE := ok_ie FI T
  have GB : FnOk P_ w_ K mg base CX0 1 fB fdB ["panel", "effect"] (spFB K) := ok_fb FB T
  have GO : FnOk P_ w_ K mg base CX0 1 fO fdO ["panel", "buttons"] spOR := ok_or FO T
  have GG : FnOk P_ w_ K mg base CX0 1 fG fdG ["panel", "effect", "free", "pressed"] (spGA K) := ok_ga FG T
  refine F.ok scRF (fun vs H Q E h => ?_) (fun cdv A outer s H vs Q E hr h => ?_)
  · obtain ⟨a, e, P, w, rfl, _⟩ := h
    rfl
  · obtain ⟨a, e, P, w, rfl, hP, ok, hE, hl, hn, kN, kR⟩ := h
    refine ⟨_, pss_cons (ps_if (pt_not (pt_val (pe_call GI hr (by rfl) gI FI.kp bI .nil pass0 (pa_cons (pv 0) (pa_cons (pv 1) pa_nil))))) (pss_one (ps_ret pe_non)) pss_nil)
      (pss_cons (ps_set (i := 2) scRF.nd rfl (.inr rfl) (pe_call GB hr (by rfl) gB FB.kp bB .nil pass0 (pa_cons (pv 0) (pa_cons (pv 1) pa_nil))))
      (pss_cons (ps_setLc (i := 3) (own := [("button", 7), ("word", 8)]) (g := gTup K 2 (gCons (gName 7) (gCons (gName 8) gNil))) rfl scRF.nd rfl rfl (sw_true rfl rfl rfl (by decide +kernel)) (pi_enumT (by rfl) T.enum (pa_cons (pv 1) pa_nil))
          (blkOk_by (N := ["panel", "value", "free", "latched", "order", "gathered", "helpers", "button", "word"]) (sc := defScope sRF) (by decide +kernel))
          (fun _ _ _ _ _ => pg_tup rfl (pgs_cons (pg_name (i := 7) scRF.nd rfl (Or.inl rfl)) (pgs_cons (pg_name (i := 8) scRF.nd rfl (Or.inl rfl)) pgs_nil)))
          (fun _ _ _ _ _ => pts_one (pt_cmpR op_eq (pv 8) (pe_on T) (nomark _)))
          (fun _ _ _ _ _ => pv 7))
      (pss_cons (ps_set (i := 4) scRF.nd rfl (.inl rfl) (pe_call GO hr (by rfl) gO FO.kp bO .nil pass0 (pa_cons (pv 0) (pa_cons (pv 3) pa_nil))))
      (pss_cons (ps_if (PW.pt (pw_or (pt_cmp (pc_isN (pv 4))) (pw_or1 (pt_not (pt_val (pe_callB (cr_all rfl) (by rfl) T.all PyProof.Rows.boot_all (pa_cons
          (pe_lc (own := [("button", 7)]) (g := gName 7) (tt := tYes) (te := tOp (rIn K false) (tVar 7) (tVar 2)) rfl scRF.nd (pi_list (pv 3))
            (blkOk_by (N := ["panel", "value", "free", "latched", "order", "gathered", "helpers", "button", "word"]) (sc := defScope sRF) (by decide +kernel))
            (fun _ _ _ _ _ => pg_name (i := 7) scRF.nd rfl (Or.inl rfl)) (fun _ _ _ _ _ => pts_nil)
            (fun _ _ _ _ _ => pe_cmpR op_in_seq (pv 7) (pv 2) (by rfl))) pa_nil))))))) (pss_one (ps_ret pe_non)) pss_nil)
      (pss_cons (ps_asg (pe_call GG hr (by rfl) gG FG.kp bG .nil pass0 (pa_cons (pv 0) (pa_cons (pv 1) (pa_cons (pv 2) (pa_cons (pv 4) pa_nil)))))
          (pg_tup rfl (pgs_cons (pg_name (i := 5) scRF.nd rfl (Or.inl rfl)) (pgs_cons (pg_name (i := 6) scRF.nd rfl (Or.inl rfl)) pgs_nil))))
      (pss_one (ps_ret (pe_ifExp (pt_cmpR op_eq (pe_callB call_len_seq (by rfl) T.len PySem.boot_len (pa_cons (pv 5) pa_nil)) (pe_bmF PySem.F.slot_tuple_count PySem.F.type_tuple_count mt_tcountS (pv 1) (pa_cons (pe_off T) pa_nil)) (nomark _))
        (pe_tup (StX.pa_star (pe_revL (pv 6)) (StX.pa_star (pv 4) pa_nil))) pe_non)))))))), ?_⟩
    have d1 : Decidable (∀ a, isOn w a → Free P w a) := Classical.propDecidable _
    have d2 : Decidable (∀ b, isOff w b → Gat P w b) := Classical.propDecidable _
    -- the form
    refine ⟨_, rfl, _, rfl, a, e, P, w, rfl, hP, hE, hl, hn, fun H1 s1 => ⟨true, rfl, ?_⟩⟩
    show if false = true then _ else _
    rw [if_neg Bool.false_ne_true]
    -- free
    refine ⟨_, rfl, _, rfl, a, e, P, w, rfl, hP.same s1, ok, tsame s1 hE.sq, hl, hn, fun H2 fr s12 hF => ?_⟩
    have s2 : Same H H2 := s1.trans s12
    have hE2 : WF H2 w e := hE.same s2
    -- latched
    refine ⟨.ref e, rfl, e, strV w, rfl, hE2.sq, fun D hD => lc_it (walk_enumT (xs := strV w)) (fun i => At H2 D (lV (onL w i))) (At.start hD) (fun i H' _ z => tsame z.same hE2.sq) ?_ ?_⟩
    · rintro i x H3 H4 hi z ⟨T, y1, y2, rfl, nT, rfl, e1, e2⟩
      have hi' : i < w.length := by rw [← strV_len]; exact hi
      have e1 : nV i = y1 := Option.some.inj e1
      obtain ⟨x, hx⟩ : ∃ x, w[i]? = some x := ⟨_, List.getElem?_eq_getElem hi'⟩
      have e2 : wV x = y2 := by
        have q : (strV w)[i]? = some y2 := e2
        rw [strV_get, hx] at q
        exact Option.some.inj q
      subst e1 e2
      have s3 : Same H3 (upd H3 T (.tup [nV i, wV x])) := same_upd nT
      refine ⟨T, _, rfl, SqT.of upd_same, rfl, _, _, rfl, _, _, rfl, rfl, rfl, _, rfl, rfl, _, rfl, ?_⟩
      rw [wV_dec]
      have hk := on_succ hx
      have hz := on_len w i
      refine ite2 (fun q => ?_) (fun q => ?_)
      · have q := of_decide_eq_true q
        rw [if_pos q] at hk
        exact ⟨_, rfl, At.put hD z s3 (small (by rw [lV_len]; omega)) hk⟩
      · have q : ¬ x = .on := fun z => q (decide_eq_true z)
        rw [if_neg q, List.append_nil] at hk
        rw [hk]
        exact z.next s3
    · intro H3 z
      have zl : LN H3 (onL w w.length) D := by
        have := z.lst
        rw [strV_len] at this
        exact this
      have s3 : Same H H3 := s2.trans z.same
      have hF3 : LN H3 (freeL P w P.length) fr := z.same _ _ hF
      have hol := on_len w w.length
      -- order
      refine ⟨_, rfl, _, rfl, a, D, P, onL w w.length, rfl, hP.same s3, ok, zl, fun b hb => ?_, by omega, fun H4 s34 nacy => ?_, fun H4 O o s34 hO hol2 acy hmem => ?_⟩
      · have hb := mem_on.mp hb
        rw [← hl]; exact wd_lt (by unfold isOn at hb; rw [hb]; intro z; cases z)
      · -- there is a round
        refine ⟨_, rfl, true, rfl, iteT (B := True) (kN H4 (s3.trans s34) fun c => nacy (acy_on.mpr c.acy))⟩
      · have s4 : Same H H4 := s3.trans s34
        refine ⟨_, rfl, false, rfl, ?_⟩
        show if false = true then _ else _
        rw [if_neg Bool.false_ne_true]
        have zl4 : LN H4 (onL w w.length) D := s34 _ _ zl
        have hF4 : LN H4 (freeL P w P.length) fr := s34 _ _ hF3
        refine ⟨_, rfl, D, rfl, ⟨_, SqL.of zl4⟩, fun D2 hD2 => lc_it (walk_list (xs := lV (onL w w.length))) (fun i => At H4 D2 ((((onL w w.length).map fun b => decide (b ∈ freeL P w P.length)).take i).map V.bl)) (At.start hD2) (fun i H' _ z => SqL.of (z.same _ _ zl4)) ?_ ?_⟩
        · rintro i y H5 H6 hi z5 ⟨rfl, hy⟩
          obtain ⟨b, hb, rfl⟩ := lV_of hy
          refine ⟨rfl, yes_lc ⟨_, rfl, _, rfl, fr, _, rfl, .inl (SqL.of (z5.same _ _ hF4)), rfl, lV_flat _, ?_⟩⟩
          show ∃ acc, _
          rw [if_neg Bool.false_ne_true, inV_nat]
          refine At.put hD2 z5 (Same.refl _) (small ?_) ?_
          · rw [List.length_map, List.length_take, List.length_map]; omega
          · rw [List.take_add_one, List.getElem?_map, hb, List.map_append]; rfl
        · intro H5 z5
          refine ⟨D2, _, rfl, SqL.of z5.lst, _, rfl, ?_⟩
          have ef : ((((onL w w.length).map fun b => decide (b ∈ freeL P w P.length)).take (lV (onL w w.length)).length).all id) = decide (∀ a, isOn w a → Free P w a) := by
            rw [lV_len, List.take_of_length_le (by rw [List.length_map]; exact Nat.le_refl _), Bool.eq_iff_iff, decide_eq_true_iff]
            exact latched_free ok hl
          have s5 : Same H H5 := s4.trans z5.same
          dsimp only
          rw [ef]
          by_cases hfree : ∀ a, isOn w a → Free P w a
          · rw [decide_eq_true hfree]
            show if false = true then _ else _
            rw [if_neg Bool.false_ne_true]
            -- gather
            have hO5 : LN H5 o O := z5.same _ _ hO
            refine ⟨_, rfl, _, rfl, _, rfl, _, rfl, a, e, fr, O, P, w, freeL P w P.length, o, rfl, hP.same s5, ok, tsame s5 hE.sq, hl, hn, z5.same _ _ hF4, fun b hb => ?_, hO5, fun b => ?_, hol2, fun H6 r G Hh g hs s56 hr6 hg6 hh6 hhl nd hmg => ?_⟩
            · rw [mem_free ok hl]
              refine ⟨fun q => q.2.2, fun q => ⟨?_, ?_, q⟩⟩
              · rw [← hl]; exact wd_lt (by unfold isOff at hb; rw [hb]; intro z; cases z)
              · unfold isOff at hb; rw [hb]; intro z; cases z
            · rw [hmem, mem_on]
            · have s6 : Same H H6 := s5.trans s56
              refine ⟨r, _, rfl, SqT.of hr6, rfl, _, _, rfl, _, _, rfl, rfl, ?_⟩
              refine ⟨_, rfl, G, _, rfl, .inl (SqL.of hg6), _, rfl, ⟨e, strV w, rfl, hE.same s6⟩, e, w.map strW, _, rfl, rfl, ?_, rfl, _, rfl, ?_⟩
              · rw [List.map_map]; exact tsame s6 hE.sq
              · rw [show strW .off = strW W.off from rfl, str_count, lV_len]
                have ec := count_gat nd (fun b hb => (hmg b).mp hb) (fun b hb => (hmg b).mpr hb)
                have ed : decide (V.int (g.length : Int) = V.int ((w.count .off : Nat) : Int)) = decide (∀ b, isOff w b → Gat P w b) := by
                  rw [Bool.eq_iff_iff, decide_eq_true_iff, decide_eq_true_iff, ← ec]
                  exact ⟨fun h => by have := V.int.inj h; omega, fun h => by rw [h]⟩
                rw [ed]
                refine ite2 (fun q => ?_) (fun q => ?_)
                · have q := of_decide_eq_true q
                  have hc : Cond P w := ⟨acy_on.mp acy, hfree, q⟩
                  refine ⟨_, rfl, Hh, _, rfl, SqL.of hh6, fun p np => ?_⟩
                  have s67 : Same H6 (upd H6 p (.lst (lV hs).reverse)) := same_upd np
                  refine ⟨p, _, rfl, .inr (SqL.of upd_same), _, rfl, O, _, rfl, .inr (SqL.of (s67 _ _ (s56 _ _ hO5))), Nat.le_of_lt (small ?_), fun p2 np2 => ?_⟩
                  · rw [List.length_append, List.length_append, List.length_reverse, lV_len, lV_len, List.length_nil]; omega
                  · exact kR _ p2 (s6.trans (s67.trans (same_upd np2))) hc
                · exact kN H6 s6 fun c => q (decide_eq_true c.gat)
          · rw [decide_eq_false hfree]
            exact iteT (B := True) (kN H5 s5 fun c => hfree c.free)
end
end K19

/-! part W7 -/
/-! Walks 7: all_effects. -/
namespace K19
open PySem PySem.Spec PyProof.Rows L2
theorem scAE : FnScope ["panel", "found", "waiting", "effect", "button", "after"] ["panel"] (defScope sAE) := ⟨rfl, rfl, rfl, by decide +kernel, rfl, by decide +kernel, by decide +kernel⟩
/-- all tuples stay -/
def TK (H H' : Hp) : Prop := ∀ b xs, H b = some (.tup xs) → H' b = some (.tup xs)
theorem TK.of {H H' : Hp} (s : Same H H') : TK H H' := fun b xs e => s b _ e
theorem TK.trans {H H1 H2 : Hp} (a : TK H H1) (b : TK H1 H2) : TK H H2 := fun c xs e => b c xs (a c xs e)
theorem TK.put {H : Hp} {a : Addr} {o u : HO} (h : H a = some u) (hu : ∀ xs, u ≠ .tup xs) : TK H (upd H a o) := fun b xs e => by
  have : b ≠ a := fun z => by rw [z, h] at e; exact hu xs (Option.some.inj e)
  rw [upd_ne this]; exact e
theorem TK.wt {H H' : Hp} (t : TK H H') {E : List (List W)} {bs : List Addr} (h : Paired (WT H) E bs) : Paired (WT H') E bs := paired_mono h fun _ _ q => t _ _ q
theorem val_kvW {E : List (List W)} {w : List W} : (valV (kvW E) (keyW w)).isSome = decide (w ∈ E) := by
  rw [← valV_any, Bool.eq_iff_iff, List.any_eq_true, decide_eq_true_iff]
  constructor
  · rintro ⟨kv, hkv, he⟩
    obtain ⟨u, hu, rfl⟩ := List.mem_map.mp hkv
    have : keyW u = keyW w := of_decide_eq_true he
    rw [← keyW_inj this]; exact hu
  · intro h
    exact ⟨_, List.mem_map.mpr ⟨w, h, rfl⟩, decide_eq_true rfl⟩
theorem put_kvW {E : List (List W)} {w : List W} (h : w ∉ E) : putK (kvW E) (keyW w) (V.bl true) = kvW (E ++ [w]) := by
  have hn : valV (kvW E) (keyW w) = none := by
    have := val_kvW (E := E) (w := w)
    rw [decide_eq_false h] at this
    cases e : valV (kvW E) (keyW w) with
    | none => rfl
    | some x => rw [e] at this; cases this
  rw [putK_new _ hn]
  unfold kvW
  rw [List.map_append]; rfl
theorem paired_snoc {α β : Type} {F : α → β → Prop} {x : α} : ∀ {l : List α} {m : List β}, Paired F (l ++ [x]) m → ∃ m' y, m = m' ++ [y] ∧ Paired F l m' ∧ F x y
  | [], _, .cons r .nil => ⟨[], _, rfl, .nil, r⟩
  | _ :: _, _, .cons r t => by
    obtain ⟨m', y, e, p, q⟩ := paired_snoc t
    exact ⟨_ :: m', y, by rw [e]; rfl, .cons r p, q⟩
theorem snoc_of {α : Type} {l : List α} (h : l ≠ []) : ∃ r x, l = r ++ [x] := ⟨l.dropLast, l.getLast h, (List.dropLast_concat_getLast h).symm⟩
theorem pow_le {n : Nat} (h : n ≤ 7) : 3 ^ n ≤ 2187 := Nat.le_trans (Nat.pow_le_pow_right (by decide) h) (by decide)
def spAE : Sp := fun vs H Q _ => ∃ (a : Addr) (P : Pan), vs = [.ref a] ∧ PT' H P a ∧ PanOk P ∧ 1 ≤ P.length ∧ P.length ≤ 7 ∧
  ∀ H' r bs, Same H H' → H' r = some (.tup (bs.map V.ref)) → Paired (WT H') (due P) bs → Q (.ref r) H'
section
variable {P_ : Program} {w_ : World} {K : PySem.W.Frag} {mg : Str → Option Value} {base : Heap}
theorem ok_ae {f fA : Addr} {fd fdA : FuncData} (F : Fun K "all_effects" "all_effects" sAE f fd) (T : Txt mg)
    (FA : Fun K "effect_after" "effect_after" sEA fA fdA) (bA : Binds K fdA ["panel", "effect", "pressed"] []) (gA : mg "effect_after" = some (.ref fA))
    (GA : FnOk P_ w_ K mg base CX0 2 fA fdA ["panel", "effect", "pressed"] (spEA K)) : FnOk P_ w_ K mg base CX0 3 f fd ["panel"] spAE := by
  refine F.ok scAE (fun vs H Q E h => ?_) (fun cdv A outer s H vs Q E hr h => ?_)
  · obtain ⟨a, P, rfl, _⟩ := h
    rfl
  · obtain ⟨a, P, rfl, hP, ok, h1, h7, k⟩ := h
    refine ⟨_, pss_cons (ps_if (pt_cmpR op_gt (pe_callB call_len_seq (by rfl) T.len PySem.boot_len (pa_cons (pv 0) pa_nil)) (pe_small T) (nomark _)) (pss_one ps_never) pss_nil)
      (pss_cons (ps_set (i := 1) scAE.nd rfl (.inl rfl) (pe_dispT (hu_of hr) (pe_op op_repA (pe_tup (pa_cons (pe_same T) pa_nil)) (pe_callB call_len_seq (by rfl) T.len PySem.boot_len (pa_cons (pv 0) pa_nil))) pe_bl))
      (pss_cons (ps_set (i := 2) scAE.nd rfl (.inl rfl) (pe_callTy (call_list_dT rfl) (by rfl) T.list PyProof.Rows.boot_list (pa_cons (pv 1) pa_nil)))
      (pss_cons (ps_while PassesOwn.never (pt_cmpR (op_neD hr.units) (pv 2) (pe_lst pa_nil) (nomark _))
        (pss_cons (ps_set (i := 3) scAE.nd rfl (.inl rfl) (pe_bm0 PySem.F.plainAttrs_list PySem.F.slot_list_pop PySem.F.type_list_pop mt_pop (pv 2)))
        (pss_one (ps_for PassesOwn.never rfl (pi_range1 (by rfl) T.range (pa_cons (pe_callB call_len_seq (by rfl) T.len PySem.boot_len (pa_cons (pv 0) pa_nil)) pa_nil)) (pg_name (i := 4) scAE.nd rfl (.inl rfl))
          (pss_cons (ps_set (i := 5) scAE.nd rfl (.inl rfl) (pe_call GA hr (by rfl) gA FA.kp bA .nil pass0 (pa_cons (pv 0) (pa_cons (pv 3) (pa_cons (pv 4) pa_nil)))))
          (pss_one (ps_if (pt_cmp (pc_dnotin (hu_of hr) (pv 5) (pv 1))) (pss_cons (ps_dput (hu_of hr) (pv 1) (pv 5) pe_bl rfl)
            (pss_one (ps_expr (pe_bm PySem.F.plainAttrs_list PySem.F.slot_list_append PySem.F.type_list_append mt_append (pv 2) (pa_cons (pv 5) pa_nil))))) pss_nil)))))))
      (pss_one (ps_ret (pe_callTy call_tuple_of (by rfl) T.tuple PyProof.Rows.boot_tuple (pa_cons (pe_callB (cr_sortW rfl) (by rfl) T.sorted PyProof.Rows.boot_sorted (pa_cons (pv 1) pa_nil)) pa_nil))))))), ?_⟩
    obtain ⟨as, ha, hal⟩ := hP.len
    refine ⟨.ref a, rfl, a, _, rfl, .inr (SqT.of ha), _, _, rfl, rfl, _, rfl, ?_⟩
    rw [hal, decide_eq_false (by omega)]
    refine iteF (A := True) ?_
    -- found
    refine fun d hd => ⟨by show 1 ≤ sizeLine; decide, fun p hp => ?_⟩
    have s1 : Same H (upd H d (.dT [])) := same_upd hd
    have s2 : Same (upd H d (.dT [])) (upd (upd H d (.dT [])) p (.tup [wV .same])) := same_upd hp
    have d2 : upd (upd H d (.dT [])) p (.tup [wV .same]) d = some (.dT []) := s2 _ _ upd_same
    have p2 : upd (upd H d (.dT [])) p (.tup [wV .same]) p = some (.tup [wV .same]) := upd_same
    have s12 := s1.trans s2
    generalize upd (upd H d (.dT [])) p (.tup [wV .same]) = H2 at s12 d2 p2
    obtain ⟨as2, ha2, hal2⟩ := (hP.same s12).len
    refine ⟨.ref a, rfl, a, _, rfl, .inr (SqT.of ha2), ?_⟩
    rw [hal2]
    refine rep_same h1 (by omega) p2 fun H3 r s23 hw => ⟨s23 _ _ d2, r, keyW (start P), rfl, by rw [keyW_kV]; exact hw, ?_⟩
    have s3 : Same H (upd H3 d (.dT [(keyW (start P), V.bl true)])) := same_put (s12.trans s23) hd
    have d3 : upd H3 d (.dT [(keyW (start P), V.bl true)]) d = some (.dT (kvW [start P])) := upd_same
    generalize upd H3 d (.dT [(keyW (start P), V.bl true)]) = H4 at s3 d3
    -- waiting
    refine ⟨_, rfl, d, _, rfl, .inl d3, fun wt bs hwt ik => ?_⟩
    have pw := keys_W ik
    have hwH : H wt = none := same_none s3 hwt
    have hwd : wt ≠ d := fun z => by rw [z, d3] at hwt; cases hwt
    refine ⟨fun m σ H' => ∃ (E Wl : List (List W)) (bs : List Addr) (v3 v4 v5 : Option V), σ = [some (.ref a), some (.ref d), some (.ref wt), v3, v4, v5] ∧ Same H H' ∧ H' d = some (.dT (kvW E)) ∧ H' wt = some (.lst (bs.map V.ref)) ∧ Paired (WT H') Wl bs ∧ AI P E Wl ∧ m = Wl.length + 2 * (3 ^ P.length - E.length),
      ⟨_, [start P], [start P], bs, none, none, none, rfl, s3.trans (same_upd hwt), by rw [upd_ne hwd.symm]; exact d3, upd_same, (TK.of (same_upd hwt)).wt pw, .start, rfl⟩, ?_⟩
    rintro m σ H1 ⟨E, Wl, bs, v3, v4, v5, rfl, sm, hd1, hw1, pw, ai, rfl⟩
    refine ⟨_, rfl, Nat.zero_le _, fun q0 nq => ?_⟩
    have s1 : Same H1 (upd H1 q0 (.lst [])) := same_upd nq
    have hp2 : upd H1 q0 (.lst []) q0 = some (.lst []) := upd_same
    generalize upd H1 q0 (.lst []) = H2 at s1 hp2
    have hd2 : H2 d = some (.dT (kvW E)) := s1 _ _ hd1
    have hw2 : H2 wt = some (.lst (bs.map V.ref)) := s1 _ _ hw1
    have pw2 : Paired (WT H2) Wl bs := (TK.of s1).wt pw
    have sm2 : Same H H2 := sm.trans s1
    refine ne_nilT hw2 pw2 hp2 ⟨_, rfl, ite2 (fun q => ?_) (fun q => ?_)⟩
    · have q : Wl ≠ [] := by simpa using q
      obtain ⟨Wl, w, rfl⟩ := snoc_of q
      obtain ⟨bs, b, rfl, pw3, hb⟩ := paired_snoc pw2
      refine ⟨fun σ' H' => ∃ (E' Wl' : List (List W)) (bs' : List Addr) (v3 v4 v5 : Option V), σ' = [some (.ref a), some (.ref d), some (.ref wt), v3, v4, v5] ∧ Same H H' ∧ H' d = some (.dT (kvW E')) ∧ H' wt = some (.lst (bs'.map V.ref)) ∧ Paired (WT H') Wl' bs' ∧ AI P E' Wl' ∧ Wl'.length + 2 * (3 ^ P.length - E'.length) < (Wl ++ [w]).length + 2 * (3 ^ P.length - E.length),
        fun σ' H' ⟨E', W', bs', x3, x4, x5, g1, g2, g3, g4, g5, g6, g7⟩ => ⟨_, g7, E', W', bs', x3, x4, x5, g1, g2, g3, g4, g5, g6, rfl⟩, ?_⟩
      -- effect = waiting.pop()
      refine ⟨_, rfl, .inl ⟨rfl, _, SqL.of hw2⟩, wt, _, .ref b, rfl, rfl, hw2, ?_, ?_⟩
      · rw [List.map_append, List.length_append, List.length_map]
        show (bs.map V.ref ++ [V.ref b])[bs.length + 1 - 1]? = some (V.ref b)
        rw [List.getElem?_append_right (by rw [List.length_map]; omega), List.length_map]
        simp
      rw [show ((bs ++ [b]).map V.ref).dropLast = bs.map V.ref by rw [List.map_append]; exact List.dropLast_concat]
      have tk : TK H2 (upd H2 wt (.lst (bs.map V.ref))) := TK.put hw2 fun _ z => by cases z
      have s3 : Same H (upd H2 wt (.lst (bs.map V.ref))) := same_put sm2 hwH
      have hd3 : upd H2 wt (.lst (bs.map V.ref)) d = some (.dT (kvW E)) := by rw [upd_ne hwd.symm]; exact hd2
      have hw3 : upd H2 wt (.lst (bs.map V.ref)) wt = some (.lst (bs.map V.ref)) := upd_same
      have pw4 := tk.wt pw3
      have hb3 : WT (upd H2 wt (.lst (bs.map V.ref))) w b := tk _ _ hb
      generalize upd H2 wt (.lst (bs.map V.ref)) = H3 at s3 hd3 hw3 pw4 hb3
      -- for button in range(len(panel))
      obtain ⟨as3, ha3, hal3⟩ := (hP.same s3).len
      refine ⟨.ref a, rfl, a, _, rfl, .inr (SqT.of ha3), ?_⟩
      rw [hal3]
      refine ⟨(P.length : Int), rfl, by omega, by omega, ?_⟩
      rw [Int.toNat_natCast]
      refine for_it (walk_rng0 (n := P.length)) (fun i σ H' => ∃ (E' Wl' : List (List W)) (bs' : List Addr) (v4 v5 : Option V), σ = [some (.ref a), some (.ref d), some (.ref wt), some (.ref b), v4, v5] ∧ Same H H' ∧ H' d = some (.dT (kvW E')) ∧ H' wt = some (.lst (bs'.map V.ref)) ∧ Paired (WT H') Wl' bs' ∧ WT H' w b ∧ AII P E' Wl' w i ∧ Wl'.length + 2 * (3 ^ P.length - E'.length) < (Wl ++ [w]).length + 2 * (3 ^ P.length - E.length))
        ⟨E, Wl, bs, _, _, rfl, s3, hd3, hw3, pw4, hb3, ai.enter, by rw [List.length_append, List.length_singleton]; omega⟩ (fun _ _ _ _ _ => trivial) ?_ ?_
      · rintro i x σ H4 H5 hi ⟨E', Wl', bs', v4, v5, rfl, sm4, hd4, hw4, pw4, hb4, aii, lt⟩ ⟨rfl, rfl⟩
        have hwl : w.length = P.length := reach_len (aii.reach w aii.hw)
        have hsz := aii.size
        have h3 := pow_le h7
        refine ⟨_, rfl, _, rfl, _, rfl, a, b, P, w, i, rfl, hP.same sm4, SqT.of hb4, by omega, hi, fun H6 r s46 hr6 => ?_⟩
        have sm6 : Same H H6 := sm4.trans s46
        have hd6 : H6 d = some (.dT (kvW E')) := s46 _ _ hd4
        have hw6 : H6 wt = some (.lst (bs'.map V.ref)) := s46 _ _ hw4
        have pw6 : Paired (WT H6) Wl' bs' := (TK.of s46).wt pw4
        have hb6 : WT H6 w b := s46 _ _ hb4
        have hk6 : H6 r = some (.tup ((keyW (press P w i)).map kV)) := by rw [keyW_kV]; exact hr6
        refine ⟨_, rfl, _, rfl, d, _, rfl, DGet.t hd6 hk6, _, rfl, ?_⟩
        rw [val_kvW]
        refine ite2 (fun q => ?_) (fun q => ?_)
        · have q : press P w i ∉ E' := by simpa using q
          have hkl : (kvW E').length < sizeLine := small (by unfold kvW; rw [List.length_map]; omega)
          refine ⟨_, rfl, _, rfl, d, _, rfl, DPut.t hd6 hk6 hkl, ?_⟩
          rw [put_kvW q]
          have tk6 : TK H6 (upd H6 d (.dT (kvW (E' ++ [press P w i])))) := TK.put hd6 fun _ z => by cases z
          have sm7 : Same H (upd H6 d (.dT (kvW (E' ++ [press P w i])))) := same_put sm6 hd
          have hd7 : upd H6 d (.dT (kvW (E' ++ [press P w i]))) d = some (.dT (kvW (E' ++ [press P w i]))) := upd_same
          have hw7 : upd H6 d (.dT (kvW (E' ++ [press P w i]))) wt = some (.lst (bs'.map V.ref)) := by rw [upd_ne hwd]; exact hw6
          have pw7 := tk6.wt pw6
          have hb7 : WT (upd H6 d (.dT (kvW (E' ++ [press P w i])))) w b := tk6 _ _ hb6
          have hr7 : WT (upd H6 d (.dT (kvW (E' ++ [press P w i])))) (press P w i) r := tk6 _ _ hr6
          generalize upd H6 d (.dT (kvW (E' ++ [press P w i]))) = H7 at sm7 hd7 hw7 pw7 hb7 hr7
          have aii' := aii.new hi q
          have hsz' := aii'.size
          rw [List.length_append, List.length_singleton] at hsz'
          have hbl : bs'.length = Wl'.length := (Paired.length pw7).symm
          have hwl' := aii.len
          refine ⟨_, rfl, .inl ⟨rfl, _, SqL.of hw7⟩, _, rfl, wt, _, _, rfl, rfl, hw7, small (by rw [List.length_map]; omega), ?_⟩
          have tk7 : TK H7 (upd H7 wt (.lst (bs'.map V.ref ++ [V.ref r]))) := TK.put hw7 fun _ z => by cases z
          refine ⟨E' ++ [press P w i], Wl' ++ [press P w i], bs' ++ [r], _, _, rfl, same_put sm7 hwH, by rw [upd_ne hwd.symm]; exact hd7, by rw [upd_same, List.map_append]; rfl, paired_app (tk7.wt pw7) (.cons (tk7 _ _ hr7) .nil), tk7 _ _ hb7, aii', ?_⟩
          rw [List.length_append, List.length_append, List.length_singleton, List.length_append, List.length_singleton]
          rw [List.length_append, List.length_singleton] at lt
          omega
        · have q : press P w i ∈ E' := Classical.byContradiction fun z => q (by rw [decide_eq_false z]; rfl)
          exact ⟨E', Wl', bs', _, _, rfl, sm6, hd6, hw6, pw6, hb6, aii.old q, lt⟩
      · rintro σ H4 ⟨E', Wl', bs', v4, v5, rfl, sm4, hd4, hw4, pw4, hb4, aii, lt⟩
        exact ⟨E', Wl', bs', _, _, _, rfl, sm4, hd4, hw4, pw4, aii.leave, lt⟩
    · have q : Wl = [] := by simpa using q
      subst q
      refine ⟨_, rfl, d, E, rfl, hd2, fun w hw => ?_, fun p E' bs' pm srt pE np => ?_⟩
      · intro z
        have := reach_len (ai.reach w hw)
        rw [z] at this
        simp at this
        omega
      · have e := ai.due ok pm srt
        subst e
        have s3 : Same H2 (upd H2 p (.lst (bs'.map V.ref))) := same_upd np
        refine ⟨p, _, rfl, .inl ⟨SqL.of upd_same, fun l hl => k _ l bs' (sm2.trans (s3.trans (same_upd hl))) upd_same ?_⟩⟩
        exact (TK.of (s3.trans (same_upd hl))).wt pE
end
end K19

/-! part W8 -/
/-! Walks 8: way_back, find_round. -/
namespace K19
open PySem PySem.Spec PyProof.Rows L2
theorem scWB : FnScope ["panel", "start", "allowed", "ways", "found", "way", "button"] ["panel", "start", "allowed"] (defScope sWB) := ⟨rfl, rfl, rfl, by decide +kernel, rfl, by decide +kernel, by decide +kernel⟩
theorem TK.tn {H H' : Hp} (t : TK H H') {E : List (List Nat)} {bs : List Addr} (h : Paired (TN H) E bs) : Paired (TN H') E bs := paired_mono h fun _ _ q => t _ _ q
def spWB (K : PySem.W.Frag) : Sp := fun vs H Q _ => ∃ (a al : Addr) (P : Pan) (x : Nat) (A : List Nat), vs = [.ref a, nV x, .ref al] ∧ PT' H P a ∧ PanOk P ∧ SqT K H al (lV A) ∧ x ∈ A ∧ (∀ b, b ∈ A → b < P.length) ∧ A.length ≤ 100 ∧
  (∀ H', Same H H' → Closed P x A → Q .non H') ∧ ∀ H' r, Same H H' → ¬ Acy P (· ∈ A) → Q (.ref r) H'
section
variable {P_ : Program} {w_ : World} {K : PySem.W.Frag} {mg : Str → Option Value} {base : Heap}
theorem ok_wb {f : Addr} {fd : FuncData} (F : Fun K "way_back" "way_back" sWB f fd) : FnOk P_ w_ K mg base CX0 1 f fd ["panel", "start", "allowed"] (spWB K) := by
  refine F.ok scWB (fun vs H Q E h => ?_) (fun cdv A_ outer s H vs Q E hr h => ?_)
  · obtain ⟨a, al, P, x, A, rfl, _⟩ := h
    rfl
  · obtain ⟨a, al, P, x, A, rfl, hP, ok, hA, hx, hlt, hn, kN, kR⟩ := h
    refine ⟨_, pss_cons (ps_par rfl scWB.nd (i := 3) (j := 4) rfl rfl (by decide) rfl rfl (pa_cons (pe_lst (pa_cons (pe_tup (pa_cons (pv 1) pa_nil)) pa_nil)) (pa_cons (pe_lst (pa_cons (pv 1) pa_nil)) pa_nil)) (by rfl))
      (pss_cons (ps_while PassesOwn.never (pt_cmpR (op_neD hr.units) (pv 3) (pe_lst pa_nil) (nomark _))
        (pss_cons (ps_set (i := 5) scWB.nd rfl (.inl rfl) (pe_bm PySem.F.plainAttrs_list PySem.F.slot_list_pop PySem.F.type_list_pop mt_popAt (pv 3) (pa_cons pe_int pa_nil)))
        (pss_one (ps_for PassesOwn.never rfl (pi_tup (pe_ix ix_tup (pv 0) (pe_ix ix_tup (pv 5) (pe_un un_neg pe_int) (fun _ _ => rfl)) (fun _ _ => rfl))) (pg_name (i := 6) scWB.nd rfl (.inl rfl))
          (pss_cons (ps_if (pt_cmpR op_eq (pv 6) (pv 1) (nomark _)) (pss_one (ps_ret (pv 5))) pss_nil)
          (pss_one (ps_if (PW.pt (pw_and (pt_cmpR op_in_seq (pv 6) (pv 2) (by rfl)) (pw_and1 (pt_cmpR op_notIn_seq (pv 6) (pv 4) (by rfl)))))
            (pss_cons (ps_expr (pe_bm PySem.F.plainAttrs_list PySem.F.slot_list_append PySem.F.type_list_append mt_append (pv 4) (pa_cons (pv 6) pa_nil)))
            (pss_one (ps_expr (pe_bm PySem.F.plainAttrs_list PySem.F.slot_list_append PySem.F.type_list_append mt_append (pv 3) (pa_cons (pe_tup (StX.pa_star (pv 5) (pa_cons (pv 6) pa_nil))) pa_nil))))) pss_nil)))))))
      (pss_one (ps_ret pe_non))), ?_⟩
    -- ways, found
    refine ⟨_, rfl, by show 1 ≤ sizeLine; decide, fun t0 ht0 => ⟨by show 1 ≤ sizeLine; decide, fun Wy hWy0 => ⟨_, rfl, by show 1 ≤ sizeLine; decide, fun Fo hFo0 => ⟨_, _, rfl, ?_⟩⟩⟩⟩
    obtain ⟨hFW, hFo1⟩ := none_upd hFo0
    obtain ⟨hFt, hFo⟩ := none_upd hFo1
    obtain ⟨hWt, hWy⟩ := none_upd hWy0
    have s0 : Same H (upd (upd (upd H t0 (.tup [nV x])) Wy (.lst [.ref t0])) Fo (.lst [nV x])) := same_put (same_put (same_upd ht0) hWy) hFo
    have t00 : TN (upd (upd (upd H t0 (.tup [nV x])) Wy (.lst [.ref t0])) Fo (.lst [nV x])) [x] t0 := by
      show upd _ _ _ t0 = _
      rw [upd_ne hFt.symm, upd_ne hWt.symm, upd_same]; rfl
    have w0 : upd (upd (upd H t0 (.tup [nV x])) Wy (.lst [.ref t0])) Fo (.lst [nV x]) Wy = some (.lst ([t0].map V.ref)) := by
      rw [upd_ne hFW.symm, upd_same]; rfl
    have f0 : LN (upd (upd (upd H t0 (.tup [nV x])) Wy (.lst [.ref t0])) Fo (.lst [nV x])) [x] Fo := upd_same
    generalize upd (upd (upd H t0 (.tup [nV x])) Wy (.lst [.ref t0])) Fo (.lst [nV x]) = H0 at s0 t00 w0 f0
    refine ⟨fun m σ H' => ∃ (ws : List (List Nat)) (bs : List Addr) (found : List Nat) (v5 v6 : Option V), σ = [some (.ref a), some (nV x), some (.ref al), some (.ref Wy), some (.ref Fo), v5, v6] ∧ Same H H' ∧ H' Wy = some (.lst (bs.map V.ref)) ∧ Paired (TN H') ws bs ∧ LN H' found Fo ∧ WB P x A ws found ∧ ws.length ≤ found.length ∧ (∀ w, w ∈ ws → w.length ≤ found.length) ∧ m = ws.length + 2 * (A.length + 1 - found.length),
      ⟨_, [[x]], [t0], [x], none, none, rfl, s0, w0, .cons t00 .nil, f0, .start P x A, Nat.le_refl _, (fun w hw => by rw [show w = [x] by simpa using hw]; exact Nat.le_refl _), rfl⟩, ?_⟩
    rintro m σ H1 ⟨ws, bs, found, v5, v6, rfl, sm, hw1, pw, hf1, wb, hwl, hwll, rfl⟩
    refine ⟨_, rfl, Nat.zero_le _, fun q0 nq => ?_⟩
    have s1 : Same H1 (upd H1 q0 (.lst [])) := same_upd nq
    have hp2 : upd H1 q0 (.lst []) q0 = some (.lst []) := upd_same
    generalize upd H1 q0 (.lst []) = H2 at s1 hp2
    have hw2 : H2 Wy = some (.lst (bs.map V.ref)) := s1 _ _ hw1
    have pw2 : Paired (TN H2) ws bs := (TK.of s1).tn pw
    have hf2 : LN H2 found Fo := s1 _ _ hf1
    have sm2 : Same H H2 := sm.trans s1
    refine ne_nilW hw2 pw2 hp2 ⟨_, rfl, ite2 (fun q => ?_) (fun q => ?_)⟩
    · have q : ws ≠ [] := by simpa using q
      obtain ⟨w, ws, rfl⟩ : ∃ w r, ws = w :: r := by
        cases ws with
        | nil => exact absurd rfl q
        | cons w r => exact ⟨w, r, rfl⟩
      cases pw2 with
      | @cons _ b _ bs hb pw3 =>
        obtain ⟨z, hz, hzf⟩ := wb.ne w List.mem_cons_self
        have zA : z ∈ A := by
          rcases wb.sub z hzf with e | e
          · rw [e]; exact hx
          · exact e
        have wbi := wb.enter hz
        refine ⟨fun σ' H' => ∃ (ws' : List (List Nat)) (bs' : List Addr) (found' : List Nat) (v5 v6 : Option V), σ' = [some (.ref a), some (nV x), some (.ref al), some (.ref Wy), some (.ref Fo), v5, v6] ∧ Same H H' ∧ H' Wy = some (.lst (bs'.map V.ref)) ∧ Paired (TN H') ws' bs' ∧ LN H' found' Fo ∧ WB P x A ws' found' ∧ ws'.length ≤ found'.length ∧ (∀ w, w ∈ ws' → w.length ≤ found'.length) ∧ ws'.length + 2 * (A.length + 1 - found'.length) < (w :: ws).length + 2 * (A.length + 1 - found.length),
          fun σ' H' ⟨w', bs', f', x5, x6, g1, g2, g3, g4, g5, g6, g7, g8, g9⟩ => ⟨_, g9, w', bs', f', x5, x6, g1, g2, g3, g4, g5, g6, g7, g8, rfl⟩, ?_⟩
        -- way = ways.pop(0)
        refine ⟨_, rfl, .inl ⟨rfl, _, SqL.of hw2⟩, Wy, _, 0, 0, .ref b, rfl, rfl, hw2, by decide, by decide, ?_, rfl, ?_⟩
        · show seqIndex? 0 ((b :: bs).map V.ref).length = some 0
          rw [List.length_map, List.length_cons]
          unfold seqIndex?
          simp
        rw [show ((b :: bs).map V.ref).eraseIdx 0 = bs.map V.ref from rfl]
        have tk : TK H2 (upd H2 Wy (.lst (bs.map V.ref))) := TK.put hw2 fun _ z => by cases z
        have hFW2 : Fo ≠ Wy := hFW
        have s3 : Same H (upd H2 Wy (.lst (bs.map V.ref))) := same_put sm2 hWy
        have hw3 : upd H2 Wy (.lst (bs.map V.ref)) Wy = some (.lst (bs.map V.ref)) := upd_same
        have hf3 : LN (upd H2 Wy (.lst (bs.map V.ref))) found Fo := by
          show upd _ _ _ Fo = _
          rw [upd_ne hFW]; exact hf2
        have pw4 := tk.tn pw3
        have hb3 : TN (upd H2 Wy (.lst (bs.map V.ref))) w b := tk _ _ hb
        generalize upd H2 Wy (.lst (bs.map V.ref)) = H3 at s3 hw3 hf3 pw4 hb3
        -- for button in panel[way[-1]]
        obtain ⟨as, c, h1, h2, h3⟩ := (hP.same s3).at (hlt z zA)
        have hlast : atI (lV w) (-1) = some (nV z) := by
          have hne : w ≠ [] := fun e => by rw [e] at hz; cases hz
          have e := List.dropLast_concat_getLast hne
          have ez : w.getLast hne = z := by
            rw [List.getLast?_eq_getLast hne] at hz
            exact Option.some.inj hz
          rw [← e, ez]
          show atI (List.map nV (w.dropLast ++ [z])) (-1) = _
          rw [List.map_append]
          exact atI_last _ _
        have hwlen : w.length ≤ found.length := hwll w List.mem_cons_self
        refine ⟨_, rfl, _, rfl, 1, rfl, b, _, -1, _, rfl, rfl, SqT.of hb3, hlast, a, _, _, _, rfl, rfl, SqT.of h1, h2, c, rfl, ⟨_, SqT.of h3⟩, ?_⟩
        refine for_tup (K := K) (a := c) (xs := lV (rel P z)) (fun i σ H' => ∃ (ws' : List (List Nat)) (bs' : List Addr) (found' : List Nat) (v6 : Option V), σ = [some (.ref a), some (nV x), some (.ref al), some (.ref Wy), some (.ref Fo), some (.ref b), v6] ∧ Same H H' ∧ TN H' (rel P z) c ∧ H' Wy = some (.lst (bs'.map V.ref)) ∧ Paired (TN H') ws' bs' ∧ LN H' found' Fo ∧ TN H' w b ∧ w.length ≤ found'.length ∧ WBI P x A ws' found' z ((rel P z).take i) ∧ ws'.length ≤ found'.length ∧ (∀ w, w ∈ ws' → w.length ≤ found'.length) ∧ ws'.length + 2 * (A.length + 1 - found'.length) < (w :: ws).length + 2 * (A.length + 1 - found.length))
          ⟨ws, bs, found, _, rfl, s3, h3, hw3, pw4, hf3, hb3, hwlen, (by simpa using wbi), (by rw [List.length_cons] at hwl; omega), fun v hv => hwll v (List.mem_cons_of_mem _ hv), (by rw [List.length_cons]; omega)⟩
          (fun i σ H' _ ⟨_, _, _, _, _, _, q, _⟩ => SqT.of q) ?_ ?_
        · rintro i y σ H4 hi ⟨ws', bs', found', v6, rfl, sm4, hc4, hw4, pw4, hf4, hb4, hwlen4, wbi4, hl4, hll4, lt⟩
          obtain ⟨o, ho, rfl⟩ := lV_of hi
          have hor : o ∈ rel P z := List.mem_of_getElem? ho
          have htk : (rel P z).take (i + 1) = (rel P z).take i ++ [o] := by rw [List.take_add_one, ho]; rfl
          have hsz := wbi4.size
          refine ⟨_, rfl, _, rfl, rfl, _, rfl, ?_⟩
          rw [nV_dec]
          refine ite2 (fun q => ?_) (fun q => ?_)
          · have q := of_decide_eq_true q
            subst q
            exact ⟨_, rfl, kR H4 b sm4 (wbi4.hit hx hor)⟩
          · have q : o ≠ x := fun e => q (decide_eq_true e)
            refine ⟨_, rfl, _, rfl, al, _, rfl, .inr (tsame sm4 hA), rfl, lV_flat _, _, rfl, ?_⟩
            have e1 : (if false = true then !inV (nV o) (lV A) else inV (nV o) (lV A)) = decide (o ∈ A) := by rw [if_neg Bool.false_ne_true, inV_nat]
            rw [e1]
            refine ite2 (fun qa => ?_) (fun qa => ?_)
            · have qa := of_decide_eq_true qa
              refine ⟨_, rfl, _, rfl, Fo, _, rfl, .inl (SqL.of hf4), rfl, lV_flat _, _, rfl, ?_⟩
              have e2 : (if true = true then !inV (nV o) (lV found') else inV (nV o) (lV found')) = !decide (o ∈ found') := by rw [if_pos rfl, inV_nat]
              rw [e2]
              refine ite2 (fun qf => ?_) (fun qf => ?_)
              · have qf : o ∉ found' := by simpa using qf
                -- found.append(button)
                refine ⟨_, rfl, .inl ⟨rfl, _, SqL.of hf4⟩, _, rfl, Fo, _, _, rfl, rfl, hf4, small (by rw [lV_len]; omega), ?_⟩
                have tk5 : TK H4 (upd H4 Fo (.lst (lV found' ++ [nV o]))) := TK.put hf4 fun _ z => by cases z
                have s5 : Same H (upd H4 Fo (.lst (lV found' ++ [nV o]))) := same_put sm4 hFo
                have hf5 : LN (upd H4 Fo (.lst (lV found' ++ [nV o]))) (found' ++ [o]) Fo := by
                  show upd _ _ _ Fo = some (.lst (List.map nV (found' ++ [o])))
                  rw [upd_same, List.map_append]; rfl
                have hw5 : upd H4 Fo (.lst (lV found' ++ [nV o])) Wy = some (.lst (bs'.map V.ref)) := by rw [upd_ne hFW.symm]; exact hw4
                have pw5 := tk5.tn pw4
                have hb5 : TN (upd H4 Fo (.lst (lV found' ++ [nV o]))) w b := tk5 _ _ hb4
                have hc5 : TN (upd H4 Fo (.lst (lV found' ++ [nV o]))) (rel P z) c := tk5 _ _ hc4
                generalize upd H4 Fo (.lst (lV found' ++ [nV o])) = H5 at s5 hf5 hw5 pw5 hb5 hc5
                -- ways.append((*way, button))
                have hbl : bs'.length = ws'.length := (Paired.length pw5).symm
                refine ⟨_, rfl, .inl ⟨rfl, _, SqL.of hw5⟩, _, rfl, b, _, rfl, .inl (SqT.of hb5), _, rfl, Nat.le_of_lt (small ?_), fun t1 ht1 => ?_⟩
                · rw [List.length_append, lV_len]; show w.length + 1 ≤ _; omega
                have s56 : Same H5 (upd H5 t1 (.tup (lV w ++ [nV o]))) := same_upd ht1
                have ht6 : TN (upd H5 t1 (.tup (lV w ++ [nV o]))) (w ++ [o]) t1 := by
                  show upd _ _ _ t1 = some (.tup (List.map nV (w ++ [o])))
                  rw [upd_same, List.map_append]; rfl
                generalize upd H5 t1 (.tup (lV w ++ [nV o])) = H6 at s56 ht6 ⊢
                have s6 := s5.trans s56
                have hw6 : H6 Wy = some (.lst (bs'.map V.ref)) := s56 _ _ hw5
                have hf6 : LN H6 (found' ++ [o]) Fo := s56 _ _ hf5
                have pw6 := (TK.of s56).tn pw5
                have hb6 : TN H6 w b := s56 _ _ hb5
                have hc6 : TN H6 (rel P z) c := s56 _ _ hc5
                refine ⟨Wy, _, _, rfl, rfl, hw6, small (by rw [List.length_map]; omega), ?_⟩
                have tk7 : TK H6 (upd H6 Wy (.lst (bs'.map V.ref ++ [V.ref t1]))) := TK.put hw6 fun _ z => by cases z
                refine ⟨ws' ++ [w ++ [o]], bs' ++ [t1], found' ++ [o], _, rfl, same_put s6 hWy, tk7 _ _ hc6, (by rw [upd_same, List.map_append]; rfl), paired_app (tk7.tn pw6) (.cons (tk7 _ _ ht6) .nil), ?_, tk7 _ _ hb6, ?_, ?_, ?_, ?_, ?_⟩
                · show upd _ _ _ Fo = _
                  rw [upd_ne hFW]; exact hf6
                · rw [List.length_append]; omega
                · rw [htk]; exact wbi4.add hx hor q qa qf
                · rw [List.length_append, List.length_append]; exact Nat.add_le_add_right hl4 _
                · intro v hv
                  rw [List.length_append, List.length_singleton]
                  rcases List.mem_append.mp hv with hv | hv
                  · have := hll4 v hv; omega
                  · have e : v = w ++ [o] := by simpa using hv
                    rw [e, List.length_append, List.length_singleton]; omega
                · have hsz' := (wbi4.add (w := w) hx hor q qa qf).size
                  rw [List.length_append, List.length_singleton] at hsz'
                  rw [List.length_append, List.length_singleton, List.length_append, List.length_singleton]
                  omega
              · have qf : o ∈ found' := Classical.byContradiction fun z => qf (by rw [decide_eq_false z]; rfl)
                exact ⟨ws', bs', found', _, rfl, sm4, hc4, hw4, pw4, hf4, hb4, hwlen4, (by rw [htk]; exact wbi4.skip q fun _ => qf), hl4, hll4, lt⟩
            · have qa : o ∉ A := fun e => qa (decide_eq_true e)
              refine iteF (A := True) ?_
              exact ⟨ws', bs', found', _, rfl, sm4, hc4, hw4, pw4, hf4, hb4, hwlen4, (by rw [htk]; exact wbi4.skip q fun e => absurd e qa), hl4, hll4, lt⟩
        · rintro σ H4 ⟨ws', bs', found', v6, rfl, sm4, hc4, hw4, pw4, hf4, hb4, hwlen4, wbi4, hl4, hll4, lt⟩
          rw [lV_len, List.take_length] at wbi4
          exact ⟨ws', bs', found', _, _, rfl, sm4, hw4, pw4, hf4, wbi4.leave, hl4, hll4, lt⟩
    · have q : ws = [] := by simpa using q
      subst q
      exact kN H2 sm2 wb.closed
theorem scFR : FnScope ["panel", "state", "at", "button", "found"] ["panel", "state"] (defScope sFR) := ⟨rfl, rfl, rfl, by decide +kernel, rfl, by decide +kernel, by decide +kernel⟩
theorem cut_drop (l : List Nat) {i : Nat} (h : i ≤ l.length) : cutV (lV l) (some (i : Int)) none = lV (l.drop i) := by
  unfold cutV
  rw [HT.sIx_nat, HT.sIx_none, lV_len, Nat.min_eq_left h]
  show List.take _ (List.drop i (List.map nV l)) = List.map nV (l.drop i)
  rw [← List.map_drop, List.take_of_length_le]
  rw [List.length_map, List.length_drop]; exact Nat.le_refl _
def spFR (K : PySem.W.Frag) : Sp := fun vs H Q _ => ∃ (a e : Addr) (P : Pan) (S : List Nat), vs = [.ref a, .ref e] ∧ PT' H P a ∧ PanOk P ∧ SqT K H e (lV S) ∧ (∀ b, b ∈ S → b < P.length) ∧ S.length ≤ 100 ∧
  (∀ H', Same H H' → Acy P (· ∈ S) → Q .non H') ∧ ∀ H' r, Same H H' → ¬ Acy P (· ∈ S) → Q (.ref r) H'
theorem ok_fr {f fW : Addr} {fd fdW : FuncData} (F : Fun K "find_round" "find_round" sFR f fd) (T : Txt mg)
    (FW : Fun K "way_back" "way_back" sWB fW fdW) (bW : Binds K fdW ["panel", "start", "allowed"] []) (gW : mg "way_back" = some (.ref fW)) : FnOk P_ w_ K mg base CX0 2 f fd ["panel", "state"] (spFR K) := by
  have GW : FnOk P_ w_ K mg base CX0 1 fW fdW ["panel", "start", "allowed"] (spWB K) := ok_wb FW
  refine F.ok scFR (fun vs H Q E h => ?_) (fun cdv A_ outer s H vs Q E hr h => ?_)
  · obtain ⟨a, e, P, S, rfl, _⟩ := h
    rfl
  · obtain ⟨a, e, P, S, rfl, hP, ok, hS, hlt, hn, kN, kR⟩ := h
    refine ⟨_, pss_cons (ps_for PassesOwn.never rfl (pi_enumT (by rfl) T.enum (pa_cons (pv 1) pa_nil)) (pg_tup rfl (pgs_cons (pg_name (i := 2) scFR.nd rfl (Or.inl rfl)) (pgs_cons (pg_name (i := 3) scFR.nd rfl (Or.inl rfl)) pgs_nil)))
        (pss_cons (ps_set (i := 4) scFR.nd rfl (.inl rfl) (pe_call GW hr (by rfl) gW FW.kp bW .nil pass0 (pa_cons (pv 0) (pa_cons (pv 3) (pa_cons (pe_slice sl_tupA (pv 1) (po_some (pv 2)) po_none) pa_nil)))))
        (pss_one (ps_if (pt_cmp (pc_notN (pv 4))) (pss_one (ps_ret (pv 4))) pss_nil))))
      (pss_one (ps_ret pe_non)), ?_⟩
    refine ⟨_, rfl, e, _, rfl, hS, for_it (walk_enumT (xs := lV S)) (fun i σ H' => ∃ (v2 v3 v4 : Option V), σ = [some (.ref a), some (.ref e), v2, v3, v4] ∧ Same H H' ∧ ∀ (j x : Nat), j < i → S[j]? = some x → Closed P x (S.drop j))
      ⟨none, none, none, rfl, Same.refl _, fun j x hj => absurd hj (Nat.not_lt_zero _)⟩ (fun i σ H' _ ⟨_, _, _, _, sm, _⟩ => tsame sm hS) ?_ ?_⟩
    · rintro i y σ H1 H2 hi ⟨v2, v3, v4, rfl, sm, hc⟩ ⟨T, y1, y2, rfl, nT, rfl, e1, e2⟩
      have e1 : nV i = y1 := Option.some.inj e1
      obtain ⟨x, hx, rfl⟩ := lV_of e2
      subst e1
      have hil : i < S.length := by rw [← lV_len]; exact hi
      have s1 : Same H1 (upd H1 T (.tup [nV i, nV x])) := same_upd nT
      have ht2 : upd H1 T (.tup [nV i, nV x]) T = some (.tup [nV i, nV x]) := upd_same
      generalize upd H1 T (.tup [nV i, nV x]) = H2 at s1 ht2
      have sm2 : Same H H2 := sm.trans s1
      have hxd : x ∈ S.drop i := by
        rw [List.mem_iff_getElem?]
        exact ⟨0, by rw [List.getElem?_drop]; exact hx⟩
      have call : ∀ (H3 : Hp) (al : Addr), Same H2 H3 → SqT K H3 al (lV (S.drop i)) → spWB K [.ref a, nV x, .ref al] H3 (fun v H4 => gName 4 v [some (.ref a), some (.ref e), some (nV i), some (nV x), v4] H4 fun σ' H' => (tIfS (tB (tNotN (tVar 4))) (tRet (tVar 4)) tNext) { nx := fun σ H' => ∃ (v2 v3 v4 : Option V), σ = [some (.ref a), some (.ref e), v2, v3, v4] ∧ Same H H' ∧ ∀ (j x : Nat), j < i + 1 → S[j]? = some x → Closed P x (S.drop j), rt := Q } σ' H') E0 := by
        intro H3 al s23 hal
        refine ⟨a, al, P, x, S.drop i, rfl, hP.same (sm2.trans s23), ok, hal, hxd, fun b hb => hlt b (List.mem_of_mem_drop hb), by rw [List.length_drop]; omega, fun H4 s34 hcl => ?_, fun H4 r s34 hnr => ?_⟩
        · refine ⟨_, rfl, false, rfl, ?_⟩
          refine iteF (A := True) ⟨_, _, _, rfl, sm2.trans (s23.trans s34), fun j z hj hz => ?_⟩
          by_cases ej : j = i
          · subst ej
            rw [hx] at hz; cases hz
            exact hcl
          · exact hc j z (by omega) hz
        · refine ⟨_, rfl, true, rfl, ?_⟩
          refine iteT (B := True) ⟨_, rfl, kR H4 r (sm2.trans (s23.trans s34)) fun ac => hnr (ac.sub fun b hb => List.mem_of_mem_drop hb)⟩
      refine ⟨T, _, rfl, SqT.of ht2, rfl, _, _, rfl, _, _, rfl, rfl, ?_⟩
      refine ⟨_, rfl, _, rfl, _, rfl, _, rfl, (i : Int), rfl, e, _, rfl, tsame sm2 hS, fun hw => ?_, fun _ p np => ?_⟩
      · rw [HT.sIx_nat, lV_len] at hw
        have : i = 0 := by have := hw.1; omega
        subst this
        exact call H2 e (Same.refl _) (tsame sm2 hS)
      · rw [cut_drop S (by omega)]
        exact call _ p (same_upd np) (SqT.of upd_same)
    · rintro σ H1 ⟨v2, v3, v4, rfl, sm, hc⟩
      refine kN H1 sm (all_closed S fun i x hx => hc i x ?_ hx)
      rw [lV_len]
      exact (List.getElem?_eq_some_iff.mp hx).1
end
end K19

/-! part W9 -/
/-! Walks 9: _law_gathered, _law_holds. -/
namespace K19
open PySem PySem.Spec PyProof.Rows L2
theorem scLG : FnScope ["_law_panel_here", "_law_words_here", "_law_found", "_law_helpers", "_law_at", "_law_other", "_law_button", "_law_word", "_law_one"] ["_law_panel_here", "_law_words_here"] (defScope sLG) := ⟨rfl, rfl, rfl, by decide +kernel, rfl, by decide +kernel, by decide +kernel⟩
theorem scLH : FnScope ["_law_panel_here", "_law_words_here", "_law_button", "_law_on", "_law_word", "_law_other"] ["_law_panel_here", "_law_words_here"] (defScope sLH) := ⟨rfl, rfl, rfl, by decide +kernel, rfl, by decide +kernel, by decide +kernel⟩
def spLG (K : PySem.W.Frag) : Sp := fun vs H Q _ => ∃ (a e : Addr) (P : Pan) (w : List W), vs = [.ref a, .ref e] ∧ PT' H P a ∧ PanOk P ∧ WS K H w e ∧ w.length = P.length ∧ P.length ≤ 100 ∧
  ∀ H' r g, Same H H' → LN H' g r → g.Nodup → (∀ b, b ∈ g ↔ Gat P w b) → Q (.ref r) H'
def spLH : Sp := fun vs H Q _ => ∃ (a e : Addr) (P : Pan) (w : List W), vs = [.ref a, .ref e] ∧ PT' H P a ∧ PanOk P ∧ WF H w e ∧ w.length = P.length ∧ P.length ≤ 100 ∧
  ∀ H' (b : Bool), Same H H' → (b = true ↔ Cond P w) → Q (.bl b) H'
theorem free_words {P : Pan} {w : List W} {o : Nat} : inV (wV .same) (strV ((rel P o).map (wd w))) = true ↔ ¬ Free P w o := by
  rw [inV_word, decide_eq_true_iff, List.mem_map]
  constructor
  · rintro ⟨b, hb, e⟩ f
    exact f b hb e
  · intro h
    exact Classical.byContradiction fun z => h fun b hb e => z ⟨b, hb, e⟩
section
variable {P_ : Program} {w_ : World} {K : PySem.W.Frag} {mg : Str → Option Value} {base : Heap}
/-- [words[one] for one in panel[o]]: the words of what o releases -/
theorem lc_words {σ : L2.St} {H : Hp} {Q : VK} {b : Addr} {P : Pan} {w : List W} {o sl : Nat} {ti te : TE} (ok : PanOk P) (hl : w.length = P.length) (hn : P.length ≤ 100) (hb : TN H (rel P o) b)
    (hti : ∀ R : VK, R (.ref b) H → ti σ H R)
    (hte : ∀ (c : Nat) (H' : Hp) (R : VK), Same H H' → c < w.length → R (wV (wd w c)) H' → te ((wipe σ [sl]).set sl (some (nV c))) H' R) (hwp : ∀ c : Nat, wipe ((wipe σ [sl]).set sl (some (nV c))) [sl] = wipe σ [sl])
    (k : ∀ H' D, H D = none → Same H H' → H' D = some (.lst (strV ((rel P o).map (wd w)))) → Q (.ref D) H') :
    tLc (iTup K ti) (gName sl) tYes te [sl] σ H Q := by
  refine hti _ ⟨b, rfl, ⟨_, SqT.of hb⟩, fun D hD => ?_⟩
  have hrl : (rel P o).length ≤ P.length := by
    have := (PanOk.nd ok o).length_le_of_subset (l₂ := List.range P.length) fun x hx => List.mem_range.mpr (ok.lt o x hx)
    simpa using this
  refine lc_it (walk_tup (xs := lV (rel P o))) (fun i => At H D (strV (((rel P o).take i).map (wd w)))) (At.start hD) (fun i H' _ z => SqT.of (z.same _ _ hb)) ?_ ?_
  · rintro i y H1 H2 hi z ⟨rfl, hy⟩
    obtain ⟨c, hc, rfl⟩ := lV_of hy
    refine ⟨hwp c, yes_lc (hte c _ _ z.same (by rw [hl]; exact ok.lt o c (List.mem_of_getElem? hc)) ?_)⟩
    refine At.put hD z (Same.refl _) (small ?_) ?_
    · rw [strV_len, List.length_map, List.length_take]; omega
    · rw [List.take_add_one, hc, List.map_append]
      unfold strV
      rw [List.map_append]; rfl
  · intro H1 z
    refine k H1 D hD z.same ?_
    have := z.lst
    rw [lV_len, List.take_length] at this
    exact this
theorem ok_lg {f : Addr} {fd : FuncData} (F : Fun K "_law_gathered" "_law_gathered" sLG f fd) (T : Txt mg) : FnOk P_ w_ K mg base CX0 1 f fd ["_law_panel_here", "_law_words_here"] (spLG K) := by
  refine F.ok scLG (fun vs H Q E h => ?_) (fun cdv A_ outer s H vs Q E hr h => ?_)
  · obtain ⟨a, e, P, w, rfl, _⟩ := h
    rfl
  · obtain ⟨a, e, P, w, rfl, hP, ok, hE, hl, hn, k⟩ := h
    refine ⟨_, pss_cons (ps_par rfl scLG.nd (i := 2) (j := 3) rfl rfl (by decide) rfl rfl (pa_cons (pe_lst pa_nil) (pa_cons
        (pe_lc (own := [("_law_button", 6), ("_law_word", 7)]) (g := gTup K 2 (gCons (gName 6) (gCons (gName 7) gNil))) rfl scLG.nd (pi_enumT (by rfl) T.enum (pa_cons (pv 1) pa_nil))
          (blkOk_by (N := ["_law_panel_here", "_law_words_here", "_law_found", "_law_helpers", "_law_at", "_law_other", "_law_button", "_law_word", "_law_one"]) (sc := defScope sLG) (by decide +kernel))
          (fun _ _ _ _ _ => pg_tup rfl (pgs_cons (pg_name (i := 6) scLG.nd rfl (Or.inl rfl)) (pgs_cons (pg_name (i := 7) scLG.nd rfl (Or.inl rfl)) pgs_nil)))
          (fun _ _ _ _ _ => pts_one (pt_cmpR op_eq (pv 7) pe_str (nomark _)))
          (fun _ _ _ _ _ => pv 6)) pa_nil)) (by rfl))
      (pss_cons (ps_set (i := 4) scLG.nd rfl (.inl rfl) pe_int)
      (pss_cons (ps_while PassesOwn.never (pt_cmpR op_lt (pv 4) (pe_callB call_len_seq (by rfl) T.len PySem.boot_len (pa_cons (pv 3) pa_nil)) (nomark _))
        (pss_cons (ps_for PassesOwn.never rfl (pi_tup (pe_ix ix_tup (pv 0) (pe_ix ix_list (pv 3) (pv 4) (fun _ _ => rfl)) (fun _ _ => rfl))) (pg_name (i := 5) scLG.nd rfl (.inl rfl))
          (pss_one (ps_if (PW.pt (pw_and (pt_cmpR op_eq (pe_ix ix_tup (pv 1) (pv 5) (fun _ _ => rfl)) pe_str (nomark _)) (pw_and1 (pt_cmpR op_notIn_seq (pv 5) (pv 2) (by rfl)))))
            (pss_cons (ps_expr (pe_bm PySem.F.plainAttrs_list PySem.F.slot_list_append PySem.F.type_list_append mt_append (pv 2) (pa_cons (pv 5) pa_nil)))
            (pss_one (ps_if (pt_cmpR op_notIn_seq pe_str (pe_lc (own := [("_law_one", 8)]) (g := gName 8) (tt := tYes) (te := tOp (rIxT K) (tVar 1) (tVar 8)) rfl scLG.nd (pi_tup (pe_ix ix_tup (pv 0) (pv 5) (fun _ _ => rfl)))
                (blkOk_by (N := ["_law_panel_here", "_law_words_here", "_law_found", "_law_helpers", "_law_at", "_law_other", "_law_button", "_law_word", "_law_one"]) (sc := defScope sLG) (by decide +kernel))
                (fun _ _ _ _ _ => pg_name (i := 8) scLG.nd rfl (Or.inl rfl)) (fun _ _ _ _ _ => pts_nil)
                (fun _ _ _ _ _ => pe_ix ix_tup (pv 1) (pv 8) (fun _ _ => rfl))) (by rfl))
              (pss_one (ps_expr (pe_bm PySem.F.plainAttrs_list PySem.F.slot_list_append PySem.F.type_list_append mt_append (pv 3) (pa_cons (pv 5) pa_nil)))) pss_nil))) pss_nil)))
        (pss_one (ps_set (i := 4) scLG.nd rfl (.inl rfl) (pe_op op_add (pv 4) pe_int)))))
      (pss_one (ps_ret (pv 2))))), ?_⟩
    -- found, helpers
    refine ⟨Nat.zero_le _, fun Fo hFo => ?_⟩
    have sF : Same H (upd H Fo (.lst [])) := same_upd hFo
    have f1 : LN (upd H Fo (.lst [])) [] Fo := upd_same
    generalize upd H Fo (.lst []) = H1 at sF f1
    refine ⟨.ref e, rfl, e, strV w, rfl, tsame sF hE, fun He hHe1 => lc_it (walk_enumT (xs := strV w)) (fun i => At H1 He (lV (onL w i))) (At.start hHe1) (fun i H' _ z => tsame z.same (tsame sF hE)) ?_ ?_⟩
    · rintro i x H3 H4 hi z ⟨T, y1, y2, rfl, nT, rfl, e1, e2⟩
      have hi' : i < w.length := by rw [← strV_len]; exact hi
      have e1 : nV i = y1 := Option.some.inj e1
      obtain ⟨x, hx⟩ : ∃ x, w[i]? = some x := ⟨_, List.getElem?_eq_getElem hi'⟩
      have e2 : wV x = y2 := by
        have q : (strV w)[i]? = some y2 := e2
        rw [strV_get, hx] at q
        exact Option.some.inj q
      subst e1 e2
      have s3 : Same H3 (upd H3 T (.tup [nV i, wV x])) := same_upd nT
      refine ⟨T, _, rfl, SqT.of upd_same, rfl, _, _, rfl, _, _, rfl, rfl, rfl, _, rfl, rfl, _, rfl, ?_⟩
      show if decide (wV x = wV .on) = true then _ else _
      rw [wV_dec]
      have hk := on_succ hx
      have hz := on_len w i
      refine ite2 (fun q => ?_) (fun q => ?_)
      · have q := of_decide_eq_true q
        rw [if_pos q] at hk
        exact ⟨_, rfl, At.put hHe1 z s3 (small (by rw [lV_len]; omega)) hk⟩
      · have q : ¬ x = .on := fun z => q (decide_eq_true z)
        rw [if_neg q, List.append_nil] at hk
        rw [hk]
        exact z.next s3
    · intro H2 z
      have hHe : H He = none := same_none sF hHe1
      have hHF : He ≠ Fo := fun w => by rw [w, f1] at hHe1; cases hHe1
      have z2 : LN H2 (onL w w.length) He := by
        have := z.lst
        rw [strV_len] at this
        exact this
      have s2 : Same H H2 := sF.trans z.same
      have f2 : LN H2 [] Fo := z.same _ _ f1
      refine ⟨_, _, rfl, ?_⟩
      refine ⟨fun m σ H' => ∃ (found helpers : List Nat) (at_ : Nat) (v5 : Option V), σ = [some (.ref a), some (.ref e), some (.ref Fo), some (.ref He), some (nV at_), v5, none, none, none] ∧ Same H H' ∧ LN H' found Fo ∧ LN H' helpers He ∧ LI P w found helpers at_ ∧ m = 2 * w.length + 1 - at_,
        ⟨_, [], onL w w.length, 0, none, rfl, s2, f2, z2, .start (fun b => mem_on) (on_len w w.length), rfl⟩, ?_⟩
      rintro m σ H3 ⟨found, helpers, at_, v5, rfl, sm, hf, hh, li, rfl⟩
      refine ⟨_, rfl, .ref He, rfl, He, _, rfl, .inl (SqL.of hh), _, _, rfl, rfl, _, rfl, ?_⟩
      rw [lV_len]
      have lsz := li.size
      have lle := li.le
      refine ite2 (fun q => ?_) (fun q => ?_)
      · have q : at_ < helpers.length := by have := of_decide_eq_true q; omega
        obtain ⟨c, hc⟩ : ∃ c, helpers[at_]? = some c := ⟨_, List.getElem?_eq_getElem q⟩
        have hcl : c < P.length := by
          rcases li.hp c (List.mem_of_getElem? hc) with z | ⟨z, _⟩
          · rw [← hl]; exact wd_lt (by unfold isOn at z; rw [z]; intro z; cases z)
          · rw [← hl]; exact wd_lt (by have z := z.off; unfold isOff at z; rw [z]; intro z; cases z)
        refine ⟨fun σ' H' => ∃ (found' helpers' : List Nat) (at' : Nat) (v5 : Option V), σ' = [some (.ref a), some (.ref e), some (.ref Fo), some (.ref He), some (nV at'), v5, none, none, none] ∧ Same H H' ∧ LN H' found' Fo ∧ LN H' helpers' He ∧ LI P w found' helpers' at' ∧ 2 * w.length + 1 - at' < 2 * w.length + 1 - at_,
          fun σ' H' ⟨f', h', a', x5, g1, g2, g3, g4, g5, g6⟩ => ⟨_, g6, f', h', a', x5, g1, g2, g3, g4, g5, rfl⟩, ?_⟩
        obtain ⟨as, b, h1, h2, h3⟩ := (hP.same sm).at hcl
        refine ⟨_, rfl, _, rfl, _, rfl, He, _, (at_ : Int), nV c, rfl, rfl, SqL.of hh, atI_nat (lV_get hc), a, _, _, _, rfl, rfl, SqT.of h1, h2, b, rfl, ⟨_, SqT.of h3⟩, ?_⟩
        refine for_tup (K := K) (a := b) (xs := lV (rel P c)) (fun i σ H' => ∃ (found' helpers' : List Nat) (v5 : Option V), σ = [some (.ref a), some (.ref e), some (.ref Fo), some (.ref He), some (nV at_), v5, none, none, none] ∧ Same H H' ∧ TN H' (rel P c) b ∧ LN H' found' Fo ∧ LN H' helpers' He ∧ LII P w found' helpers' at_ c ((rel P c).take i))
          ⟨found, helpers, _, rfl, sm, h3, hf, hh, li.enter hc⟩ (fun i σ H' _ ⟨_, _, _, _, _, q, _⟩ => SqT.of q) ?_ ?_
        · rintro i y σ H4 hi ⟨found', helpers', v5, rfl, sm4, hb4, hf4, hh4, lii⟩
          obtain ⟨o, ho, rfl⟩ := lV_of hi
          have hor : o ∈ rel P c := List.mem_of_getElem? ho
          have hol : o < P.length := ok.lt c o hor
          have htk : (rel P c).take (i + 1) = (rel P c).take i ++ [o] := by rw [List.take_add_one, ho]; rfl
          refine ⟨_, rfl, _, rfl, e, _, _, _, rfl, rfl, tsame sm4 hE, atI_word (by omega), rfl, _, rfl, ?_⟩
          show if decide (wV (wd w o) = wV .off) = true then _ else _
          rw [wV_dec]
          refine ite2 (fun q => ?_) (fun q => ?_)
          · have q : isOff w o := of_decide_eq_true (p := wd w o = .off) q
            refine ⟨_, rfl, _, rfl, Fo, _, rfl, .inl (SqL.of hf4), rfl, lV_flat _, _, rfl, ?_⟩
            have e2 : (if true = true then !inV (nV o) (lV found') else inV (nV o) (lV found')) = !decide (o ∈ found') := by rw [if_pos rfl, inV_nat]
            rw [e2]
            refine ite2 (fun qf => ?_) (fun qf => ?_)
            · have qf : o ∉ found' := by simpa using qf
              have fsz : found'.length ≤ w.length := by
                have := lii.li.nd.length_le_of_subset (l₂ := List.range w.length) fun b hb => List.mem_range.mpr (wd_lt (by have := (lii.li.gg b hb).off; unfold isOff at this; rw [this]; intro z; cases z))
                simpa using this
              have hsz := lii.li.size
              refine ⟨_, rfl, .inl ⟨rfl, _, SqL.of hf4⟩, _, rfl, Fo, _, _, rfl, rfl, hf4, small (by rw [lV_len]; omega), ?_⟩
              have s5 : Same H (upd H4 Fo (.lst (lV found' ++ [nV o]))) := same_put sm4 hFo
              have hf5 : LN (upd H4 Fo (.lst (lV found' ++ [nV o]))) (found' ++ [o]) Fo := by
                show upd _ _ _ Fo = some (.lst (List.map nV (found' ++ [o])))
                rw [upd_same, List.map_append]; rfl
              have hh5 : LN (upd H4 Fo (.lst (lV found' ++ [nV o]))) helpers' He := by
                show upd _ _ _ He = _
                rw [upd_ne hHF]; exact hh4
              have hb5 : TN (upd H4 Fo (.lst (lV found' ++ [nV o]))) (rel P c) b := TK.put hf4 (fun _ z => by cases z) _ _ hb4
              generalize upd H4 Fo (.lst (lV found' ++ [nV o])) = H5 at s5 hf5 hh5 hb5
              obtain ⟨as5, b5, k1, k2, k3⟩ := (hP.same s5).at hol
              dsimp only [tIfS, tTest, tOp, tC]
              refine lc_words (w := w) (sl := 8) (o := o) ok hl hn k3 ?_ ?_ ?_ ?_
              · exact fun R hR => ⟨_, rfl, _, rfl, a, _, _, _, rfl, rfl, SqT.of k1, k2, hR⟩
              · exact fun c' H' R s' hc' hR => ⟨_, rfl, _, rfl, e, _, _, _, rfl, rfl, tsame (s5.trans s') hE, atI_word hc', hR⟩
              · exact fun _ => rfl
              intro H6 D hD s56 hD6
              have s6 : Same H H6 := s5.trans s56
              have hf6 : LN H6 (found' ++ [o]) Fo := s56 _ _ hf5
              have hh6 : LN H6 helpers' He := s56 _ _ hh5
              have hb6 : TN H6 (rel P c) b := s56 _ _ hb5
              refine ⟨D, _, rfl, .inl (SqL.of hD6), rfl, strV_flat _, _, rfl, ?_⟩
              show if (if true = true then !inV (wV .same) (strV ((rel P o).map (wd w))) else inV (wV .same) (strV ((rel P o).map (wd w)))) = true then _ else _
              rw [if_pos (rfl : true = true)]
              refine ite2 (fun qs => ?_) (fun qs => ?_)
              · have fr : Free P w o := Classical.byContradiction fun z => by rw [free_words.mpr z] at qs; cases qs
                refine ⟨_, rfl, .inl ⟨rfl, _, SqL.of hh6⟩, _, rfl, He, _, _, rfl, rfl, hh6, small (by rw [lV_len]; omega), ?_⟩
                refine ⟨found' ++ [o], helpers' ++ [o], _, rfl, same_put s6 hHe, TK.put hh6 (fun _ z => by cases z) _ _ hb6, ?_, ?_, ?_⟩
                · show upd _ _ _ Fo = _
                  rw [upd_ne hHF.symm]; exact hf6
                · show upd _ _ _ He = some (.lst (List.map nV (helpers' ++ [o])))
                  rw [upd_same, List.map_append]; rfl
                · rw [htk]; exact lii.add hor q qf (.inl ⟨fr, rfl⟩)
              · have fr : ¬ Free P w o := fun z => by
                  refine qs ?_
                  cases e : inV (wV .same) (strV ((rel P o).map (wd w))) with
                  | true => exact absurd z (free_words.mp e)
                  | false => rfl
                refine ⟨found' ++ [o], helpers', _, rfl, s6, hb6, hf6, hh6, ?_⟩
                have := lii.add hor q qf (.inr ⟨fr, rfl⟩)
                rw [List.append_nil] at this
                rw [htk]; exact this
            · have qf : o ∈ found' := Classical.byContradiction fun z => qf (by rw [decide_eq_false z]; rfl)
              exact ⟨found', helpers', _, rfl, sm4, hb4, hf4, hh4, by rw [htk]; exact lii.skip fun _ => qf⟩
          · have q : ¬ isOff w o := fun z => q (decide_eq_true (p := wd w o = .off) z)
            refine iteF (A := True) ?_
            exact ⟨found', helpers', _, rfl, sm4, hb4, hf4, hh4, by rw [htk]; exact lii.skip fun z => absurd z q⟩
        · rintro σ H4 ⟨found', helpers', v5, rfl, sm4, hb4, hf4, hh4, lii⟩
          rw [lV_len, List.take_length] at lii
          refine ⟨_, rfl, _, _, rfl, rfl, ?_⟩
          have lv := lii.leave
          have := lv.size
          have := lv.le
          exact ⟨found', helpers', at_ + 1, _, rfl, sm4, hf4, hh4, lv, by omega⟩
      · have q : helpers.length ≤ at_ := by
          rcases Nat.lt_or_ge at_ helpers.length with z | z
          · exact absurd (decide_eq_true (by omega)) q
          · exact z
        exact ⟨_, rfl, k H3 Fo found sm hf li.nd fun b => ⟨li.gg b, li.done q⟩⟩
theorem ok_lh {f fR fG : Addr} {fd fdR fdG : FuncData} (F : Fun K "_law_holds" "_law_holds" sLH f fd) (T : Txt mg)
    (FR : Fun K "find_round" "find_round" sFR fR fdR) (bR : Binds K fdR ["panel", "state"] []) (gR : mg "find_round" = some (.ref fR)) (GR : FnOk P_ w_ K mg base CX0 2 fR fdR ["panel", "state"] (spFR K))
    (FG : Fun K "_law_gathered" "_law_gathered" sLG fG fdG) (bG : Binds K fdG ["_law_panel_here", "_law_words_here"] []) (gG : mg "_law_gathered" = some (.ref fG)) :
    FnOk P_ w_ K mg base CX0 3 f fd ["_law_panel_here", "_law_words_here"] spLH := by
  have GG : FnOk P_ w_ K mg base CX0 1 fG fdG ["_law_panel_here", "_law_words_here"] (spLG K) := ok_lg FG T
  refine F.ok scLH (fun vs H Q E h => ?_) (fun cdv A_ outer s H vs Q E hr h => ?_)
  · obtain ⟨a, e, P, w, rfl, _⟩ := h
    rfl
  · obtain ⟨a, e, P, w, rfl, hP, ok, hE, hl, hn, k⟩ := h
    have hr1 : Room 1 _ := hr.mono (by decide)
    refine ⟨_, pss_cons (ps_set (i := 3) scLH.nd rfl (.inl rfl) (pe_callTy call_tuple_of (by rfl) T.tuple PyProof.Rows.boot_tuple (pa_cons
        (pe_lc (own := [("_law_button", 2), ("_law_word", 4)]) (g := gTup K 2 (gCons (gName 2) (gCons (gName 4) gNil))) rfl scLH.nd (pi_enumT (by rfl) T.enum (pa_cons (pv 1) pa_nil))
          (blkOk_by (N := ["_law_panel_here", "_law_words_here", "_law_button", "_law_on", "_law_word", "_law_other"]) (sc := defScope sLH) (by decide +kernel))
          (fun _ _ _ _ _ => pg_tup rfl (pgs_cons (pg_name (i := 2) scLH.nd rfl (Or.inl rfl)) (pgs_cons (pg_name (i := 4) scLH.nd rfl (Or.inl rfl)) pgs_nil)))
          (fun _ _ _ _ _ => pts_one (pt_cmpR op_eq (pv 4) pe_str (nomark _)))
          (fun _ _ _ _ _ => pv 2)) pa_nil)))
      (pss_cons (ps_if (pt_cmp (pc_notN (pe_call GR hr (by rfl) gR FR.kp bR .nil pass0 (pa_cons (pv 0) (pa_cons (pv 3) pa_nil))))) (pss_one (ps_ret pe_bl)) pss_nil)
      (pss_cons (ps_for PassesOwn.never rfl (pi_tup (pv 3)) (pg_name (i := 2) scLH.nd rfl (.inl rfl))
        (pss_one (ps_if (pt_cmpR op_in_seq pe_str (pe_lc (own := [("_law_other", 5)]) (g := gName 5) (tt := tYes) (te := tOp (rIxT K) (tVar 1) (tVar 5)) rfl scLH.nd (pi_tup (pe_ix ix_tup (pv 0) (pv 2) (fun _ _ => rfl)))
            (blkOk_by (N := ["_law_panel_here", "_law_words_here", "_law_button", "_law_on", "_law_word", "_law_other"]) (sc := defScope sLH) (by decide +kernel))
            (fun _ _ _ _ _ => pg_name (i := 5) scLH.nd rfl (Or.inl rfl)) (fun _ _ _ _ _ => pts_nil)
            (fun _ _ _ _ _ => pe_ix ix_tup (pv 1) (pv 5) (fun _ _ => rfl))) (by rfl)) (pss_one (ps_ret pe_bl)) pss_nil)))
      (pss_one (ps_ret (pe_cmpR op_eq (pe_callB call_len_seq (by rfl) T.len PySem.boot_len (pa_cons (pe_call GG hr1 (by rfl) gG FG.kp bG .nil pass0 (pa_cons (pv 0) (pa_cons (pv 1) pa_nil))) pa_nil))
        (pe_bmF PySem.F.slot_tuple_count PySem.F.type_tuple_count mt_tcountS (pv 1) (pa_cons pe_str pa_nil)) (nomark _)))))), ?_⟩
    -- on
    refine ⟨.ref e, rfl, e, strV w, rfl, hE.sq, fun D hD => lc_it (walk_enumT (xs := strV w)) (fun i => At H D (lV (onL w i))) (At.start hD) (fun i H' _ z => tsame z.same hE.sq) ?_ ?_⟩
    · rintro i x H3 H4 hi z ⟨T, y1, y2, rfl, nT, rfl, e1, e2⟩
      have hi' : i < w.length := by rw [← strV_len]; exact hi
      have e1 : nV i = y1 := Option.some.inj e1
      obtain ⟨x, hx⟩ : ∃ x, w[i]? = some x := ⟨_, List.getElem?_eq_getElem hi'⟩
      have e2 : wV x = y2 := by
        have q : (strV w)[i]? = some y2 := e2
        rw [strV_get, hx] at q
        exact Option.some.inj q
      subst e1 e2
      have s3 : Same H3 (upd H3 T (.tup [nV i, wV x])) := same_upd nT
      refine ⟨T, _, rfl, SqT.of upd_same, rfl, _, _, rfl, _, _, rfl, rfl, rfl, _, rfl, rfl, _, rfl, ?_⟩
      show if decide (wV x = wV .on) = true then _ else _
      rw [wV_dec]
      have hk := on_succ hx
      have hz := on_len w i
      refine ite2 (fun q => ?_) (fun q => ?_)
      · have q := of_decide_eq_true q
        rw [if_pos q] at hk
        exact ⟨_, rfl, At.put hD z s3 (small (by rw [lV_len]; omega)) hk⟩
      · have q : ¬ x = .on := fun z => q (decide_eq_true z)
        rw [if_neg q, List.append_nil] at hk
        rw [hk]
        exact z.next s3
    · intro H1 z
      have zl : LN H1 (onL w w.length) D := by
        have := z.lst
        rw [strV_len] at this
        exact this
      have hol := on_len w w.length
      refine ⟨D, _, rfl, .inl ⟨SqL.of zl, fun tp htp => ?_⟩⟩
      have s2 : Same H (upd H1 tp (.tup (lV (onL w w.length)))) := z.same.trans (same_upd htp)
      have t2 : TN (upd H1 tp (.tup (lV (onL w w.length)))) (onL w w.length) tp := upd_same
      generalize upd H1 tp (.tup (lV (onL w w.length))) = H2 at s2 t2
      have hlt : ∀ b, b ∈ onL w w.length → b < P.length := fun b hb => by
        have hb := mem_on.mp hb
        rw [← hl]; exact wd_lt (by unfold isOn at hb; rw [hb]; intro z; cases z)
      refine ⟨_, rfl, _, rfl, a, tp, P, onL w w.length, rfl, hP.same s2, ok, SqT.of t2, hlt, by omega, fun H3 s23 acy => ?_, fun H3 r s23 nacy => ?_⟩
      · have s3 : Same H H3 := s2.trans s23
        have t3 : TN H3 (onL w w.length) tp := s23 _ _ t2
        refine ⟨false, rfl, iteF (A := True) ?_⟩
        refine ⟨_, rfl, tp, rfl, ⟨_, SqT.of t3⟩, for_tup (K := K) (a := tp) (xs := lV (onL w w.length)) (fun i σ H' => ∃ (v2 : Option V), σ = [some (.ref a), some (.ref e), v2, some (.ref tp), none, none] ∧ Same H H' ∧ TN H' (onL w w.length) tp ∧ ∀ c, c ∈ (onL w w.length).take i → Free P w c)
          ⟨none, rfl, s3, t3, fun c hc => by simp at hc⟩ (fun i σ H' _ ⟨_, _, _, q, _⟩ => SqT.of q) ?_ ?_⟩
        · rintro i y σ H4 hi ⟨v2, rfl, s4, t4, hfr⟩
          obtain ⟨o, ho, rfl⟩ := lV_of hi
          have hom : o ∈ onL w w.length := List.mem_of_getElem? ho
          obtain ⟨as5, b5, k1, k2, k3⟩ := (hP.same s4).at (hlt o hom)
          dsimp only [gName, tIfS, tTest, tOp, tC]
          refine lc_words (w := w) (sl := 5) (o := o) ok hl hn k3 ?_ ?_ ?_ ?_
          · exact fun R hR => ⟨_, rfl, _, rfl, a, _, _, _, rfl, rfl, SqT.of k1, k2, hR⟩
          · exact fun c' H' R s' hc' hR => ⟨_, rfl, _, rfl, e, _, _, _, rfl, rfl, tsame (s4.trans s') hE.sq, atI_word hc', hR⟩
          · exact fun _ => rfl
          intro H6 D hD s46 hD6
          have s6 : Same H H6 := s4.trans s46
          have t6 : TN H6 (onL w w.length) tp := s46 _ _ t4
          refine ⟨D, _, rfl, .inl (SqL.of hD6), rfl, strV_flat _, _, rfl, ?_⟩
          show if (if false = true then !inV (wV .same) (strV ((rel P o).map (wd w))) else inV (wV .same) (strV ((rel P o).map (wd w)))) = true then _ else _
          rw [if_neg Bool.false_ne_true]
          refine ite2 (fun qs => ?_) (fun qs => ?_)
          · exact k H6 false s6 ⟨fun z => Bool.noConfusion z, fun c => absurd (c.free o (mem_on.mp hom)) (free_words.mp qs)⟩
          · refine ⟨_, rfl, s6, t6, fun c hc => ?_⟩
            rw [List.take_add_one, ho] at hc
            rcases List.mem_append.mp hc with hc | hc
            · exact hfr c hc
            · have e : c = o := by simpa using hc
              rw [e]
              exact Classical.byContradiction fun z => qs (free_words.mpr z)
        · rintro σ H4 ⟨v2, rfl, s4, t4, hfr⟩
          rw [lV_len, List.take_length] at hfr
          refine ⟨_, rfl, _, rfl, a, e, P, w, rfl, hP.same s4, ok, tsame s4 hE.sq, hl, hn, fun H5 r g s45 hg nd hmg => ?_⟩
          have s5 : Same H H5 := s4.trans s45
          refine ⟨r, _, rfl, .inl (SqL.of hg), _, rfl, ⟨e, strV w, rfl, hE.same s5⟩, e, w.map strW, _, rfl, rfl, ?_, rfl, ?_⟩
          · rw [List.map_map]; exact tsame s5 hE.sq
          · show Q (V.bl (decide (V.int ((lV g).length : Int) = V.int (((w.map strW).count (strW .off) : Nat) : Int)))) H5
            rw [str_count, lV_len]
            refine k H5 _ s5 ?_
            have ec := count_gat nd (fun b hb => (hmg b).mp hb) (fun b hb => (hmg b).mpr hb)
            rw [decide_eq_true_iff]
            constructor
            · intro h
              have : g.length = w.count .off := by have := V.int.inj h; omega
              exact ⟨acy_on.mp acy, fun c hc => hfr c (mem_on.mpr hc), ec.mp this⟩
            · intro c
              rw [ec.mpr c.gat]
      · refine ⟨true, rfl, iteT (B := True) ?_⟩
        exact k H3 false (s2.trans s23) ⟨fun z => Bool.noConfusion z, fun c => absurd (acy_on.mpr c.acy) nacy⟩
end
end K19

/-! part W10 -/
/-! Walks 10: _law_all_words. -/
namespace K19
open PySem PySem.Spec PyProof.Rows L2
theorem scLA : FnScope ["_law_n", "_law_found", "_law_button", "_law_longer", "_law_words_here", "_law_word"] ["_law_n"] (defScope sLA) := ⟨rfl, rfl, rfl, by decide +kernel, rfl, by decide +kernel, by decide +kernel⟩
/-- all that is no list stays -/
def IK (H H' : Hp) : Prop := ∀ b o, H b = some o → (∀ xs, o ≠ .lst xs) → H' b = some o
theorem IK.of {H H' : Hp} (s : Same H H') : IK H H' := fun b _ e _ => s b _ e
theorem IK.trans {H H1 H2 : Hp} (a : IK H H1) (b : IK H1 H2) : IK H H2 := fun c _ e n => b c _ (a c _ e n) n
theorem IK.put {H : Hp} {a : Addr} {o : HO} {l : List V} (h : H a = some (.lst l)) : IK H (upd H a o) := fun b x e n => by
  have : b ≠ a := fun z => by rw [z, h] at e; exact n l (Option.some.inj e).symm
  rw [upd_ne this]; exact e
theorem IK.wf {H H' : Hp} (t : IK H H') {w : List W} {b : Addr} (h : WF H w b) : WF H' w b := let ⟨its, e⟩ := h; ⟨its, t _ _ e fun _ z => by cases z⟩
theorem IK.wfs {H H' : Hp} (t : IK H H') {E : List (List W)} {bs : List Addr} (h : Paired (WF H) E bs) : Paired (WF H') E bs := paired_mono h fun _ _ q => t.wf q
def spLA : Sp := fun vs H Q _ => ∃ (n : Nat), vs = [nV n] ∧ n ≤ 7 ∧ ∀ H' r bs, Same H H' → H' r = some (.lst (bs.map V.ref)) → Paired (WF H') (allW n) bs → Q (.ref r) H'
def three (w : List W) : List (List W) := [w ++ [.off], w ++ [.on], w ++ [.same]]
theorem three_at (w : List W) : three w = [W.off, .on, .same].map fun x => w ++ [x] := rfl
theorem flat_succ {E : List (List W)} {j : Nat} {w : List W} (h : E[j]? = some w) : (E.take (j + 1)).flatMap three = (E.take j).flatMap three ++ three w := by
  rw [List.take_add_one, h, List.flatMap_append]
  congr 1
theorem strV_app (a b : List W) : strV (a ++ b) = strV a ++ strV b := List.map_append
section
variable {P_ : Program} {w_ : World} {K : PySem.W.Frag} {mg : Str → Option Value} {base : Heap}
theorem ok_la {f : Addr} {fd : FuncData} (F : Fun K "_law_all_words" "_law_all_words" sLA f fd) (T : Txt mg) : FnOk P_ w_ K mg base CX0 1 f fd ["_law_n"] spLA := by
  refine F.ok scLA (fun vs H Q E h => ?_) (fun cdv A_ outer s H vs Q E hr h => ?_)
  · obtain ⟨n, rfl, _⟩ := h
    rfl
  · obtain ⟨n, rfl, hn, k⟩ := h
    refine ⟨_, pss_cons (ps_set (i := 1) scLA.nd rfl (.inl rfl) (pe_lst (pa_cons (pe_tupF pa_nil) pa_nil)))
      (pss_cons (ps_for PassesOwn.never rfl (pi_range1 (by rfl) T.range (pa_cons (pv 0) pa_nil)) (pg_name (i := 2) scLA.nd rfl (.inl rfl))
        (pss_cons (ps_set (i := 3) scLA.nd rfl (.inl rfl) (pe_lst pa_nil))
        (pss_cons (ps_for PassesOwn.never rfl (pi_list (pv 1)) (pg_name (i := 4) scLA.nd rfl (.inr rfl))
          (pss_one (ps_expr (pe_bm PySem.F.plainAttrs_list PySem.F.slot_list_extend PySem.F.type_list_extend mt_extend (pv 3) (pa_cons
            (pe_lc (own := [("_law_word", 5)]) (g := gName 5) (tt := tYes) (te := tOp (rCatF K) (tVar 4) (tTupF (tCons (tVar 5) tNil))) rfl scLA.nd (pi_tup (pe_tup (pa_cons pe_str (pa_cons pe_str (pa_cons pe_str pa_nil)))))
              (blkOk_by (N := ["_law_n", "_law_found", "_law_button", "_law_longer", "_law_words_here", "_law_word"]) (sc := defScope sLA) (by decide +kernel))
              (fun _ _ _ _ _ => pg_name (i := 5) scLA.nd rfl (Or.inl rfl)) (fun _ _ _ _ _ => pts_nil)
              (fun _ _ _ _ _ => pe_op op_catF (pv 4) (pe_tupF (pa_cons (pv 5) pa_nil)))) pa_nil)))))
        (pss_one (ps_set (i := 1) scLA.nd rfl (.inl rfl) (pv 3))))))
      (pss_one (ps_ret (pv 1)))), ?_⟩
    -- found = [()]
    refine ⟨Nat.zero_le _, fun t0 its0 ht0 => ⟨by show 1 ≤ sizeLine; decide, fun F0 hF0 => ?_⟩⟩
    have s0 : Same H (upd H t0 (.frz (tupObj its0) (.tup []))) := same_upd ht0
    have s01 : Same (upd H t0 (.frz (tupObj its0) (.tup []))) (upd (upd H t0 (.frz (tupObj its0) (.tup []))) F0 (.lst [.ref t0])) := same_upd hF0
    have w0 : WF (upd (upd H t0 (.frz (tupObj its0) (.tup []))) F0 (.lst [.ref t0])) [] t0 := ⟨its0, s01 _ _ upd_same⟩
    have f0 : upd (upd H t0 (.frz (tupObj its0) (.tup []))) F0 (.lst [.ref t0]) F0 = some (.lst ([t0].map V.ref)) := upd_same
    have s1 := s0.trans s01
    generalize upd (upd H t0 (.frz (tupObj its0) (.tup []))) F0 (.lst [.ref t0]) = H1 at s1 w0 f0
    refine ⟨_, rfl, (n : Int), rfl, by omega, by omega, ?_⟩
    rw [Int.toNat_natCast]
    refine for_it (walk_rng0 (n := n)) (fun i σ H' => ∃ (Fo : Addr) (bs : List Addr) (v2 v3 v4 : Option V), σ = [some (nV n), some (.ref Fo), v2, v3, v4, none] ∧ Same H H' ∧ H' Fo = some (.lst (bs.map V.ref)) ∧ Paired (WF H') (allW i) bs)
      ⟨F0, [t0], none, none, none, rfl, s1, f0, .cons w0 .nil⟩ (fun _ _ _ _ _ => trivial) ?_ ?_
    · rintro i x σ H2 H3 hi ⟨Fo, bs, v2, v3, v4, rfl, sm, hf, pw⟩ ⟨rfl, rfl⟩
      -- longer = []
      refine ⟨Nat.zero_le _, fun Lg hLg => ?_⟩
      have sL : Same H3 (upd H3 Lg (.lst [])) := same_upd hLg
      have hLH : H Lg = none := same_none sm hLg
      have hLF : Lg ≠ Fo := fun z => by rw [z, hf] at hLg; cases hLg
      have l4 : upd H3 Lg (.lst []) Lg = some (.lst (([] : List Addr).map V.ref)) := upd_same
      generalize upd H3 Lg (.lst []) = H4 at sL l4
      have hbl : bs.length = 3 ^ i := by rw [← Paired.length pw, allW_len]
      have hp7 : 3 ^ i ≤ 2187 := pow_le (by omega)
      refine ⟨_, rfl, Fo, rfl, ⟨_, SqL.of (sL _ _ hf)⟩, for_list (K := K) (a := Fo) (xs := bs.map V.ref) (fun j σ H' => ∃ (cs : List Addr) (v4 : Option V), σ = [some (nV n), some (.ref Fo), some (nV i), some (.ref Lg), v4, none] ∧ Same H H' ∧ H' Fo = some (.lst (bs.map V.ref)) ∧ Paired (WF H') (allW i) bs ∧ H' Lg = some (.lst (cs.map V.ref)) ∧ Paired (WF H') (((allW i).take j).flatMap three) cs ∧ cs.length ≤ 3 * j)
        ⟨[], _, rfl, sm.trans sL, sL _ _ hf, (IK.of sL).wfs pw, l4, .nil, Nat.le_refl _⟩ (fun j σ H' _ ⟨_, _, _, _, q, _⟩ => SqL.of q) ?_ ?_⟩
      · rintro j y σ H5 hj ⟨cs, v4, rfl, sm5, hf5, pw5, hl5, pc5, hcl⟩
        have hjl : j < bs.length := by
          have := (List.getElem?_eq_some_iff.mp hj).1
          rw [List.length_map] at this; exact this
        obtain ⟨b, hb, rfl⟩ : ∃ b, bs[j]? = some b ∧ y = V.ref b := by
          rw [List.getElem?_map] at hj
          cases e : bs[j]? with
          | none => rw [e] at hj; cases hj
          | some b => rw [e] at hj; exact ⟨b, rfl, (Option.some.inj hj).symm⟩
        obtain ⟨w, hw⟩ : ∃ w, (allW i)[j]? = some w := ⟨_, List.getElem?_eq_getElem (by rw [Paired.length pw5]; exact hjl)⟩
        obtain ⟨b', hb', hwb⟩ := paired_get pw5 hw
        rw [hb] at hb'
        cases hb'
        have hwl : w.length = i := mem_allW.mp (List.mem_of_getElem? hw)
        -- longer.extend([..])
        refine ⟨_, rfl, .inl ⟨rfl, _, SqL.of hl5⟩, by show 3 ≤ sizeLine; decide, fun t3 ht3 => ?_⟩
        have s6 : Same H5 (upd H5 t3 (.tup (strV [.off, .on, .same]))) := same_upd ht3
        have h6 : upd H5 t3 (.tup (strV [.off, .on, .same])) t3 = some (.tup (strV [.off, .on, .same])) := upd_same
        have hb6 : WF (upd H5 t3 (.tup (strV [.off, .on, .same]))) w b := hwb.same s6
        have hl6 : upd H5 t3 (.tup (strV [.off, .on, .same])) Lg = some (.lst (cs.map V.ref)) := s6 _ _ hl5
        refine ⟨t3, rfl, ⟨_, SqT.of h6⟩, fun D hD => lc_it (walk_tup (xs := strV [.off, .on, .same])) (fun l H' => ∃ ds : List Addr, At (upd H5 t3 (.tup (strV [.off, .on, .same]))) D (ds.map V.ref) H' ∧ Paired (WF H') (([W.off, .on, .same].take l).map fun x => w ++ [x]) ds) ⟨[], At.start hD, .nil⟩ (fun l H' _ ⟨_, z, _⟩ => SqT.of (z.same _ _ h6)) ?_ ?_⟩
        · rintro l y H7 H8 hll ⟨ds, z, pd⟩ ⟨rfl, hy⟩
          obtain ⟨x, hx, rfl⟩ : ∃ x, [W.off, .on, .same][l]? = some x ∧ y = wV x := by
            rw [strV_get] at hy
            cases q : [W.off, .on, .same][l]? with
            | none => rw [q] at hy; cases hy
            | some x => rw [q] at hy; exact ⟨x, rfl, (Option.some.inj hy).symm⟩
          have dl : ds.length ≤ 3 := by
            have := Paired.length pd
            rw [List.length_map, List.length_take] at this
            have : [W.off, .on, .same].length = 3 := rfl
            omega
          have fin : ∀ (H9 : Hp) (q : Addr), Same H8 H9 → WF H9 (w ++ [x]) q → ∃ acc, H9 D = some (.lst acc) ∧ acc.length < sizeLine ∧ ∃ ds' : List Addr, At (upd H5 t3 (.tup (strV [.off, .on, .same]))) D (ds'.map V.ref) (upd H9 D (.lst (acc ++ [V.ref q]))) ∧ Paired (WF (upd H9 D (.lst (acc ++ [V.ref q])))) (([W.off, .on, .same].take (l + 1)).map fun x => w ++ [x]) ds' := by
            intro H9 q s89 hq
            have ld : H9 D = some (.lst (ds.map V.ref)) := s89 _ _ z.lst
            have ik : IK H9 (upd H9 D (.lst (ds.map V.ref ++ [V.ref q]))) := IK.put ld
            refine ⟨ds.map V.ref, ld, small (by rw [List.length_map]; omega), ds ++ [q], ⟨same_put (z.same.trans s89) hD, by rw [upd_same, List.map_append]; rfl⟩, ?_⟩
            rw [List.take_add_one, hx, List.map_append]
            exact paired_app (ik.wfs ((IK.of s89).wfs pd)) (.cons (ik.wf hq) .nil)
          refine ⟨rfl, yes_lc ⟨_, rfl, _, rfl, by show 1 ≤ sizeLine; decide, fun tq its htq => ?_⟩⟩
          have s9 : Same H8 (upd H8 tq (.frz (tupObj its) (.tup [wV x]))) := same_upd htq
          have q9 : WF (upd H8 tq (.frz (tupObj its) (.tup [wV x]))) [x] tq := ⟨its, upd_same⟩
          have b9 : WF (upd H8 tq (.frz (tupObj its) (.tup [wV x]))) w b := (hb6.same z.same).same s9
          refine ⟨b, tq, strV w, [wV x], rfl, rfl, b9.sq, q9.sq, (fun z => by cases z), ?_, fun e0 => ?_, fun _ p its2 hp => ?_⟩
          · rw [strV_len]
            exact Nat.le_of_lt (small (by show w.length + 1 ≤ _; omega))
          · have e0 : w = [] := by
              cases w with
              | nil => rfl
              | cons c r => cases e0
            refine fin _ tq s9 ?_
            rw [e0]; exact q9
          · refine fin _ p (s9.trans (same_upd hp)) ⟨its2, ?_⟩
            rw [upd_same, strV_app]; rfl
        · rintro H7 ⟨ds, z, pd⟩
          have ed : ([W.off, .on, .same].take (strV [W.off, .on, .same]).length).map (fun x => w ++ [x]) = three w := rfl
          rw [ed] at pd
          have s57 : Same H5 H7 := s6.trans z.same
          have hl7 : H7 Lg = some (.lst (cs.map V.ref)) := s57 _ _ hl5
          have dl : ds.length = 3 := (Paired.length pd).symm
          have ik : IK H7 (upd H7 Lg (.lst (cs.map V.ref ++ ds.map V.ref))) := IK.put hl7
          refine ⟨Lg, D, _, _, rfl, rfl, hl7, z.lst, Nat.le_of_lt (small (by rw [List.length_map, List.length_map]; omega)), ?_⟩
          refine ⟨cs ++ ds, _, rfl, same_put (sm5.trans s57) hLH, by rw [upd_ne hLF.symm]; exact s57 _ _ hf5, ik.wfs ((IK.of s57).wfs pw5), by rw [upd_same, List.map_append], ?_, by rw [List.length_append]; omega⟩
          rw [flat_succ hw]
          exact paired_app (ik.wfs ((IK.of s57).wfs pc5)) (ik.wfs pd)
      · rintro σ H5 ⟨cs, v4, rfl, sm5, hf5, pw5, hl5, pc5, hcl⟩
        rw [show (allW i).take (bs.map V.ref).length = allW i by rw [List.length_map, ← Paired.length pw5, List.take_length]] at pc5
        exact ⟨_, rfl, Lg, cs, _, _, _, rfl, sm5, hl5, pc5⟩
    · rintro σ H2 ⟨Fo, bs, v2, v3, v4, rfl, sm, hf, pw⟩
      exact ⟨_, rfl, k H2 Fo bs sm hf pw⟩
end
end K19

/-! part W11 -/
/-! Walks 11: _law_draws, _law_next. -/
namespace K19
open PySem PySem.Spec PyProof.Rows L2
theorem scLD : FnScope ["_law_script", "_law_cells", "_law_cell"] ["_law_script"] (defScope sLD) := ⟨rfl, rfl, rfl, by decide +kernel, rfl, by decide +kernel, by decide +kernel⟩
theorem scLN : FnScope ["_law_drawn", "_law_many", "_law_cells", "_law_nth", "_law_rests", "_law_spot", "_law_digit", "_law_mixed", "_law_more"] ["_law_drawn", "_law_many"] (defScope sLN) := ⟨rfl, rfl, rfl, by decide +kernel, rfl, by decide +kernel, by decide +kernel⟩
/-- what draws numbers stands at d, its cells at c, the rest of the cells at r; at most N were drawn -/
def DS (d c r : Addr) (N : Nat) (H : Hp) : Prop := ∃ (cs rs : List Int) (nth : Nat), H d = some (.lst [.ref c, nV nth, .ref r]) ∧ H c = some (.lst (cs.map V.int)) ∧ H r = some (.lst (rs.map V.int)) ∧ 1 ≤ cs.length ∧ cs.length ≤ 64 ∧ rs.length = cs.length ∧ nth ≤ N
/-- all but d and r stays -/
def SB (d r : Addr) (H H' : Hp) : Prop := ∀ b o, b ≠ d → b ≠ r → H b = some o → H' b = some o
theorem SB.of {d r : Addr} {H H' : Hp} (s : Same H H') : SB d r H H' := fun b o _ _ e => s b o e
theorem SB.trans {d r : Addr} {H H1 H2 : Hp} (a : SB d r H H1) (b : SB d r H1 H2) : SB d r H H2 := fun x o h1 h2 e => b x o h1 h2 (a x o h1 h2 e)
theorem SB.refl {d r : Addr} (H : Hp) : SB d r H H := fun _ _ _ _ e => e
theorem DS.mono {d c r : Addr} {N M : Nat} {H : Hp} (h : DS d c r N H) (hN : N ≤ M) : DS d c r M H := let ⟨cs, rs, n, a1, a2, a3, a4, a5, a6, a7⟩ := h; ⟨cs, rs, n, a1, a2, a3, a4, a5, a6, Nat.le_trans a7 hN⟩
theorem DS.same {d c r : Addr} {N : Nat} {H H' : Hp} (h : DS d c r N H) (s : Same H H') : DS d c r N H' := let ⟨cs, rs, n, a1, a2, a3, a4⟩ := h; ⟨cs, rs, n, s _ _ a1, s _ _ a2, s _ _ a3, a4⟩
theorem cut63 {ns : List Int} (h : ns.length ≤ 63) : cutV (ns.map V.int) none (some 63) = ns.map V.int := by
  unfold cutV
  rw [HT.sIx_none, show (some (63 : Int)) = some ((63 : Nat) : Int) from rfl, HT.sIx_nat, List.length_map, Nat.min_eq_right h, List.drop_zero]
  exact List.take_of_length_le (by rw [List.length_map]; omega)
theorem rep_ints (n : Nat) : (List.replicate n [V.int 0]).flatten = (List.replicate n (0 : Int)).map V.int := by
  induction n with
  | zero => rfl
  | succ n ih => rw [List.replicate_succ, List.flatten_cons, ih, List.replicate_succ]; rfl
def spLD (K : PySem.W.Frag) : Sp := fun vs H Q _ => ∃ (a : Addr) (ns : List Int), vs = [.ref a] ∧ SqL K H a (ns.map V.int) ∧ ns.length ≤ 63 ∧ ∀ H' d c r, Same H H' → d ≠ c → d ≠ r → c ≠ r → DS d c r 0 H' → Q (.ref d) H'
def spLN : Sp := fun vs H Q _ => ∃ (d c r : Addr) (m N : Nat), vs = [.ref d, nV m] ∧ d ≠ c ∧ d ≠ r ∧ c ≠ r ∧ DS d c r N H ∧ N ≤ 100000 ∧ 1 ≤ m ∧ m ≤ 1000 ∧
  ∀ H' v, SB d r H H' → DS d c r (N + 1) H' → v < m → Q (nV v) H'
section
variable {P_ : Program} {w_ : World} {K : PySem.W.Frag} {mg : Str → Option Value} {base : Heap}
theorem ok_ld {f : Addr} {fd : FuncData} (F : Fun K "_law_draws" "_law_draws" sLD f fd) (T : Txt mg) : FnOk P_ w_ K mg base CX0 1 f fd ["_law_script"] (spLD K) := by
  refine F.ok scLD (fun vs H Q E h => ?_) (fun cdv A_ outer s H vs Q E hr h => ?_)
  · obtain ⟨a, ns, rfl, _⟩ := h
    rfl
  · obtain ⟨a, ns, rfl, hS, hn, k⟩ := h
    refine ⟨_, pss_cons (ps_set (i := 1) scLD.nd rfl (.inl rfl) (pe_op op_cat (pe_callTy call_list_of (by rfl) T.list PyProof.Rows.boot_list (pa_cons (pe_slice sl_list (pv 0) po_none (po_some pe_int)) pa_nil))
        (pe_op op_rep (pe_lst (pa_cons pe_int pa_nil)) (pe_callTy call_int1 (by rfl) T.int PyProof.Rows.boot_int (pa_cons (pe_cmpR op_eq (pe_callB call_len_seq (by rfl) T.len PySem.boot_len (pa_cons (pv 0) pa_nil)) pe_int (nomark _)) pa_nil)))))
      (pss_one (ps_ret (pe_lst (pa_cons (pv 1) (pa_cons pe_int (pa_cons
        (pe_lc (own := [("_law_cell", 2)]) (g := gName 2) (tt := tYes) rfl scLD.nd (pi_list (pv 1))
          (blkOk_by (N := ["_law_script", "_law_cells", "_law_cell"]) (sc := defScope sLD) (by decide +kernel))
          (fun _ _ _ _ _ => pg_name (i := 2) scLD.nd rfl (Or.inl rfl)) (fun _ _ _ _ _ => pts_nil)
          (fun _ _ _ _ _ => pe_op op_mul (pv 2) (pe_callTy call_int1 (by rfl) T.int PyProof.Rows.boot_int (pa_cons (pe_cmpR op_ge (pv 2) (pe_op op_pow pe_int pe_int) (nomark _)) pa_nil)))) pa_nil)))))), ?_⟩
    refine ⟨_, rfl, 63, rfl, a, _, rfl, hS, fun p np => ?_⟩
    rw [cut63 hn]
    have s1 : Same H (upd H p (.lst (ns.map V.int))) := same_upd np
    have p1 : upd H p (.lst (ns.map V.int)) p = some (.lst (ns.map V.int)) := upd_same
    generalize upd H p (.lst (ns.map V.int)) = H1 at s1 p1
    refine ⟨p, _, rfl, .inl (SqL.of p1), fun l nl => ?_⟩
    have s2 : Same H1 (upd H1 l (.lst (ns.map V.int))) := same_upd nl
    have l2 : upd H1 l (.lst (ns.map V.int)) l = some (.lst (ns.map V.int)) := upd_same
    generalize upd H1 l (.lst (ns.map V.int)) = H2 at s2 l2
    have s12 := s1.trans s2
    refine ⟨by show 1 ≤ sizeLine; decide, fun q nq => ?_⟩
    have s3 : Same H2 (upd H2 q (.lst [V.int 0])) := same_upd nq
    have q3 : upd H2 q (.lst [V.int 0]) q = some (.lst [V.int 0]) := upd_same
    generalize upd H2 q (.lst [V.int 0]) = H3 at s3 q3
    have s13 := s12.trans s3
    have l3 : H3 l = some (.lst (ns.map V.int)) := s3 _ _ l2
    refine ⟨_, rfl, a, _, rfl, .inl (s13.seq hS), rfl, .inr ⟨_, rfl, ?_⟩⟩
    have kk : ∃ n : Nat, (if decide (V.int ((ns.map V.int).length : Int) = V.int 0) = true then (1 : Int) else 0) = (n : Int) ∧ n ≤ 1 ∧ 1 ≤ ns.length + n := by
      rw [List.length_map]
      by_cases e : ns.length = 0
      · refine ⟨1, ?_, Nat.le_refl _, by omega⟩
        have h0 : decide (V.int ((0 : Nat) : Int) = V.int 0) = true := decide_eq_true rfl
        rw [e, h0]; rfl
      · refine ⟨0, ?_, by omega, by omega⟩
        rw [decide_eq_false (fun z => e (by have := V.int.inj z; omega))]; rfl
    obtain ⟨n, en, hn1, hn2⟩ := kk
    rw [en]
    refine ⟨q, _, _, rfl, rfl, q3, by omega, by omega, ?_, fun p4 np4 => ?_⟩
    · rw [Int.toNat_natCast]
      show 1 * n ≤ _
      have := small (n := 1 * n) (by omega)
      omega
    rw [Int.toNat_natCast, rep_ints]
    have s4 : Same H3 (upd H3 p4 (.lst ((List.replicate n (0 : Int)).map V.int))) := same_upd np4
    have p4e : upd H3 p4 (.lst ((List.replicate n (0 : Int)).map V.int)) p4 = some (.lst ((List.replicate n (0 : Int)).map V.int)) := upd_same
    generalize upd H3 p4 (.lst ((List.replicate n (0 : Int)).map V.int)) = H4 at s4 p4e
    refine ⟨l, p4, _, _, rfl, rfl, s4 _ _ l3, p4e, Nat.le_of_lt (small (by rw [List.length_map, List.length_map, List.length_replicate]; omega)), fun c nc => ?_⟩
    rw [← List.map_append]
    have hcl : (ns ++ List.replicate n (0 : Int)).length = ns.length + n := by rw [List.length_append, List.length_replicate]
    generalize ns ++ List.replicate n (0 : Int) = cs at hcl
    have s5 : Same H4 (upd H4 c (.lst (cs.map V.int))) := same_upd nc
    have c5 : upd H4 c (.lst (cs.map V.int)) c = some (.lst (cs.map V.int)) := upd_same
    generalize upd H4 c (.lst (cs.map V.int)) = H5 at s5 c5
    have s15 : Same H H5 := s13.trans (s4.trans s5)
    -- the list
    refine ⟨_, rfl, _, rfl, c, rfl, ⟨_, SqL.of c5⟩, fun r hr0 => lc_it (walk_list (xs := cs.map V.int)) (fun i H' => ∃ l : List Int, At H5 r (l.map V.int) H' ∧ l.length = i) ⟨[], At.start hr0, rfl⟩ (fun i H' _ ⟨_, z, _⟩ => SqL.of (z.same _ _ c5)) ?_ ?_⟩
    · rintro i y H6 H7 hi ⟨rs, z, hrs⟩ ⟨rfl, hy⟩
      rw [List.length_map] at hi
      obtain ⟨x, hx, rfl⟩ : ∃ x, cs[i]? = some x ∧ y = V.int x := by
        rw [List.getElem?_map] at hy
        cases e : cs[i]? with
        | none => rw [e] at hy; cases hy
        | some x => rw [e] at hy; exact ⟨x, rfl, (Option.some.inj hy).symm⟩
      refine ⟨rfl, yes_lc ⟨_, rfl, _, rfl, _, _, rfl, rfl, ⟨by decide, by decide, by decide⟩, _, _, rfl, rfl, .inr ⟨_, rfl, _, _, rfl, rfl, .inr ?_, ?_⟩⟩⟩
      · split <;> exact ⟨by decide, by decide⟩
      · refine ⟨rs.map V.int, z.lst, small (by rw [List.length_map]; omega), rs ++ [_], ⟨same_put z.same hr0, by rw [upd_same, List.map_append]; rfl⟩, by rw [List.length_append, List.length_singleton, hrs]⟩
    · rintro H6 ⟨rs, z, hrs⟩
      rw [List.length_map] at hrs
      refine ⟨by show 3 ≤ sizeLine; decide, fun d hd => ?_⟩
      have s7 : Same H6 (upd H6 d (.lst [.ref c, V.int 0, .ref r])) := same_upd hd
      have c6 : H6 c = some (.lst (cs.map V.int)) := z.same _ _ c5
      have hcr : c ≠ r := fun w => by rw [← w, c5] at hr0; cases hr0
      have hdc : d ≠ c := fun w => by rw [w, c6] at hd; cases hd
      have hdr : d ≠ r := fun w => by rw [w, z.lst] at hd; cases hd
      exact k _ d c r (s15.trans (z.same.trans s7)) hdc hdr hcr ⟨cs, rs, 0, upd_same, s7 _ _ c6, s7 _ _ z.lst, by omega, by omega, hrs, Nat.le_refl _⟩
theorem ok_ln {f : Addr} {fd : FuncData} (F : Fun K "_law_next" "_law_next" sLN f fd) (T : Txt mg) : FnOk P_ w_ K mg base CX0 1 f fd ["_law_drawn", "_law_many"] spLN := by
  refine F.ok scLN (fun vs H Q E h => ?_) (fun cdv A_ outer s H vs Q E hr h => ?_)
  · obtain ⟨d, c, r, m, N, rfl, _⟩ := h
    rfl
  · obtain ⟨d, c, r, m, N, rfl, hdc, hdr, hcr, ⟨cs, rs, nth, hd, hc, hr', hc1, hc64, hrl, hnN⟩, hN, hm1, hm2, k⟩ := h
    refine ⟨_, pss_cons (ps_asg (pv 0) (pg_unl rfl (pgs_cons (pg_name (i := 2) scLN.nd rfl (Or.inl rfl)) (pgs_cons (pg_name (i := 3) scLN.nd rfl (Or.inl rfl)) (pgs_cons (pg_name (i := 4) scLN.nd rfl (Or.inl rfl)) pgs_nil)))))
      (pss_cons (ps_set (i := 5) scLN.nd rfl (.inl rfl) (pe_op op_mod (pv 3) (pe_callB call_len_seq (by rfl) T.len PySem.boot_len (pa_cons (pv 2) pa_nil))))
      (pss_cons (ps_asg (pe_op op_add (pv 3) pe_int) (pg_sub (pv 0) pe_int set_list))
      (pss_cons (ps_if (pt_cmpR op_gt (pe_ix ix_list (pv 4) (pv 5) (fun _ _ => rfl)) pe_int (nomark _))
          (pss_cons (ps_set (i := 6) scLN.nd rfl (.inl rfl) (pe_op op_mod (pe_ix ix_list (pv 4) (pv 5) (fun _ _ => rfl)) (pv 1)))
          (pss_cons (ps_asg (pe_op op_fdivN (pe_ix ix_list (pv 4) (pv 5) (fun _ _ => rfl)) (pv 1)) (pg_sub (pv 4) (pv 5) set_list))
          (pss_one (ps_ret (pv 6))))) pss_nil)
      (pss_cons (ps_set (i := 7) scLN.nd rfl (.inl rfl) (pe_op op_mod (pe_op op_pow (pe_op op_add (pe_op op_add (pe_op op_mod (pe_ix ix_list (pv 2) (pv 5) (fun _ _ => rfl)) pe_int) (pe_op op_mul pe_int (pv 3))) pe_int) pe_int) pe_int))
      (pss_cons (ps_set (i := 8) scLN.nd rfl (.inl rfl) (pe_op op_mod (pe_op op_pow (pe_op op_add (pe_op op_add (pv 7) (pe_op op_mul (pe_op op_mul pe_int (pv 3)) (pv 3))) pe_int) pe_int) pe_int))
      (pss_one (ps_ret (pe_op op_mod (pe_op op_mod (pe_op op_add (pe_op op_mul (pv 8) pe_int) (pv 7)) pe_int) (pv 1))))))))), ?_⟩
    -- cells, nth, rests
    refine ⟨_, rfl, d, _, rfl, SqL.of hd, rfl, _, _, rfl, _, _, rfl, _, _, rfl, rfl, ?_⟩
    -- spot
    refine ⟨_, rfl, _, rfl, c, _, rfl, .inl (SqL.of hc), _, _, rfl, rfl, ?_, ?_⟩
    · show (0 : Int) < ((cs.map V.int).length : Int)
      rw [List.length_map]; omega
    have esp : ((nth : Int) % ((cs.map V.int).length : Int)) = ((nth % cs.length : Nat) : Int) := by rw [List.length_map]; exact (Int.natCast_emod ..).symm
    show (gName 5) (V.int ((nth : Int) % ((cs.map V.int).length : Int))) _ _ _
    rw [esp]
    have hspl : nth % cs.length < cs.length := Nat.mod_lt _ (by omega)
    generalize hsp : nth % cs.length = sp at hspl
    obtain ⟨x, hx⟩ : ∃ x, cs[sp]? = some x := ⟨_, List.getElem?_eq_getElem hspl⟩
    obtain ⟨y, hy⟩ : ∃ y, rs[sp]? = some y := ⟨_, List.getElem?_eq_getElem (by omega)⟩
    have atx : atI (cs.map V.int) (sp : Int) = some (V.int x) := atI_nat (by rw [List.getElem?_map, hx]; rfl)
    have aty : atI (rs.map V.int) (sp : Int) = some (V.int y) := atI_nat (by rw [List.getElem?_map, hy]; rfl)
    -- drawn[1] = nth + 1
    refine ⟨_, rfl, _, _, rfl, rfl, _, rfl, d, _, 1, 1, rfl, rfl, hd, rfl, ?_⟩
    show tSeq _ _ _ _ (upd H d (.lst [.ref c, nV (nth + 1), .ref r]))
    have sb1 : SB d r H (upd H d (.lst [.ref c, nV (nth + 1), .ref r])) := fun b o h1 _ e => by rw [upd_ne h1]; exact e
    have d1 : upd H d (.lst [.ref c, nV (nth + 1), .ref r]) d = some (.lst [.ref c, nV (nth + 1), .ref r]) := upd_same
    have c1 : upd H d (.lst [.ref c, nV (nth + 1), .ref r]) c = some (.lst (cs.map V.int)) := by rw [upd_ne hdc.symm]; exact hc
    have r1 : upd H d (.lst [.ref c, nV (nth + 1), .ref r]) r = some (.lst (rs.map V.int)) := by rw [upd_ne hdr.symm]; exact hr'
    generalize upd H d (.lst [.ref c, nV (nth + 1), .ref r]) = H1 at sb1 d1 c1 r1
    have fin : ∀ (H' : Hp) (rs' : List Int) (z : Int), SB d r H H' → H' d = some (.lst [.ref c, nV (nth + 1), .ref r]) → H' c = some (.lst (cs.map V.int)) → H' r = some (.lst (rs'.map V.int)) → rs'.length = cs.length → 0 ≤ z → z < m → Q (V.int z) H' := by
      intro H' rs' z sb hd' hc' hrr hl hz1 hz2
      have e : V.int z = nV z.toNat := by
        show V.int z = V.int (z.toNat : Int)
        rw [Int.toNat_of_nonneg hz1]
      rw [e]
      exact k H' z.toNat sb ⟨cs, rs', nth + 1, hd', hc', hrr, hc1, hc64, hl, by omega⟩ (by omega)
    have hm0 : (0 : Int) < (m : Int) := by omega
    refine ⟨_, rfl, _, rfl, r, _, _, _, rfl, rfl, SqL.of r1, aty, _, _, rfl, rfl, _, rfl, ?_⟩
    refine ite2 (fun q => ?_) (fun q => ?_)
    · -- a digit of what is left
      refine ⟨_, rfl, _, rfl, r, _, _, _, rfl, rfl, SqL.of r1, aty, _, rfl, _, _, rfl, rfl, hm0, ?_⟩
      refine ⟨_, rfl, _, rfl, r, _, _, _, rfl, rfl, SqL.of r1, aty, _, rfl, _, _, rfl, rfl, ⟨by omega, by omega⟩, ?_⟩
      refine ⟨_, rfl, _, rfl, r, _, (sp : Int), sp, rfl, rfl, r1, ?_, ?_⟩
      · unfold ixN
        rw [if_pos (by omega), if_pos (by rw [List.length_map]; omega), Int.toNat_natCast]
      · refine ⟨_, rfl, fin _ (rs.set sp (y.fdiv m)) _ (fun b o h1 h2 e => by rw [upd_ne h2]; exact sb1 b o h1 h2 e) (by rw [upd_ne hdr]; exact d1) (by rw [upd_ne hcr]; exact c1) ?_ (by rw [List.length_set]; exact hrl) (Int.emod_nonneg _ (by omega)) (Int.emod_lt_of_pos _ hm0)⟩
        rw [upd_same, List.map_set]
    · -- a mixed number
      have b1 : 0 ≤ x % 2147483647 ∧ x % 2147483647 < 2147483647 := ⟨Int.emod_nonneg _ (by decide), Int.emod_lt_of_pos _ (by decide)⟩
      refine ⟨_, rfl, _, rfl, c, _, _, _, rfl, rfl, SqL.of c1, atx, _, _, rfl, rfl, (show (0 : Int) < 2147483647 by decide), _, rfl, _, _, rfl, rfl, .inl ⟨by decide, by decide⟩, _, _, rfl, rfl, _, _, rfl, rfl, _, _, rfl, rfl, ⟨by decide, by decide, ?_⟩, _, _, rfl, rfl, (show (0 : Int) < 2147483629 by decide), ?_⟩
      · show (x % 2147483647 + 69621 * (nth : Int) + 30269).natAbs < 2 ^ 64
        omega
      have b2 : 0 ≤ (x % 2147483647 + 69621 * (nth : Int) + 30269) ^ (3 : Int).toNat % 2147483629 ∧ (x % 2147483647 + 69621 * (nth : Int) + 30269) ^ (3 : Int).toNat % 2147483629 < 2147483629 := ⟨Int.emod_nonneg _ (by decide), Int.emod_lt_of_pos _ (by decide)⟩
      have b2' : ∃ mx : Int, mx = ((x % 2147483647 + 69621 * (nth : Int) + 30269) ^ (3 : Int).toNat % 2147483629) ∧ 0 ≤ mx ∧ mx < 2147483629 := ⟨_, rfl, b2⟩
      obtain ⟨mx, emx, bx1, bx2⟩ := b2'
      have b3 : 0 ≤ 6007 * (nth : Int) * (nth : Int) ∧ 6007 * (nth : Int) * (nth : Int) ≤ 600700000 * 100000 := by
        have h0 : (0 : Int) ≤ nth := by omega
        have h1 : (nth : Int) ≤ 100000 := by omega
        refine ⟨Int.mul_nonneg (by omega) h0, ?_⟩
        exact Int.mul_le_mul (by omega) h1 h0 (by decide)
      refine ⟨_, rfl, _, rfl, _, _, rfl, rfl, .inl ⟨by decide, by decide⟩, _, rfl, _, _, rfl, rfl, .inl ?_, _, _, rfl, rfl, _, _, rfl, rfl, _, _, rfl, rfl, ⟨by decide, by decide, ?_⟩, _, _, rfl, rfl, (show (0 : Int) < 2147483587 by decide), ?_⟩
      · omega
      · show (((x % 2147483647 + 69621 * (nth : Int) + 30269) ^ (3 : Int).toNat % 2147483629) + 6007 * (nth : Int) * (nth : Int) + 17).natAbs < 2 ^ 64
        rw [← emx]
        omega
      rw [← emx]
      have b4 : 0 ≤ (mx + 6007 * (nth : Int) * (nth : Int) + 17) ^ (3 : Int).toNat % 2147483587 ∧ (mx + 6007 * (nth : Int) * (nth : Int) + 17) ^ (3 : Int).toNat % 2147483587 < 2147483587 := ⟨Int.emod_nonneg _ (by decide), Int.emod_lt_of_pos _ (by decide)⟩
      generalize (mx + 6007 * (nth : Int) * (nth : Int) + 17) ^ (3 : Int).toNat % 2147483587 = mo at b4 ⊢
      refine ⟨_, rfl, _, _, rfl, rfl, .inl ⟨by omega, by omega⟩, _, rfl, _, _, rfl, rfl, _, _, rfl, rfl, (show (0 : Int) < 4611686018427387847 by decide), _, rfl, _, _, rfl, rfl, hm0, ?_⟩
      exact fin H1 rs _ sb1 d1 c1 r1 hrl (Int.emod_nonneg _ (by omega)) (Int.emod_lt_of_pos _ hm0)
end
end K19

/-! part W12 -/
/-! Walks 12: _law_panel. -/
namespace K19
open PySem PySem.Spec PyProof.Rows L2
theorem scLP : FnScope ["_law_drawn", "_law_most", "_law_n", "_law_share", "_law_found", "_law_button", "_law_others", "_law_other"] ["_law_drawn", "_law_most"] (defScope sLP) := ⟨rfl, rfl, rfl, by decide +kernel, rfl, by decide +kernel, by decide +kernel⟩
theorem DS.nl {d c r : Addr} {N : Nat} {H H' : Hp} (h : DS d c r N H) (s : SB d r H H') : IK H H' := fun b o e n => by
  obtain ⟨cs, rs, nth, hd, hc, hr, _⟩ := h
  exact s b o (fun z => by rw [z, hd] at e; exact n _ (Option.some.inj e).symm) (fun z => by rw [z, hr] at e; exact n _ (Option.some.inj e).symm) e
theorem DS.put {d c r : Addr} {N : Nat} {H : Hp} (h : DS d c r N H) {F : Addr} {o : HO} (h1 : F ≠ d) (h2 : F ≠ c) (h3 : F ≠ r) : DS d c r N (upd H F o) := by
  obtain ⟨cs, rs, nth, hd, hc, hr, k⟩ := h
  exact ⟨cs, rs, nth, by rw [upd_ne h1.symm]; exact hd, by rw [upd_ne h2.symm]; exact hc, by rw [upd_ne h3.symm]; exact hr, k⟩
theorem DS.nn {d c r : Addr} {N : Nat} {H : Hp} (h : DS d c r N H) {F : Addr} (hF : H F = none) : F ≠ d ∧ F ≠ c ∧ F ≠ r := by
  obtain ⟨cs, rs, nth, hd, hc, hr, k⟩ := h
  exact ⟨fun z => (by rw [z, hd] at hF; cases hF), fun z => (by rw [z, hc] at hF; cases hF), fun z => (by rw [z, hr] at hF; cases hF)⟩
theorem SB.put {d r : Addr} {H H1 : Hp} {F : Addr} {o : HO} (s : SB d r H H1) (hF : H F = none) : SB d r H (upd H1 F o) := fun b x h1 h2 e => by
  rw [upd_ne (ne_of_none e hF)]; exact s b x h1 h2 e
theorem SB.free {d r : Addr} {H H1 : Hp} {F : Addr} (s : SB d r H H1) (hF : H1 F = none) (h1 : F ≠ d) (h2 : F ≠ r) : H F = none := by
  cases e : H F with
  | none => rfl
  | some o => rw [s F o h1 h2 e] at hF; cases hF
/-- a panel of n lists of other buttons -/
structure PB (n : Nat) (P : Pan) : Prop where
  all : ∀ (j : Nat) (l : List Nat), P[j]? = some l → l.Nodup ∧ j ∉ l ∧ ∀ b, b ∈ l → b < n
theorem PB.ok {n : Nat} {P : Pan} (h : PB n P) (hn : P.length = n) : PanOk P := by
  have key : ∀ a, (rel P a).Nodup ∧ a ∉ rel P a ∧ ∀ b, b ∈ rel P a → b < n := fun a => by
    rcases Nat.lt_or_ge a P.length with q | q
    · exact h.all a _ (rel_get q)
    · rw [rel_out q]
      exact ⟨List.nodup_nil, fun z => (by cases z), fun b z => (by cases z)⟩
  exact ⟨fun a b m => by rw [hn]; exact (key a).2.2 b m, fun a => (key a).2.1, fun a => (key a).1⟩
theorem PB.snoc {n : Nat} {P : Pan} {i : Nat} {l : List Nat} (h : PB n P) (hi : P.length = i) (hl : l.Sublist ((List.range n).filter fun o => decide (o ≠ i))) : PB n (P ++ [l]) := by
  refine ⟨fun j m hm => ?_⟩
  rcases Nat.lt_or_ge j P.length with q | q
  · rw [List.getElem?_append_left q] at hm
    exact h.all j m hm
  · rw [List.getElem?_append_right q] at hm
    have hj : j - P.length = 0 := by
      have := (List.getElem?_eq_some_iff.mp hm).1
      rw [List.length_singleton] at this
      omega
    rw [hj] at hm
    cases hm
    have ej : j = i := by omega
    have hmem : ∀ b, b ∈ l → b < n ∧ b ≠ i := fun b hb => by
      have := List.mem_filter.mp (hl.subset hb)
      exact ⟨List.mem_range.mp this.1, of_decide_eq_true this.2⟩
    refine ⟨hl.nodup (List.filter_sublist.nodup List.nodup_range), fun z => (hmem j z).2 ej, fun b hb => (hmem b hb).1⟩
def spLP : Sp := fun vs H Q _ => ∃ (d c r : Addr) (m N : Nat), vs = [.ref d, nV m] ∧ d ≠ c ∧ d ≠ r ∧ c ≠ r ∧ DS d c r N H ∧ N ≤ 50000 ∧ 1 ≤ m ∧ m ≤ 7 ∧
  ∀ H' p P, SB d r H H' → DS d c r (N + 100) H' → PT' H' P p → PanOk P → 1 ≤ P.length → P.length ≤ m → Q (.ref p) H'
section
variable {P_ : Program} {w_ : World} {K : PySem.W.Frag} {mg : Str → Option Value} {base : Heap}
theorem ok_lp {f fN : Addr} {fd fdN : FuncData} (F : Fun K "_law_panel" "_law_panel" sLP f fd) (T : Txt mg)
    (FN : Fun K "_law_next" "_law_next" sLN fN fdN) (bN : Binds K fdN ["_law_drawn", "_law_many"] []) (gN : mg "_law_next" = some (.ref fN)) : FnOk P_ w_ K mg base CX0 2 f fd ["_law_drawn", "_law_most"] spLP := by
  have GN : FnOk P_ w_ K mg base CX0 1 fN fdN ["_law_drawn", "_law_many"] spLN := ok_ln FN T
  refine F.ok scLP (fun vs H Q E h => ?_) (fun cdv A_ outer s H vs Q E hr h => ?_)
  · obtain ⟨d, c, r, m, N, rfl, _⟩ := h
    rfl
  · obtain ⟨d, c, r, m, N, rfl, hdc, hdr, hcr, hD0, hN, hm1, hm7, k⟩ := h
    refine ⟨_, pss_cons (ps_set (i := 2) scLP.nd rfl (.inl rfl) (pe_ix ix_list (pe_lst (pa_cons (pe_op op_add pe_int (pe_call GN hr (by rfl) gN FN.kp bN .nil pass0 (pa_cons (pv 0) (pa_cons (pv 1) pa_nil)))) (pa_cons (pv 1) pa_nil)))
        (pe_callTy call_int1 (by rfl) T.int PyProof.Rows.boot_int (pa_cons (pe_cmpR op_eq (pe_call GN hr (by rfl) gN FN.kp bN .nil pass0 (pa_cons (pv 0) (pa_cons pe_int pa_nil))) pe_int (nomark _)) pa_nil)) (fun _ _ => rfl)))
      (pss_cons (ps_asg (pe_tup (pa_cons (pe_call GN hr (by rfl) gN FN.kp bN .nil pass0 (pa_cons (pv 0) (pa_cons pe_int pa_nil))) (pa_cons (pe_lst pa_nil) pa_nil)))
          (pg_tup rfl (pgs_cons (pg_name (i := 3) scLP.nd rfl (Or.inr rfl)) (pgs_cons (pg_name (i := 4) scLP.nd rfl (Or.inl rfl)) pgs_nil))))
      (pss_cons (ps_for PassesOwn.never rfl (pi_range1 (by rfl) T.range (pa_cons (pv 2) pa_nil)) (pg_name (i := 5) scLP.nd rfl (.inr rfl))
        (pss_cons (ps_setLc (i := 6) (own := [("_law_other", 7)]) (g := gName 7) (te := tVar 7) rfl scLP.nd rfl rfl (sw_true rfl rfl rfl (by decide +kernel)) (pi_range1 (by rfl) T.range (pa_cons (pv 2) pa_nil))
            (blkOk_by (N := ["_law_drawn", "_law_most", "_law_n", "_law_share", "_law_found", "_law_button", "_law_others", "_law_other"]) (sc := defScope sLP) (by decide +kernel))
            (fun _ _ _ _ _ => pg_name (i := 7) scLP.nd rfl (Or.inl rfl)) (fun _ _ _ _ _ => pts_one (pt_cmpR op_ne (pv 7) (pv 5) (nomark _)))
            (fun _ _ _ _ _ => pv 7))
        (pss_one (ps_expr (pe_bm PySem.F.plainAttrs_list PySem.F.slot_list_append PySem.F.type_list_append mt_append (pv 4) (pa_cons (pe_callTy call_tuple_of (by rfl) T.tuple PyProof.Rows.boot_tuple (pa_cons
            (pe_lc (own := [("_law_other", 7)]) (g := gName 7) (te := tVar 7) rfl scLP.nd (pi_list (pv 6))
              (blkOk_by (N := ["_law_drawn", "_law_most", "_law_n", "_law_share", "_law_found", "_law_button", "_law_others", "_law_other"]) (sc := defScope sLP) (by decide +kernel))
              (fun _ _ _ _ _ => pg_name (i := 7) scLP.nd rfl (Or.inl rfl)) (fun _ _ _ _ _ => pts_one (pt_cmpR op_lt (pe_call GN hr (by rfl) gN FN.kp bN .nil pass0 (pa_cons (pv 0) (pa_cons pe_int pa_nil))) (pv 3) (nomark _)))
              (fun _ _ _ _ _ => pv 7)) pa_nil)) pa_nil))))))
      (pss_one (ps_ret (pe_callTy call_tuple_of (by rfl) T.tuple PyProof.Rows.boot_tuple (pa_cons (pv 4) pa_nil)))))), ?_⟩
    -- n
    refine ⟨_, rfl, _, rfl, d, c, r, m, N, rfl, hdc, hdr, hcr, hD0, by omega, hm1, by omega, fun H1 v s1 hD1 hv => ?_⟩
    refine ⟨_, _, rfl, rfl, _, rfl, by show 2 ≤ sizeLine; decide, fun p hp => ?_⟩
    have s12 : Same H1 (upd H1 p (.lst [V.int (1 + (v : Int)), nV m])) := same_upd hp
    have p2 : upd H1 p (.lst [V.int (1 + (v : Int)), nV m]) p = some (.lst [V.int (1 + (v : Int)), nV m]) := upd_same
    obtain ⟨pd, pc, pr⟩ := hD1.nn hp
    have hD2 := hD1.same s12
    generalize upd H1 p (.lst [V.int (1 + (v : Int)), nV m]) = H2 at s12 p2 hD2
    refine ⟨_, rfl, d, c, r, 4, N + 1, rfl, hdc, hdr, hcr, hD2, by omega, by omega, by omega, fun H3 v2 s23 hD3 hv2 => ⟨rfl, .inr ⟨_, rfl, ?_⟩⟩⟩
    have hnn : ∃ n : Nat, atI [V.int (1 + (v : Int)), nV m] (if decide (nV v2 = V.int 0) = true then (1 : Int) else 0) = some (nV n) ∧ 1 ≤ n ∧ n ≤ m := by
      cases decide (nV v2 = V.int 0) with
      | true => exact ⟨m, rfl, hm1, Nat.le_refl _⟩
      | false =>
        refine ⟨1 + v, ?_, by omega, by omega⟩
        show some (V.int (1 + (v : Int))) = some (V.int ((1 + v : Nat) : Int))
        rw [Int.natCast_add]; rfl
    obtain ⟨n, ean, hn1, hnm⟩ := hnn
    refine ⟨p, _, _, _, rfl, rfl, SqL.of (s23 _ _ pd pr p2), ean, ?_⟩
    -- share, found
    refine ⟨_, rfl, d, c, r, 6, N + 1 + 1, rfl, hdc, hdr, hcr, hD3, by omega, by omega, by omega, fun H4 sh s34 hD4 hsh => ⟨Nat.zero_le _, fun F0 hF0 => ⟨by show 2 ≤ sizeLine; decide, fun tp htp => ?_⟩⟩⟩
    have sb4 : SB d r H H4 := s1.trans ((SB.of s12).trans (s23.trans s34))
    obtain ⟨Fd, Fc, Fr⟩ := hD4.nn hF0
    have hFH : H F0 = none := sb4.free hF0 Fd Fr
    have s45 : Same H4 (upd H4 F0 (.lst [])) := same_upd hF0
    have s56 : Same (upd H4 F0 (.lst [])) (upd (upd H4 F0 (.lst [])) tp (.tup [nV sh, .ref F0])) := same_upd htp
    have f6 : upd (upd H4 F0 (.lst [])) tp (.tup [nV sh, .ref F0]) F0 = some (.lst (([] : List Addr).map V.ref)) := s56 _ _ upd_same
    have t6 : upd (upd H4 F0 (.lst [])) tp (.tup [nV sh, .ref F0]) tp = some (.tup [nV sh, .ref F0]) := upd_same
    have s46 := s45.trans s56
    generalize upd (upd H4 F0 (.lst [])) tp (.tup [nV sh, .ref F0]) = H6 at s46 f6 t6
    have sb6 : SB d r H H6 := sb4.trans (SB.of s46)
    have hD6 := hD4.same s46
    refine ⟨tp, _, rfl, SqT.of t6, rfl, _, _, rfl, _, _, rfl, rfl, ?_⟩
    refine ⟨_, rfl, (n : Int), rfl, by omega, by omega, ?_⟩
    rw [Int.toNat_natCast]
    refine for_it (walk_rng0 (n := n)) (fun i σ H' => ∃ (bs : List Addr) (P : Pan) (v5 v6 : Option V), σ = [some (.ref d), some (nV m), some (nV n), some (nV sh), some (.ref F0), v5, v6, none] ∧ SB d r H H' ∧ DS d c r (N + 3 + 10 * i) H' ∧ H' F0 = some (.lst (bs.map V.ref)) ∧ Paired (fun l b => TN H' l b) P bs ∧ PB n P ∧ P.length = i)
      ⟨[], [], none, none, rfl, sb6, hD6, f6, .nil, ⟨fun j l z => by simp at z⟩, rfl⟩ (fun _ _ _ _ _ => trivial) ?_ ?_
    · rintro i x σ H7 H8 hi ⟨bs, P, v5, v6, rfl, sb, ds, hf, pw, pb, pl⟩ ⟨rfl, rfl⟩
      -- others
      refine ⟨_, rfl, (n : Int), rfl, by omega, by omega, ?_⟩
      rw [Int.toNat_natCast]
      refine fun D hD => lc_it (walk_rng0 (n := n)) (fun k => At H8 D (lV (((List.range n).take k).filter fun o => decide (o ≠ i)))) (At.start hD) (fun _ _ _ _ => trivial) ?_ ?_
      · rintro k x H9 H10 hk z ⟨rfl, rfl⟩
        refine ⟨rfl, _, rfl, _, rfl, rfl, _, rfl, ?_⟩
        show if (!decide (nV k = nV i)) = true then _ else _
        rw [nV_dec]
        have hks : lV (((List.range n).take (k + 1)).filter fun o => decide (o ≠ i)) = _ := filter_succ (p := fun o => decide (o ≠ i)) (l := List.range n) (i := k) (c := k) (by rw [List.getElem?_range hk])
        have hz := filter_len (fun o => decide (o ≠ i)) (List.range n) k
        rw [List.length_range] at hz
        refine ite2 (fun q => ?_) (fun q => ?_)
        · have q : k ≠ i := by simpa using q
          rw [if_pos (decide_eq_true q)] at hks
          exact ⟨_, rfl, At.put hD z (Same.refl _) (small (by omega)) hks⟩
        · have q : ¬ k ≠ i := by simpa using q
          rw [if_neg (fun z => q (of_decide_eq_true z)), List.append_nil] at hks
          rw [hks]
          exact z
      · intro H9 z
        have zl : LN H9 ((List.range n).filter fun o => decide (o ≠ i)) D := by
          have := z.lst
          rw [show (List.range n).take n = List.range n by rw [List.take_of_length_le]; rw [List.length_range]; exact Nat.le_refl _] at this
          exact this
        have hol : ((List.range n).filter fun o => decide (o ≠ i)).length ≤ n := by
          have := List.length_filter_le (fun o => decide (o ≠ i)) (List.range n)
          rw [List.length_range] at this
          exact this
        generalize hot : ((List.range n).filter fun o => decide (o ≠ i)) = ot at zl hol
        have s9 : Same H8 H9 := z.same
        have sb9 : SB d r H H9 := sb.trans (SB.of s9)
        have hf9 : H9 F0 = some (.lst (bs.map V.ref)) := s9 _ _ hf
        have pw9 : Paired (fun l b => TN H9 l b) P bs := paired_mono pw fun _ _ q => s9 _ _ q
        have ds9 := ds.same s9
        obtain ⟨Dd, Dc, Dr⟩ := ds.nn hD
        refine ⟨_, rfl, .inl ⟨rfl, _, SqL.of hf9⟩, _, rfl, D, rfl, ⟨_, SqL.of zl⟩, fun D2 hD2 => lc_it (walk_list (xs := lV ot)) (fun k H' => ∃ l : List Nat, SB d r H9 H' ∧ DS d c r (N + 3 + 10 * i + k) H' ∧ H' D2 = some (.lst (lV l)) ∧ l.Sublist (ot.take k)) ⟨[], SB.of (same_upd hD2), ds9.same (same_upd hD2), upd_same, List.nil_sublist _⟩ (fun k H' _ ⟨_, z, _⟩ => SqL.of (z _ _ Dd Dr zl)) ?_ ?_⟩
        · rintro k y H10 H11 hk ⟨l, sb10, ds10, l10, sub⟩ ⟨rfl, hy⟩
          obtain ⟨o, ho, rfl⟩ := lV_of hy
          rw [lV_len] at hk
          refine ⟨rfl, _, rfl, d, c, r, 5, _, rfl, hdc, hdr, hcr, ds10, by omega, by omega, by omega, fun H12 u s112 ds12 hu => ⟨_, rfl, _, _, rfl, rfl, _, rfl, ?_⟩⟩
          have sb12 := sb10.trans s112
          obtain ⟨ed, ec, er⟩ := ds9.nn hD2
          have l12 : H12 D2 = some (.lst (lV l)) := s112 _ _ ed er l10
          have et : ot.take (k + 1) = ot.take k ++ [o] := by rw [List.take_add_one, ho]; rfl
          have hll := sub.length_le
          rw [List.length_take] at hll
          refine ite2 (fun q => ?_) (fun q => ?_)
          · refine ⟨_, rfl, lV l, l12, small (by rw [lV_len]; omega), l ++ [o], sb12.put hD2, ds12.put ed ec er, by rw [upd_same]; show _ = some (HO.lst (List.map nV (l ++ [o]))); rw [List.map_append]; rfl, ?_⟩
            rw [et]
            exact sub.append (List.Sublist.refl _)
          · refine ⟨l, sb12, ds12, l12, ?_⟩
            rw [et]
            exact sub.trans (List.sublist_append_left _ _)
        · rintro H10 ⟨l, sb10, ds10, l10, sub⟩
          rw [lV_len, List.take_length] at sub
          rw [lV_len] at ds10
          refine ⟨D2, _, rfl, .inl ⟨SqL.of l10, fun tp htp => ?_⟩⟩
          have s11 : Same H10 (upd H10 tp (.tup (lV l))) := same_upd htp
          have t11 : upd H10 tp (.tup (lV l)) tp = some (.tup (lV l)) := upd_same
          generalize upd H10 tp (.tup (lV l)) = H11 at s11 t11
          have hf11 : H11 F0 = some (.lst (bs.map V.ref)) := s11 _ _ (sb10 _ _ Fd Fr hf9)
          have ik : IK H9 H11 := (ds9.nl sb10).trans (IK.of s11)
          have ik2 : IK H11 (upd H11 F0 (.lst (bs.map V.ref ++ [V.ref tp]))) := IK.put hf11
          have hbl : bs.length = i := by rw [← Paired.length pw, pl]
          refine ⟨F0, _, _, rfl, rfl, hf11, small (by rw [List.length_map]; omega), ?_⟩
          refine ⟨bs ++ [tp], P ++ [l], _, _, rfl, (sb9.trans (sb10.trans (SB.of s11))).put hFH, ((ds10.same s11).put Fd Fc Fr).mono (by omega), by rw [upd_same, List.map_append]; rfl, ?_, pb.snoc pl (by rw [hot]; exact sub), by rw [List.length_append, pl]; rfl⟩
          exact paired_app (paired_mono pw9 fun _ _ q => (ik.trans ik2) _ _ q fun _ z => by cases z) (.cons (ik2 _ _ t11 fun _ z => by cases z) .nil)
    · rintro σ H7 ⟨bs, P, v5, v6, rfl, sb, ds, hf, pw, pb, pl⟩
      refine ⟨_, rfl, F0, _, rfl, .inl ⟨SqL.of hf, fun tp htp => ?_⟩⟩
      have s8 : Same H7 (upd H7 tp (.tup (bs.map V.ref))) := same_upd htp
      exact k _ tp P (sb.trans (SB.of s8)) ((ds.same s8).mono (by omega)) ⟨bs, upd_same, paired_mono pw fun _ _ q => s8 _ _ q⟩ (pb.ok pl) (by omega) (by omega)
end
end K19

/-! part W13 -/
/-! Walks 13: _law_row, _law_words. -/
namespace K19
open PySem PySem.Spec PyProof.Rows L2
theorem scLR : FnScope ["_law_drawn", "_law_n", "_law_most", "_law_press"] ["_law_drawn", "_law_n", "_law_most"] (defScope sLR) := ⟨rfl, rfl, rfl, by decide +kernel, rfl, by decide +kernel, by decide +kernel⟩
theorem scLW : FnScope ["_law_drawn", "_law_n", "_law_button"] ["_law_drawn", "_law_n"] (defScope sLW) := ⟨rfl, rfl, rfl, by decide +kernel, rfl, by decide +kernel, by decide +kernel⟩
def spLR : Sp := fun vs H Q _ => ∃ (d c r : Addr) (n m N : Nat), vs = [.ref d, nV n, nV m] ∧ d ≠ c ∧ d ≠ r ∧ c ≠ r ∧ DS d c r N H ∧ N ≤ 50000 ∧ 1 ≤ n ∧ n ≤ 100 ∧ m ≤ 50 ∧
  ∀ H' p l, SB d r H H' → DS d c r (N + 100) H' → TN H' l p → (∀ b, b ∈ l → b < n) → Q (.ref p) H'
def spLW : Sp := fun vs H Q _ => ∃ (d c r : Addr) (n N : Nat), vs = [.ref d, nV n] ∧ d ≠ c ∧ d ≠ r ∧ c ≠ r ∧ DS d c r N H ∧ N ≤ 50000 ∧ n ≤ 100 ∧
  ∀ H' p w, SB d r H H' → DS d c r (N + 100) H' → WF H' w p → w.length = n → Q (.ref p) H'
section
variable {P_ : Program} {w_ : World} {K : PySem.W.Frag} {mg : Str → Option Value} {base : Heap}
theorem ok_lr {f fN : Addr} {fd fdN : FuncData} (F : Fun K "_law_row" "_law_row" sLR f fd) (T : Txt mg)
    (FN : Fun K "_law_next" "_law_next" sLN fN fdN) (bN : Binds K fdN ["_law_drawn", "_law_many"] []) (gN : mg "_law_next" = some (.ref fN)) : FnOk P_ w_ K mg base CX0 2 f fd ["_law_drawn", "_law_n", "_law_most"] spLR := by
  have GN : FnOk P_ w_ K mg base CX0 1 fN fdN ["_law_drawn", "_law_many"] spLN := ok_ln FN T
  refine F.ok scLR (fun vs H Q E h => ?_) (fun cdv A_ outer s H vs Q E hr h => ?_)
  · obtain ⟨d, c, r, n, m, N, rfl, _⟩ := h
    rfl
  · obtain ⟨d, c, r, n, m, N, rfl, hdc, hdr, hcr, hD0, hN, hn1, hn2, hm, k⟩ := h
    refine ⟨_, pss_one (ps_ret (pe_callTy call_tuple_of (by rfl) T.tuple PyProof.Rows.boot_tuple (pa_cons
        (pe_lc (own := [("_law_press", 3)]) (g := gName 3) (tt := tYes) (te := tCall spLN [] E0 (tCons (tVar 0) (tCons (tVar 1) tNil))) rfl scLR.nd (pi_range1 (by rfl) T.range (pa_cons (pe_call GN hr (by rfl) gN FN.kp bN .nil pass0 (pa_cons (pv 0) (pa_cons (pe_op op_add (pv 2) pe_int) pa_nil))) pa_nil))
            (blkOk_by (N := ["_law_drawn", "_law_n", "_law_most", "_law_press"]) (sc := defScope sLR) (by decide +kernel))
            (fun _ _ _ _ _ => pg_name (i := 3) scLR.nd rfl (Or.inl rfl)) (fun _ _ _ _ _ => pts_nil)
            (fun _ _ _ _ _ => pe_call GN hr (by rfl) gN FN.kp bN .nil pass0 (pa_cons (pv 0) (pa_cons (pv 1) pa_nil)))) pa_nil))), ?_⟩
    refine ⟨_, rfl, _, rfl, _, _, rfl, rfl, d, c, r, m + 1, N, rfl, hdc, hdr, hcr, hD0, by omega, by omega, by omega, fun H1 v s1 hD1 hv => ⟨(v : Int), rfl, by omega, by omega, ?_⟩⟩
    rw [Int.toNat_natCast]
    refine fun D hD => lc_it (walk_rng0 (n := v)) (fun i H' => ∃ l : List Nat, SB d r H1 H' ∧ DS d c r (N + 1 + i) H' ∧ H' D = some (.lst (lV l)) ∧ l.length = i ∧ ∀ b, b ∈ l → b < n) ⟨[], SB.of (same_upd hD), hD1.same (same_upd hD), upd_same, rfl, fun b z => (by cases z)⟩ (fun _ _ _ _ => trivial) ?_ ?_
    · rintro i x H2 H3 hi ⟨l, sb, ds, hl, hll, hb⟩ ⟨rfl, rfl⟩
      obtain ⟨ed, ec, er⟩ := hD1.nn hD
      refine ⟨rfl, yes_lc ⟨_, rfl, _, rfl, d, c, r, n, _, rfl, hdc, hdr, hcr, ds, by omega, hn1, by omega, fun H4 u s4 ds4 hu => ?_⟩⟩
      have l4 : H4 D = some (.lst (lV l)) := s4 _ _ ed er hl
      refine ⟨lV l, l4, small (by rw [lV_len]; omega), l ++ [u], (sb.trans s4).put hD, (ds4.put ed ec er).mono (by omega), by rw [upd_same]; show _ = some (HO.lst (List.map nV (l ++ [u]))); rw [List.map_append]; rfl, by rw [List.length_append, hll]; rfl, fun b hb' => ?_⟩
      rcases List.mem_append.mp hb' with z | z
      · exact hb b z
      · rw [List.mem_singleton.mp z]; exact hu
    · rintro H2 ⟨l, sb, ds, hl, hll, hb⟩
      refine ⟨D, _, rfl, .inl ⟨SqL.of hl, fun tp htp => ?_⟩⟩
      have s3 : Same H2 (upd H2 tp (.tup (lV l))) := same_upd htp
      exact k _ tp l (s1.trans (sb.trans (SB.of s3))) ((ds.same s3).mono (by omega)) upd_same hb
theorem ok_lw {f fN : Addr} {fd fdN : FuncData} (F : Fun K "_law_words" "_law_words" sLW f fd) (T : Txt mg)
    (FN : Fun K "_law_next" "_law_next" sLN fN fdN) (bN : Binds K fdN ["_law_drawn", "_law_many"] []) (gN : mg "_law_next" = some (.ref fN)) : FnOk P_ w_ K mg base CX0 2 f fd ["_law_drawn", "_law_n"] spLW := by
  have GN : FnOk P_ w_ K mg base CX0 1 fN fdN ["_law_drawn", "_law_many"] spLN := ok_ln FN T
  refine F.ok scLW (fun vs H Q E h => ?_) (fun cdv A_ outer s H vs Q E hr h => ?_)
  · obtain ⟨d, c, r, n, N, rfl, _⟩ := h
    rfl
  · obtain ⟨d, c, r, n, N, rfl, hdc, hdr, hcr, hD0, hN, hn2, k⟩ := h
    refine ⟨_, pss_one (ps_ret (pe_callTy call_tupleF (by rfl) T.tuple (by decide +kernel) (pa_cons
        (pe_lc (own := [("_law_button", 2)]) (g := gName 2) (tt := tYes) (te := tOp (rIxL K) (tLst (tCons (tC (wV .on)) (tCons (tC (wV .off)) (tCons (tC (wV .same)) tNil)))) (tCall spLN [] E0 (tCons (tVar 0) (tCons (tC (V.int 3)) tNil)))) rfl scLW.nd (pi_range1 (by rfl) T.range (pa_cons (pv 1) pa_nil))
            (blkOk_by (N := ["_law_drawn", "_law_n", "_law_button"]) (sc := defScope sLW) (by decide +kernel))
            (fun _ _ _ _ _ => pg_name (i := 2) scLW.nd rfl (Or.inl rfl)) (fun _ _ _ _ _ => pts_nil)
            (fun _ _ _ _ _ => pe_ix ix_list (pe_lst (pa_cons pe_str (pa_cons pe_str (pa_cons pe_str pa_nil)))) (pe_call GN hr (by rfl) gN FN.kp bN .nil pass0 (pa_cons (pv 0) (pa_cons pe_int pa_nil))) (fun _ _ => rfl))) pa_nil))), ?_⟩
    refine ⟨_, rfl, (n : Int), rfl, by omega, by omega, ?_⟩
    rw [Int.toNat_natCast]
    refine fun D hD => lc_it (walk_rng0 (n := n)) (fun i H' => ∃ w : List W, SB d r H H' ∧ DS d c r (N + i) H' ∧ H' D = some (.lst (strV w)) ∧ w.length = i) ⟨[], SB.of (same_upd hD), hD0.same (same_upd hD), upd_same, rfl⟩ (fun _ _ _ _ => trivial) ?_ ?_
    · rintro i x H2 H3 hi ⟨w, sb, ds, hl, hll⟩ ⟨rfl, rfl⟩
      obtain ⟨ed, ec, er⟩ := hD0.nn hD
      refine ⟨rfl, yes_lc ⟨by show 3 ≤ sizeLine; decide, fun p hp => ?_⟩⟩
      obtain ⟨pd, pc, pr⟩ := ds.nn hp
      have s34 : Same H3 (upd H3 p (.lst [wV .on, wV .off, wV .same])) := same_upd hp
      have p4 : upd H3 p (.lst [wV .on, wV .off, wV .same]) p = some (.lst [wV .on, wV .off, wV .same]) := upd_same
      refine ⟨_, rfl, d, c, r, 3, N + i, rfl, hdc, hdr, hcr, ds.same s34, by omega, by omega, by omega, fun H4 u s4 ds4 hu => ?_⟩
      have p5 := s4 _ _ pd pr p4
      have l5 : H4 D = some (.lst (strV w)) := s4 _ _ ed er (s34 _ _ hl)
      have hx : ∃ x : W, atI [wV .on, wV .off, wV .same] (u : Int) = some (wV x) := by
        have h3 : u = 0 ∨ u = 1 ∨ u = 2 := by omega
        rcases h3 with rfl | rfl | rfl
        · exact ⟨_, rfl⟩
        · exact ⟨_, rfl⟩
        · exact ⟨_, rfl⟩
      obtain ⟨x, hx⟩ := hx
      refine ⟨p, _, _, _, rfl, rfl, SqL.of p5, hx, strV w, l5, small (by rw [strV_len]; omega), w ++ [x], (sb.trans ((SB.of s34).trans s4)).put hD, (ds4.put ed ec er).mono (by omega), by rw [upd_same, strV_app]; rfl, by rw [List.length_append, hll]; rfl⟩
    · rintro H2 ⟨w, sb, ds, hl, hll⟩
      refine ⟨D, _, rfl, SqL.of hl, fun tp its htp => ?_⟩
      have s3 : Same H2 (upd H2 tp (.frz (tupObj its) (.tup (strV w)))) := same_upd htp
      exact k _ tp w (sb.trans (SB.of s3)) ((ds.same s3).mono (by omega)) ⟨its, upd_same⟩ hll
end
end K19

/-! part W14 -/
/-! Walks 14: the law. -/
namespace K19
open PySem PySem.Spec PyProof.Rows L2
theorem scLaw : FnScope ["_law_script", "_law_drawn", "_law_turn", "_law_panel_here", "_law_words_here", "_law_due", "_law_some", "_law_values", "_law_k"] ["_law_script"] (defScope sLaw) := ⟨rfl, rfl, rfl, by decide +kernel, rfl, by decide +kernel, by decide +kernel⟩
theorem dp_Fs {K : PySem.W.Frag} {H : Hp} : ∀ {E : List (List W)} {bs : List Addr}, Paired (WF H) E bs → DpAll K H (bs.map V.ref) (dTs E)
  | _, _, .nil => .nil
  | _, _, .cons r t => .cons (.tup r.sq (dp_W _)) (dp_Fs t)
theorem eqv_tup (E : List (List W)) : PyData.eqv (.tuple (dTs E)) (.tuple (dTs E)) = true := SeqAt.eqv_refl _ (Sm.tup (sm_Ts E)).1
theorem eqv_lst (E : List (List W)) : PyData.eqv (.list (dTs E)) (.list (dTs E)) = true := SeqAt.eqv_refl _ (Sm.lst (sm_Ts E)).1
theorem fil_succ {p : List W → Bool} {l : List (List W)} {i : Nat} {w : List W} (h : l[i]? = some w) : (l.take (i + 1)).filter p = (l.take i).filter p ++ (if p w = true then [w] else []) := by
  rw [List.take_add_one, h, List.filter_append]
  congr 1
  show List.filter p [w] = _
  rw [List.filter_cons]
  rfl
def spLaw (K : PySem.W.Frag) : Sp := fun vs H Q _ => ∃ (a : Addr) (ns : List Int), vs = [.ref a] ∧ SqL K H a (ns.map V.int) ∧ ns.length ≤ 63 ∧ ∀ H', Q (.bl true) H'
def rLenS (K : PySem.W.Frag) : List V → Hp → VK → Prop := fun xs H Q => ∃ p ys, xs = [.ref p] ∧ (SqL K H p ys ∨ SqT K H p ys) ∧ Q (.int (ys.length : Int)) H
/-- what a comprehension over all words with a test grows -/
def FS (H1 : Hp) (D : Addr) (E : List (List W)) (H : Hp) : Prop := ∃ cs : List Addr, At H1 D (cs.map V.ref) H ∧ Paired (WF H) E cs
theorem FS.start {H1 : Hp} {D : Addr} (hD : H1 D = none) : FS H1 D [] (upd H1 D (.lst [])) := ⟨[], At.start hD, .nil⟩
theorem FS.next {H1 H H' : Hp} {D : Addr} {E : List (List W)} (a : FS H1 D E H) (s : Same H H') : FS H1 D E H' := let ⟨cs, z, p⟩ := a; ⟨cs, z.next s, (IK.of s).wfs p⟩
theorem FS.put {H1 H H4 : Hp} {D : Addr} {E : List (List W)} {w : List W} {b : Addr} (hD : H1 D = none) (a : FS H1 D E H) (s : Same H H4) (hw : WF H4 w b) (hz : E.length ≤ 2187) :
    ∃ acc, H4 D = some (.lst acc) ∧ acc.length < sizeLine ∧ FS H1 D (E ++ [w]) (upd H4 D (.lst (acc ++ [V.ref b]))) := by
  obtain ⟨cs, z, p⟩ := a
  have hl : cs.length = E.length := (Paired.length p).symm
  obtain ⟨acc, l, e, y⟩ := At.put (y := V.ref b) hD z s (small (by rw [List.length_map]; omega)) (m := (cs ++ [b]).map V.ref) (by rw [List.map_append]; rfl)
  have ik : IK H4 (upd H4 D (.lst (acc ++ [V.ref b]))) := IK.put l
  exact ⟨acc, l, e, cs ++ [b], y, paired_app (ik.wfs ((IK.of s).wfs p)) (.cons (ik.wf hw) .nil)⟩
theorem FS.same {H1 H : Hp} {D : Addr} {E : List (List W)} (a : FS H1 D E H) : Same H1 H := let ⟨_, z, _⟩ := a; z.same
open Classical in
theorem due_is (P : Pan) : ∃ pr : List W → Bool, (∀ w, pr w = true ↔ Cond P w) ∧ (allW P.length).filter pr = due P := ⟨_, fun w => decide_eq_true_iff, rfl⟩
theorem IK.pt {H H' : Hp} (t : IK H H') {P : Pan} {a : Addr} (h : PT' H P a) : PT' H' P a :=
  let ⟨as, h1, h2⟩ := h
  ⟨as, t _ _ h1 (fun _ z => by cases z), paired_mono h2 fun _ _ q => t _ _ q fun _ z => by cases z⟩
theorem ref_of {bs : List Addr} {i : Nat} {y : V} (h : (bs.map V.ref)[i]? = some y) : ∃ b, bs[i]? = some b ∧ y = V.ref b := by
  rw [List.getElem?_map] at h
  cases e : bs[i]? with
  | none => rw [e] at h; cases h
  | some b => rw [e] at h; exact ⟨b, rfl, (Option.some.inj h).symm⟩
theorem paired_at {α β : Type} {F : α → β → Prop} {l : List α} {m : List β} {i : Nat} {b : β} (h : Paired F l m) (e : m[i]? = some b) : ∃ x, l[i]? = some x ∧ F x b := by
  have hi : i < l.length := by rw [Paired.length h]; exact (List.getElem?_eq_some_iff.mp e).1
  obtain ⟨y, h1, h2⟩ := paired_get h (List.getElem?_eq_getElem hi)
  rw [e] at h1
  cases h1
  exact ⟨_, List.getElem?_eq_getElem hi, h2⟩
section
variable {P_ : Program} {w_ : World} {K : PySem.W.Frag} {mg : Str → Option Value} {base : Heap}
theorem ok_law {f fD fP fA fH fE fR fW fO fL : Addr} {fd fdD fdP fdA fdH fdE fdR fdW fdO fdL : FuncData} (F : Fun K "law" "law" sLaw f fd) (T : Txt mg)
    (FD : Fun K "_law_draws" "_law_draws" sLD fD fdD) (bD : Binds K fdD ["_law_script"] []) (gD : mg "_law_draws" = some (.ref fD)) (GD : FnOk P_ w_ K mg base CX0 1 fD fdD ["_law_script"] (spLD K))
    (FP : Fun K "_law_panel" "_law_panel" sLP fP fdP) (bP : Binds K fdP ["_law_drawn", "_law_most"] []) (gP : mg "_law_panel" = some (.ref fP)) (GP : FnOk P_ w_ K mg base CX0 2 fP fdP ["_law_drawn", "_law_most"] spLP)
    (FA : Fun K "_law_all_words" "_law_all_words" sLA fA fdA) (bA : Binds K fdA ["_law_n"] []) (gA : mg "_law_all_words" = some (.ref fA)) (GA : FnOk P_ w_ K mg base CX0 1 fA fdA ["_law_n"] spLA)
    (FH : Fun K "_law_holds" "_law_holds" sLH fH fdH) (bH : Binds K fdH ["_law_panel_here", "_law_words_here"] []) (gH : mg "_law_holds" = some (.ref fH)) (GH : FnOk P_ w_ K mg base CX0 3 fH fdH ["_law_panel_here", "_law_words_here"] spLH)
    (FE : Fun K "all_effects" "all_effects" sAE fE fdE) (bE : Binds K fdE ["panel"] []) (gE : mg "all_effects" = some (.ref fE)) (GE : FnOk P_ w_ K mg base CX0 3 fE fdE ["panel"] spAE)
    (FR : Fun K "row_for" "row_for" sRF fR fdR) (bR : Binds K fdR ["panel", "value"] []) (gR : mg "row_for" = some (.ref fR)) (GR : FnOk P_ w_ K mg base CX0 2 fR fdR ["panel", "value"] spRF)
    (FW : Fun K "_law_words" "_law_words" sLW fW fdW) (bW : Binds K fdW ["_law_drawn", "_law_n"] []) (gW : mg "_law_words" = some (.ref fW)) (GW : FnOk P_ w_ K mg base CX0 2 fW fdW ["_law_drawn", "_law_n"] spLW)
    (FO : Fun K "effect_of" "effect_of" sEO fO fdO) (bO : Binds K fdO ["panel", "row"] []) (gO : mg "effect_of" = some (.ref fO)) (GO : FnOk P_ w_ K mg base CX0 3 fO fdO ["panel", "row"] spEO)
    (FL : Fun K "_law_row" "_law_row" sLR fL fdL) (bL : Binds K fdL ["_law_drawn", "_law_n", "_law_most"] []) (gL : mg "_law_row" = some (.ref fL)) (GL : FnOk P_ w_ K mg base CX0 2 fL fdL ["_law_drawn", "_law_n", "_law_most"] spLR) :
    FnOk P_ w_ K mg base CX0 4 f fd ["_law_script"] (spLaw K) := by
  refine F.ok scLaw (fun vs H Q E h => ?_) (fun cdv A_ outer s H vs Q E hr h => ?_)
  · obtain ⟨a, ns, rfl, _⟩ := h
    rfl
  · obtain ⟨a, ns, rfl, hS, hn, k⟩ := h
    have hr1 : Room 1 _ := hr.mono (by decide)
    have hr2 : Room 2 _ := hr.mono (by decide)
    refine ⟨_, pss_cons (ps_set (i := 1) scLaw.nd rfl (.inr rfl) (pe_call GD hr1 (by rfl) gD FD.kp bD .nil pass0 (pa_cons (pv 0) pa_nil)))
      (pss_cons (ps_for PassesOwn.never rfl (pi_range1 (by rfl) T.range (pa_cons pe_int pa_nil)) (pg_name (i := 2) scLaw.nd rfl (.inl rfl))
        (pss_cons (ps_set (i := 3) scLaw.nd rfl (.inr rfl) (pe_call GP hr2 (by rfl) gP FP.kp bP .nil pass0 (pa_cons (pv 1) (pa_cons pe_int pa_nil))))
        (pss_cons (ps_setLc (i := 5) (own := [("_law_words_here", 4)]) (g := gName 4) (te := tVar 4) rfl scLaw.nd rfl rfl (sw_true rfl rfl rfl (by decide +kernel))
            (pi_list (pe_call GA hr1 (by rfl) gA FA.kp bA .nil pass0 (pa_cons (pe_callB call_len_seq (by rfl) T.len PySem.boot_len (pa_cons (pv 3) pa_nil)) pa_nil)))
            (blkOk_by (N := ["_law_script", "_law_drawn", "_law_turn", "_law_panel_here", "_law_words_here", "_law_due", "_law_some", "_law_values", "_law_k"]) (sc := defScope sLaw) (by decide +kernel))
            (fun _ _ _ _ _ => pg_name (i := 4) scLaw.nd rfl (Or.inl rfl)) (fun _ _ _ _ _ => pts_one (pt_val (pe_call GH hr (by rfl) gH FH.kp bH .nil pass0 (pa_cons (pv 3) (pa_cons (pv 4) pa_nil)))))
            (fun _ _ _ _ _ => pv 4))
        (pss_cons (ps_if (pt_cmpR (op_neD hr.units) (pe_call GE hr (by rfl) gE FE.kp bE .nil pass0 (pa_cons (pv 3) pa_nil)) (pe_callTy call_tuple_of (by rfl) T.tuple PyProof.Rows.boot_tuple (pa_cons (pv 5) pa_nil)) (nomark _)) (pss_one (ps_ret pe_bl)) pss_nil)
        (pss_cons (ps_setLc (i := 6) (own := [("_law_words_here", 4)]) (g := gName 4) (te := tVar 4) rfl scLaw.nd rfl rfl (sw_true rfl rfl rfl (by decide +kernel))
            (pi_list (pe_call GA hr1 (by rfl) gA FA.kp bA .nil pass0 (pa_cons (pe_callB call_len_seq (by rfl) T.len PySem.boot_len (pa_cons (pv 3) pa_nil)) pa_nil)))
            (blkOk_by (N := ["_law_script", "_law_drawn", "_law_turn", "_law_panel_here", "_law_words_here", "_law_due", "_law_some", "_law_values", "_law_k"]) (sc := defScope sLaw) (by decide +kernel))
            (fun _ _ _ _ _ => pg_name (i := 4) scLaw.nd rfl (Or.inl rfl)) (fun _ _ _ _ _ => pts_one (pt_cmp (pc_notN (pe_call GR hr2 (by rfl) gR FR.kp bR .nil pass0 (pa_cons (pv 3) (pa_cons (pv 4) pa_nil))))))
            (fun _ _ _ _ _ => pv 4))
        (pss_one (ps_if (pt_cmpR (op_neD hr.units) (pv 6) (pv 5) (nomark _)) (pss_one (ps_ret pe_bl)) pss_nil)))))))
      (pss_cons (ps_for PassesOwn.never rfl (pi_range1 (by rfl) T.range (pa_cons pe_int pa_nil)) (pg_name (i := 2) scLaw.nd rfl (.inl rfl))
        (pss_cons (ps_set (i := 3) scLaw.nd rfl (.inr rfl) (pe_call GP hr2 (by rfl) gP FP.kp bP .nil pass0 (pa_cons (pv 1) (pa_cons (pe_op op_add pe_int (pv 2)) pa_nil))))
        (pss_cons (ps_setLc (i := 7) (own := [("_law_k", 8)]) (g := gName 8) (tt := tYes) (te := tCall spLW [] E0 (tCons (tVar 1) (tCons (tCB (rLenS K) (tCons (tVar 3) tNil)) tNil))) rfl scLaw.nd rfl rfl (sw_true rfl rfl rfl (by decide +kernel))
            (pi_range1 (by rfl) T.range (pa_cons pe_int pa_nil))
            (blkOk_by (N := ["_law_script", "_law_drawn", "_law_turn", "_law_panel_here", "_law_words_here", "_law_due", "_law_some", "_law_values", "_law_k"]) (sc := defScope sLaw) (by decide +kernel))
            (fun _ _ _ _ _ => pg_name (i := 8) scLaw.nd rfl (Or.inl rfl)) (fun _ _ _ _ _ => pts_nil)
            (fun _ _ _ _ _ => pe_call GW hr2 (by rfl) gW FW.kp bW .nil pass0 (pa_cons (pv 1) (pa_cons (pe_callB call_len_seq (by rfl) T.len PySem.boot_len (pa_cons (pv 3) pa_nil)) pa_nil))))
        (pss_cons (ps_expr (pe_bm PySem.F.plainAttrs_list PySem.F.slot_list_append PySem.F.type_list_append mt_append (pv 7) (pa_cons
            (pe_call GO hr (by rfl) gO FO.kp bO .nil pass0 (pa_cons (pv 3) (pa_cons (pe_call GL hr2 (by rfl) gL FL.kp bL .nil pass0 (pa_cons (pv 1) (pa_cons (pe_callB call_len_seq (by rfl) T.len PySem.boot_len (pa_cons (pv 3) pa_nil)) (pa_cons pe_int pa_nil)))) pa_nil))) pa_nil)))
        (pss_cons (ps_for PassesOwn.never rfl (pi_list (pv 7)) (pg_name (i := 4) scLaw.nd rfl (.inl rfl))
          (pss_one (ps_if (pt_cmpR op_ne (pe_cmp (pc_notN (pe_call GR hr2 (by rfl) gR FR.kp bR .nil pass0 (pa_cons (pv 3) (pa_cons (pv 4) pa_nil))))) (pe_call GH hr (by rfl) gH FH.kp bH .nil pass0 (pa_cons (pv 3) (pa_cons (pv 4) pa_nil))) (nomark _)) (pss_one (ps_ret pe_bl)) pss_nil)))
        (pss_one (ps_if (pt_not (pt_val (pe_call GH hr (by rfl) gH FH.kp bH .nil pass0 (pa_cons (pv 3) (pa_cons (pe_ix ix_list (pv 7) (pe_un un_neg pe_int) (fun _ _ => rfl)) pa_nil))))) (pss_one (ps_ret pe_bl)) pss_nil)))))))
      (pss_one (ps_ret pe_bl)))), ?_⟩
    refine ⟨_, rfl, a, ns, rfl, hS, hn, fun H1 d c r s1 hdc hdr hcr hD1 => ?_⟩
    refine ⟨(3 : Int), rfl, by decide, by decide, ?_⟩
    refine for_it (walk_rng0 (n := 3)) (fun i σ H' => ∃ (v2 v3 v5 v6 : Option V), σ = [some (.ref a), some (.ref d), v2, v3, none, v5, v6, none, none] ∧ DS d c r (100 * i) H')
      ⟨_, _, _, _, rfl, hD1⟩ (fun _ _ _ _ _ => trivial) ?_ ?_
    · rintro i x σ H2 H3 hi ⟨v2, v3, v5, v6, rfl, ds⟩ ⟨rfl, rfl⟩
      -- the panel
      refine ⟨_, rfl, d, c, r, 4, 100 * i, rfl, hdc, hdr, hcr, ds, by omega, by decide, by decide, fun H4 p P s34 ds4 hP ok h1 h4 => ?_⟩
      obtain ⟨pr, hpr, hdue⟩ := due_is P
      have hdl : ∀ k, (((allW P.length).take k).filter pr).length ≤ 2187 := fun k => by
        refine Nat.le_trans (List.length_filter_le _ _) ?_
        rw [List.length_take, allW_len]
        have := pow_le (n := P.length) (by omega)
        omega
      -- due
      obtain ⟨as4, ha4, hal4⟩ := hP.len
      refine ⟨_, rfl, p, _, rfl, .inr (SqT.of ha4), P.length, by rw [hal4]; rfl, by omega, fun H5 A bs s45 hA hW => ?_⟩
      have hP5 := hP.same s45
      have hbl : bs.length = (allW P.length).length := (Paired.length hW).symm
      refine ⟨A, rfl, ⟨_, SqL.of hA⟩, fun D hD => lc_it (walk_list (xs := bs.map V.ref)) (fun k H' => FS H5 D (((allW P.length).take k).filter pr) H') (FS.start hD) (fun k H' _ z => SqL.of (z.same _ _ hA)) ?_ ?_⟩
      · rintro k y H6 H7 hk fs ⟨rfl, hy⟩
        obtain ⟨b, hb, rfl⟩ := ref_of hy
        obtain ⟨w, hw, hwb⟩ := paired_at hW hb
        have hwl : w.length = P.length := mem_allW.mp (List.mem_of_getElem? hw)
        refine ⟨rfl, _, rfl, _, rfl, p, b, P, w, rfl, hP5.same fs.same, ok, hwb.same fs.same, hwl, by omega, fun H8 t s8 ht => ⟨_, rfl, ?_⟩⟩
        rw [fil_succ hw]
        refine ite2 (fun q => ?_) (fun q => ?_)
        · rw [if_pos ((hpr w).mpr (ht.mp q))]
          exact ⟨_, rfl, fs.put hD s8 ((hwb.same fs.same).same s8) (hdl k)⟩
        · rw [if_neg (fun z => q (ht.mpr ((hpr w).mp z))), List.append_nil]
          exact fs.next s8
      · intro H6 fs
        rw [show (allW P.length).take (bs.map V.ref).length = allW P.length by rw [List.length_map, hbl, List.take_length], hdue] at fs
        obtain ⟨cs, zD, hcs⟩ := fs
        have s56 := zD.same
        -- all_effects(panel) != tuple(due)
        refine ⟨_, rfl, p, P, rfl, hP5.same s56, ok, h1, by omega, fun H7 e es s67 he hes => ⟨_, rfl, D, _, rfl, .inl ⟨SqL.of (s67 _ _ zD.lst), fun tp htp => ?_⟩⟩⟩
        have s78 : Same H7 (upd H7 tp (.tup (cs.map V.ref))) := same_upd htp
        have t8 : upd H7 tp (.tup (cs.map V.ref)) tp = some (.tup (cs.map V.ref)) := upd_same
        generalize upd H7 tp (.tup (cs.map V.ref)) = H8 at s78 t8
        have hcs8 : Paired (WF H8) (due P) cs := (IK.of (s67.trans s78)).wfs hcs
        have hes8 : Paired (WT H8) (due P) es := (TK.of s78).wt hes
        refine ⟨.tuple (dTs (due P)), .tuple (dTs (due P)), .tup (SqT.of (s78 _ _ he)) (dp_Ts hes8), .tup (SqT.of t8) (dp_Fs hcs8), (Sm.tup (sm_Ts _)).shaped (by decide), (Sm.tup (sm_Ts _)).shaped (by decide), ?_⟩
        rw [eqv_tup]
        refine ⟨_, rfl, iteF (A := True) ?_⟩
        -- some
        have s58 : Same H5 H8 := s56.trans (s67.trans s78)
        have hP8 := hP5.same s58
        obtain ⟨as8, ha8, hal8⟩ := hP8.len
        refine ⟨_, rfl, p, _, rfl, .inr (SqT.of ha8), P.length, by rw [hal8]; rfl, by omega, fun H9 A2 bs2 s89 hA2 hW2 => ?_⟩
        have hP9 := hP8.same s89
        have hbl2 : bs2.length = (allW P.length).length := (Paired.length hW2).symm
        have hD9 : H9 D = some (.lst (cs.map V.ref)) := s89 _ _ (s78 _ _ (s67 _ _ zD.lst))
        have hcs9 : Paired (WF H9) (due P) cs := (IK.of s89).wfs hcs8
        refine ⟨A2, rfl, ⟨_, SqL.of hA2⟩, fun D2 hD2 => lc_it (walk_list (xs := bs2.map V.ref)) (fun k H' => FS H9 D2 (((allW P.length).take k).filter pr) H') (FS.start hD2) (fun k H' _ z => SqL.of (z.same _ _ hA2)) ?_ ?_⟩
        · rintro k y H10 H11 hk fs ⟨rfl, hy⟩
          obtain ⟨b, hb, rfl⟩ := ref_of hy
          obtain ⟨w, hw, hwb⟩ := paired_at hW2 hb
          have hwl : w.length = P.length := mem_allW.mp (List.mem_of_getElem? hw)
          refine ⟨rfl, _, rfl, _, rfl, p, b, P, w, rfl, hP9.same fs.same, ok, hwb.same fs.same, hwl, by omega, fun H12 s12 nc => ⟨false, rfl, iteF (A := True) ?_⟩, fun H12 q s12 hc => ⟨true, rfl, iteT (B := True) ?_⟩⟩
          · rw [fil_succ hw, if_neg (fun z => nc ((hpr w).mp z)), List.append_nil]
            exact fs.next s12
          · rw [fil_succ hw, if_pos ((hpr w).mpr hc)]
            exact ⟨_, rfl, fs.put hD2 s12 ((hwb.same fs.same).same s12) (hdl k)⟩
        · intro H10 fs
          rw [show (allW P.length).take (bs2.map V.ref).length = allW P.length by rw [List.length_map, hbl2, List.take_length], hdue] at fs
          obtain ⟨cs2, zD2, hcs2⟩ := fs
          have s910 := zD2.same
          refine ⟨_, rfl, _, rfl, .list (dTs (due P)), .list (dTs (due P)), .lst (SqL.of zD2.lst) (dp_Fs hcs2), .lst (SqL.of (s910 _ _ hD9)) (dp_Fs ((IK.of s910).wfs hcs9)), (Sm.lst (sm_Ts _)).shaped (by decide), (Sm.lst (sm_Ts _)).shaped (by decide), ?_⟩
          rw [eqv_lst]
          refine ⟨_, rfl, iteF (A := True) ?_⟩
          exact ⟨_, _, _, _, rfl, (ds4.same (s45.trans (s58.trans (s89.trans s910)))).mono (by omega)⟩
    · rintro σ H2 ⟨v2, v3, v5, v6, rfl, ds⟩
      refine ⟨(3 : Int), rfl, by decide, by decide, ?_⟩
      refine for_it (walk_rng0 (n := 3)) (fun i σ H' => ∃ (v2 v3 v4 v5 v6 v7 : Option V), σ = [some (.ref a), some (.ref d), v2, v3, v4, v5, v6, v7, none] ∧ DS d c r (300 + 1000 * i) H')
        ⟨_, _, _, _, _, _, rfl, ds⟩ (fun _ _ _ _ _ => trivial) ?_ ?_
      · rintro i x σ H3 H4 hi ⟨v2, v3, v4, v5, v6, v7, rfl, ds⟩ ⟨rfl, rfl⟩
        refine ⟨_, rfl, _, rfl, _, _, rfl, rfl, d, c, r, 5 + i, 300 + 1000 * i, by rw [show nV (5 + i) = V.int (5 + (i : Int)) by show V.int ((5 + i : Nat) : Int) = _; rw [Int.natCast_add]; rfl]; rfl, hdc, hdr, hcr, ds, by omega, by omega, by omega, fun H5 p P s45 ds5 hP ok h1 h7 => ?_⟩
        have hn7 : P.length ≤ 7 := by omega
        -- values
        refine ⟨(4 : Int), rfl, by decide, by decide, ?_⟩
        refine fun D hD => lc_it (walk_rng0 (n := 4)) (fun k H' => ∃ (ws : List (List W)) (bs : List Addr), SB d r H5 H' ∧ DS d c r (300 + 1000 * i + 100 + 100 * k) H' ∧ H' D = some (.lst (bs.map V.ref)) ∧ Paired (WF H') ws bs ∧ ws.length = k ∧ ∀ w, w ∈ ws → w.length = P.length) ⟨[], [], SB.of (same_upd hD), ds5.same (same_upd hD), upd_same, .nil, rfl, fun w z => (by cases z)⟩ (fun _ _ _ _ => trivial) ?_ ?_
        · rintro k x H6 H7 hk ⟨ws, bs, sb6, ds6, hv6, pw6, hwl, hw6⟩ ⟨rfl, rfl⟩
          obtain ⟨ed, ec, er⟩ := ds5.nn hD
          have hP6 := (ds5.nl sb6).pt hP
          obtain ⟨as6, ha6, hal6⟩ := hP6.len
          refine ⟨rfl, yes_lc ⟨_, rfl, _, rfl, p, _, rfl, .inr (SqT.of ha6), d, c, r, P.length, _, by rw [hal6]; rfl, hdc, hdr, hcr, ds6, by omega, by omega, fun H8 q w s8 ds8 hq hw => ?_⟩⟩
          have hv8 := s8 _ _ ed er hv6
          have ik8 : IK H7 H8 := ds6.nl s8
          have ik9 : IK H8 (upd H8 D (.lst (bs.map V.ref ++ [V.ref q]))) := IK.put hv8
          have hbl : bs.length = ws.length := (Paired.length pw6).symm
          refine ⟨bs.map V.ref, hv8, small (by rw [List.length_map]; omega), ws ++ [w], bs ++ [q], (sb6.trans s8).put hD, (ds8.put ed ec er).mono (by omega), by rw [upd_same, List.map_append]; rfl, paired_app (ik9.wfs (ik8.wfs pw6)) (.cons (ik9.wf hq) .nil), by rw [List.length_append, hwl]; rfl, fun u hu => ?_⟩
          rcases List.mem_append.mp hu with z | z
          · exact hw6 u z
          · rw [List.mem_singleton.mp z]; exact hw
        · rintro H6 ⟨ws, bs, sb6, ds6, hv6, pw6, hwl, hw6⟩
          obtain ⟨ed, ec, er⟩ := ds5.nn hD
          have hP6 := (ds5.nl sb6).pt hP
          obtain ⟨as6, ha6, hal6⟩ := hP6.len
          -- values.append(effect_of(panel, row))
          refine ⟨_, rfl, .inl ⟨rfl, _, SqL.of hv6⟩, _, rfl, _, rfl, _, rfl, p, _, rfl, .inr (SqT.of ha6), d, c, r, P.length, 12, _, by rw [hal6]; rfl, hdc, hdr, hcr, ds6, by omega, h1, by omega, by omega, fun H7 q l s67 ds7 hl hlb => ?_⟩
          have ik7 : IK H6 H7 := ds6.nl s67
          have hP7 := ik7.pt hP6
          refine ⟨p, q, P, l, rfl, hP7, h1, by omega, hl, hlb, fun H8 w q8 s78 hw8 rw8 => ?_⟩
          have hv8 : H8 D = some (.lst (bs.map V.ref)) := s78 _ _ (s67 _ _ ed er hv6)
          have hbl : bs.length = ws.length := (Paired.length pw6).symm
          refine ⟨D, _, _, rfl, rfl, hv8, small (by rw [List.length_map]; omega), ?_⟩
          have ik9 : IK H8 (upd H8 D (.lst (bs.map V.ref ++ [V.ref q8]))) := IK.put hv8
          have hP9 := ik9.pt (hP7.same s78)
          have pw9 := paired_app (ik9.wfs ((IK.of s78).wfs (ik7.wfs pw6))) (.cons (ik9.wf hw8) .nil)
          have ds9 : DS d c r _ (upd H8 D (.lst (bs.map V.ref ++ [V.ref q8]))) := (ds7.same s78).put ed ec er
          have hv9 : upd H8 D (.lst (bs.map V.ref ++ [V.ref q8])) D = some (.lst ((bs ++ [q8]).map V.ref)) := by rw [upd_same, List.map_append]; rfl
          have hq9 := ik9.wf hw8
          generalize upd H8 D (.lst (bs.map V.ref ++ [V.ref q8])) = H9 at hP9 pw9 ds9 hv9 hq9
          have hwall : ∀ u, u ∈ ws ++ [w] → u.length = P.length := fun u hu => by
            rcases List.mem_append.mp hu with z | z
            · exact hw6 u z
            · rw [List.mem_singleton.mp z]; exact reach_len rw8
          refine ⟨_, rfl, D, rfl, ⟨_, SqL.of hv9⟩, for_list (K := K) (a := D) (xs := (bs ++ [q8]).map V.ref) (fun j σ H' => ∃ (v2 v4 v5 v6 : Option V), σ = [some (.ref a), some (.ref d), v2, some (.ref p), v4, v5, v6, some (.ref D), none] ∧ Same H9 H')
            ⟨_, _, _, _, rfl, Same.refl _⟩ (fun j σ H' _ ⟨_, _, _, _, _, q⟩ => SqL.of (q _ _ hv9)) ?_ ?_⟩
          · rintro j y σ H10 hj ⟨v2, v4, v5, v6, rfl, s10⟩
            obtain ⟨b, hb, rfl⟩ := ref_of hj
            obtain ⟨u, hu, hub⟩ := paired_at pw9 hb
            have hul : u.length = P.length := hwall u (List.mem_of_getElem? hu)
            have fin : ∀ (H11 : Hp) (x : V) (t : Bool), Same H9 H11 → (t = true ↔ Cond P u) → (x = .non → ¬ Cond P u) → (∀ e, x = .ref e → Cond P u) → (x = .non ∨ ∃ e, x = .ref e) → (!decide (V.bl (!decide (x = V.non)) = V.bl t)) = false := by
              intro H11 x t _ ht h0 hr hx
              rcases hx with rfl | ⟨e, rfl⟩
              · have : t = false := by
                  cases t with
                  | false => rfl
                  | true => exact absurd (ht.mp rfl) (h0 rfl)
                subst this; rfl
              · have : t = true := ht.mpr (hr e rfl)
                subst this; rfl
            refine ⟨_, rfl, _, rfl, p, b, P, u, rfl, hP9.same s10, ok, hub.same s10, hul, by omega, fun H11 s11 nc => ?_, fun H11 e s11 hc => ?_⟩
            · refine ⟨_, rfl, _, rfl, p, b, P, u, rfl, hP9.same (s10.trans s11), ok, hub.same (s10.trans s11), hul, by omega, fun H12 t s12 ht => ⟨rfl, _, rfl, ?_⟩⟩
              rw [fin H12 .non t (s10.trans (s11.trans s12)) ht (fun _ => nc) (fun e z => by cases z) (.inl rfl)]
              exact iteF (A := True) ⟨_, _, _, _, rfl, s10.trans (s11.trans s12)⟩
            · refine ⟨_, rfl, _, rfl, p, b, P, u, rfl, hP9.same (s10.trans s11), ok, hub.same (s10.trans s11), hul, by omega, fun H12 t s12 ht => ⟨rfl, _, rfl, ?_⟩⟩
              rw [fin H12 (.ref e) t (s10.trans (s11.trans s12)) ht (fun z => by cases z) (fun _ _ => hc) (.inr ⟨e, rfl⟩)]
              exact iteF (A := True) ⟨_, _, _, _, rfl, s10.trans (s11.trans s12)⟩
          · rintro σ H10 ⟨v2, v4, v5, v6, rfl, s10⟩
            have hv10 := s10 _ _ hv9
            have hlast : atI ((bs ++ [q8]).map V.ref) (-1) = some (V.ref q8) := by
              rw [List.map_append]
              exact atI_last _ _
            refine ⟨_, rfl, _, rfl, 1, rfl, D, _, -1, _, rfl, rfl, SqL.of hv10, hlast, p, q8, P, w, rfl, hP9.same s10, ok, hq9.same s10, reach_len rw8, by omega, fun H11 t s11 ht => ⟨t, rfl, ?_⟩⟩
            have et : t = true := ht.mpr (reach_cond ok rw8)
            subst et
            show if false = true then _ else _
            rw [if_neg Bool.false_ne_true]
            exact ⟨_, _, _, _, _, _, rfl, (ds9.same (s10.trans s11)).mono (by omega)⟩
      · rintro σ H3 ⟨v2, v3, v4, v5, v6, v7, rfl, ds⟩
        exact k H3
end
end K19

/-! part W15 -/
/-! The end: what the top has written; the theorem. -/
namespace K19
open PySem PySem.Spec PyProof.Rows L2
theorem all_mk {l : PySem.W.OpenLaw} {w : World} {K : PySem.W.Frag} {h : Heap} {mg : Str → Option Value} {fa : Addr} (X : K.In h) (G : h.Ns mainGlobals mg) (hfa : mg "law" = some (.ref fa))
    {f1 f2 f3 f4 f5 f6 f7 f8 f9 f10 f11 f12 f13 f14 f15 f16 f17 f18 f19 f20 : Addr} {od1 od2 od3 od4 od5 od6 od7 od8 od9 od10 od11 od12 od13 od14 od15 od16 od17 od18 od19 od20 : Option Addr} {an1 an2 an3 an4 an5 an6 an7 an8 an9 an10 an11 an12 an13 an14 an15 an16 an17 an18 an19 an20 : Option Addr} {sl1 sl2 sl3 sl4 sl5 sl6 sl7 sl8 sl9 sl10 sl11 sl12 sl13 sl14 sl15 sl16 sl17 sl18 sl19 sl20 : Array (Option Value)} {oc1 oc2 oc3 oc4 oc5 oc6 oc7 oc8 oc9 oc10 oc11 oc12 oc13 oc14 oc15 oc16 oc17 oc18 oc19 oc20 : Value} {kV1 kV2 kV3 kV4 kV5 kV6 kV7 kV8 kV9 kV10 kV11 kV12 kV13 kV14 kV15 kV16 kV17 kV18 kV19 kV20 : Value} {dc1 dc2 dc3 dc4 dc5 dc6 dc7 dc8 dc9 dc10 dc11 dc12 dc13 dc14 dc15 dc16 dc17 dc18 dc19 dc20 : Value} {pm1 pm2 pm3 pm4 pm5 pm6 pm7 pm8 pm9 pm10 pm11 pm12 pm13 pm14 pm15 pm16 pm17 pm18 pm19 pm20 : Value} {cd1 cd2 cd3 cd4 cd5 cd6 cd7 cd8 cd9 cd10 cd11 cd12 cd13 cd14 cd15 cd16 cd17 cd18 cd19 cd20 : Value} {ct1 ct2 ct3 ct4 ct5 ct6 ct7 ct8 ct9 ct10 ct11 ct12 ct13 ct14 ct15 ct16 ct17 ct18 ct19 ct20 : Value}
    {tON tOFF tSAME tSM : Tok}
    (a1 : PySem.W.nsIn K mainGlobals "changed_word" = some (some (.ref f1))) (l1 : K.lookup f1 = some ⟨oc1, od1, .func (PySem.W.fnOf "changed_word" "changed_word" (defArgs sCW) (defBody sCW) (defScope sCW) .none kV1 dc1 pm1 an1 cd1 ct1), sl1⟩) (c1 : PySem.W.codeIn K cd1 "changed_word" = true) (k1 : PySem.W.keepIn K (.ref f1) = true)
    (a2 : PySem.W.nsIn K mainGlobals "effect_after" = some (some (.ref f2))) (l2 : K.lookup f2 = some ⟨oc2, od2, .func (PySem.W.fnOf "effect_after" "effect_after" (defArgs sEA) (defBody sEA) (defScope sEA) .none kV2 dc2 pm2 an2 cd2 ct2), sl2⟩) (c2 : PySem.W.codeIn K cd2 "effect_after" = true) (k2 : PySem.W.keepIn K (.ref f2) = true)
    (a3 : PySem.W.nsIn K mainGlobals "effect_of" = some (some (.ref f3))) (l3 : K.lookup f3 = some ⟨oc3, od3, .func (PySem.W.fnOf "effect_of" "effect_of" (defArgs sEO) (defBody sEO) (defScope sEO) .none kV3 dc3 pm3 an3 cd3 ct3), sl3⟩) (c3 : PySem.W.codeIn K cd3 "effect_of" = true) (k3 : PySem.W.keepIn K (.ref f3) = true)
    (a4 : PySem.W.nsIn K mainGlobals "free_buttons" = some (some (.ref f4))) (l4 : K.lookup f4 = some ⟨oc4, od4, .func (PySem.W.fnOf "free_buttons" "free_buttons" (defArgs sFB) (defBody sFB) (defScope sFB) .none kV4 dc4 pm4 an4 cd4 ct4), sl4⟩) (c4 : PySem.W.codeIn K cd4 "free_buttons" = true) (k4 : PySem.W.keepIn K (.ref f4) = true)
    (a5 : PySem.W.nsIn K mainGlobals "is_effect_form" = some (some (.ref f5))) (l5 : K.lookup f5 = some ⟨oc5, od5, .func (PySem.W.fnOf "is_effect_form" "is_effect_form" (defArgs sIE) (defBody sIE) (defScope sIE) .none kV5 dc5 pm5 an5 cd5 ct5), sl5⟩) (c5 : PySem.W.codeIn K cd5 "is_effect_form" = true) (k5 : PySem.W.keepIn K (.ref f5) = true)
    (a6 : PySem.W.nsIn K mainGlobals "ordered" = some (some (.ref f6))) (l6 : K.lookup f6 = some ⟨oc6, od6, .func (PySem.W.fnOf "ordered" "ordered" (defArgs sOR) (defBody sOR) (defScope sOR) .none kV6 dc6 pm6 an6 cd6 ct6), sl6⟩) (c6 : PySem.W.codeIn K cd6 "ordered" = true) (k6 : PySem.W.keepIn K (.ref f6) = true)
    (a7 : PySem.W.nsIn K mainGlobals "gather" = some (some (.ref f7))) (l7 : K.lookup f7 = some ⟨oc7, od7, .func (PySem.W.fnOf "gather" "gather" (defArgs sGA) (defBody sGA) (defScope sGA) .none kV7 dc7 pm7 an7 cd7 ct7), sl7⟩) (c7 : PySem.W.codeIn K cd7 "gather" = true) (k7 : PySem.W.keepIn K (.ref f7) = true)
    (a8 : PySem.W.nsIn K mainGlobals "row_for" = some (some (.ref f8))) (l8 : K.lookup f8 = some ⟨oc8, od8, .func (PySem.W.fnOf "row_for" "row_for" (defArgs sRF) (defBody sRF) (defScope sRF) .none kV8 dc8 pm8 an8 cd8 ct8), sl8⟩) (c8 : PySem.W.codeIn K cd8 "row_for" = true) (k8 : PySem.W.keepIn K (.ref f8) = true)
    (a9 : PySem.W.nsIn K mainGlobals "all_effects" = some (some (.ref f9))) (l9 : K.lookup f9 = some ⟨oc9, od9, .func (PySem.W.fnOf "all_effects" "all_effects" (defArgs sAE) (defBody sAE) (defScope sAE) .none kV9 dc9 pm9 an9 cd9 ct9), sl9⟩) (c9 : PySem.W.codeIn K cd9 "all_effects" = true) (k9 : PySem.W.keepIn K (.ref f9) = true)
    (a10 : PySem.W.nsIn K mainGlobals "way_back" = some (some (.ref f10))) (l10 : K.lookup f10 = some ⟨oc10, od10, .func (PySem.W.fnOf "way_back" "way_back" (defArgs sWB) (defBody sWB) (defScope sWB) .none kV10 dc10 pm10 an10 cd10 ct10), sl10⟩) (c10 : PySem.W.codeIn K cd10 "way_back" = true) (k10 : PySem.W.keepIn K (.ref f10) = true)
    (a11 : PySem.W.nsIn K mainGlobals "find_round" = some (some (.ref f11))) (l11 : K.lookup f11 = some ⟨oc11, od11, .func (PySem.W.fnOf "find_round" "find_round" (defArgs sFR) (defBody sFR) (defScope sFR) .none kV11 dc11 pm11 an11 cd11 ct11), sl11⟩) (c11 : PySem.W.codeIn K cd11 "find_round" = true) (k11 : PySem.W.keepIn K (.ref f11) = true)
    (a12 : PySem.W.nsIn K mainGlobals "_law_draws" = some (some (.ref f12))) (l12 : K.lookup f12 = some ⟨oc12, od12, .func (PySem.W.fnOf "_law_draws" "_law_draws" (defArgs sLD) (defBody sLD) (defScope sLD) .none kV12 dc12 pm12 an12 cd12 ct12), sl12⟩) (c12 : PySem.W.codeIn K cd12 "_law_draws" = true) (k12 : PySem.W.keepIn K (.ref f12) = true)
    (a13 : PySem.W.nsIn K mainGlobals "_law_next" = some (some (.ref f13))) (l13 : K.lookup f13 = some ⟨oc13, od13, .func (PySem.W.fnOf "_law_next" "_law_next" (defArgs sLN) (defBody sLN) (defScope sLN) .none kV13 dc13 pm13 an13 cd13 ct13), sl13⟩) (c13 : PySem.W.codeIn K cd13 "_law_next" = true) (k13 : PySem.W.keepIn K (.ref f13) = true)
    (a14 : PySem.W.nsIn K mainGlobals "_law_panel" = some (some (.ref f14))) (l14 : K.lookup f14 = some ⟨oc14, od14, .func (PySem.W.fnOf "_law_panel" "_law_panel" (defArgs sLP) (defBody sLP) (defScope sLP) .none kV14 dc14 pm14 an14 cd14 ct14), sl14⟩) (c14 : PySem.W.codeIn K cd14 "_law_panel" = true) (k14 : PySem.W.keepIn K (.ref f14) = true)
    (a15 : PySem.W.nsIn K mainGlobals "_law_row" = some (some (.ref f15))) (l15 : K.lookup f15 = some ⟨oc15, od15, .func (PySem.W.fnOf "_law_row" "_law_row" (defArgs sLR) (defBody sLR) (defScope sLR) .none kV15 dc15 pm15 an15 cd15 ct15), sl15⟩) (c15 : PySem.W.codeIn K cd15 "_law_row" = true) (k15 : PySem.W.keepIn K (.ref f15) = true)
    (a16 : PySem.W.nsIn K mainGlobals "_law_words" = some (some (.ref f16))) (l16 : K.lookup f16 = some ⟨oc16, od16, .func (PySem.W.fnOf "_law_words" "_law_words" (defArgs sLW) (defBody sLW) (defScope sLW) .none kV16 dc16 pm16 an16 cd16 ct16), sl16⟩) (c16 : PySem.W.codeIn K cd16 "_law_words" = true) (k16 : PySem.W.keepIn K (.ref f16) = true)
    (a17 : PySem.W.nsIn K mainGlobals "_law_gathered" = some (some (.ref f17))) (l17 : K.lookup f17 = some ⟨oc17, od17, .func (PySem.W.fnOf "_law_gathered" "_law_gathered" (defArgs sLG) (defBody sLG) (defScope sLG) .none kV17 dc17 pm17 an17 cd17 ct17), sl17⟩) (c17 : PySem.W.codeIn K cd17 "_law_gathered" = true) (k17 : PySem.W.keepIn K (.ref f17) = true)
    (a18 : PySem.W.nsIn K mainGlobals "_law_holds" = some (some (.ref f18))) (l18 : K.lookup f18 = some ⟨oc18, od18, .func (PySem.W.fnOf "_law_holds" "_law_holds" (defArgs sLH) (defBody sLH) (defScope sLH) .none kV18 dc18 pm18 an18 cd18 ct18), sl18⟩) (c18 : PySem.W.codeIn K cd18 "_law_holds" = true) (k18 : PySem.W.keepIn K (.ref f18) = true)
    (a19 : PySem.W.nsIn K mainGlobals "_law_all_words" = some (some (.ref f19))) (l19 : K.lookup f19 = some ⟨oc19, od19, .func (PySem.W.fnOf "_law_all_words" "_law_all_words" (defArgs sLA) (defBody sLA) (defScope sLA) .none kV19 dc19 pm19 an19 cd19 ct19), sl19⟩) (c19 : PySem.W.codeIn K cd19 "_law_all_words" = true) (k19 : PySem.W.keepIn K (.ref f19) = true)
    (a20 : PySem.W.nsIn K mainGlobals "law" = some (some (.ref f20))) (l20 : K.lookup f20 = some ⟨oc20, od20, .func (PySem.W.fnOf "law" "law" (defArgs sLaw) (defBody sLaw) (defScope sLaw) .none kV20 dc20 pm20 an20 cd20 ct20), sl20⟩) (c20 : PySem.W.codeIn K cd20 "law" = true) (k20 : PySem.W.keepIn K (.ref f20) = true)
    (zON : PySem.W.nsIn K mainGlobals "ON" = some (some (.str "on" tON))) (zOFF : PySem.W.nsIn K mainGlobals "OFF" = some (some (.str "off" tOFF))) (zSAME : PySem.W.nsIn K mainGlobals "SAME" = some (some (.str "same" tSAME))) (zSM : PySem.W.nsIn K mainGlobals "SMALL_BUTTONS" = some (some (.int 7 tSM)))
    (z1 : PySem.W.nsIn K mainGlobals "len" = some none) (z2 : PySem.W.nsIn K mainGlobals "tuple" = some none) (z3 : PySem.W.nsIn K mainGlobals "list" = some none) (z4 : PySem.W.nsIn K mainGlobals "range" = some none) (z5 : PySem.W.nsIn K mainGlobals "enumerate" = some none) (z6 : PySem.W.nsIn K mainGlobals "any" = some none) (z7 : PySem.W.nsIn K mainGlobals "all" = some none) (z8 : PySem.W.nsIn K mainGlobals "isinstance" = some none) (z9 : PySem.W.nsIn K mainGlobals "str" = some none) (z10 : PySem.W.nsIn K mainGlobals "sorted" = some none) (z11 : PySem.W.nsIn K mainGlobals "int" = some none) :
    ∃ fd : FuncData, (∀ (s : Shared) (v : Value), BindsTo s fd ⟨[v], []⟩ [("_law_script", v)]) ∧ ∀ base : Heap, K.In base → base.Ns mainGlobals mg → FnOk l.prog w K mg base CX0 4 fa fd ["_law_script"] (spLaw K) := by
  have e := hfa.symm.trans (PySem.W.mg_of X G a20)
  cases e
  have T : Txt mg := ⟨⟨_, PySem.W.mg_of X G zON⟩, ⟨_, PySem.W.mg_of X G zOFF⟩, ⟨_, PySem.W.mg_of X G zSAME⟩, ⟨_, PySem.W.mg_of X G zSM⟩, PySem.W.mg_none_of X G z1, PySem.W.mg_none_of X G z2, PySem.W.mg_none_of X G z3, PySem.W.mg_none_of X G z4, PySem.W.mg_none_of X G z5, PySem.W.mg_none_of X G z6, PySem.W.mg_none_of X G z7, PySem.W.mg_none_of X G z8, PySem.W.mg_none_of X G z9, PySem.W.mg_none_of X G z10, PySem.W.mg_none_of X G z11⟩
  have FCW := fun_mk (st := sCW) l1 c1 k1
  have bCW := FCW.binds (ps := ["panel", "pressed", "button", "word"]) fun _ _ _ _ _ _ us hl => match us, hl with | [_, _, _, _], _ => rfl
  have gCW := PySem.W.mg_of X G a1
  have FEA := fun_mk (st := sEA) l2 c2 k2
  have bEA := FEA.binds (ps := ["panel", "effect", "pressed"]) fun _ _ _ _ _ _ us hl => match us, hl with | [_, _, _], _ => rfl
  have gEA := PySem.W.mg_of X G a2
  have FEO := fun_mk (st := sEO) l3 c3 k3
  have bEO := FEO.binds (ps := ["panel", "row"]) fun _ _ _ _ _ _ us hl => match us, hl with | [_, _], _ => rfl
  have gEO := PySem.W.mg_of X G a3
  have FFB := fun_mk (st := sFB) l4 c4 k4
  have bFB := FFB.binds (ps := ["panel", "effect"]) fun _ _ _ _ _ _ us hl => match us, hl with | [_, _], _ => rfl
  have gFB := PySem.W.mg_of X G a4
  have FIE := fun_mk (st := sIE) l5 c5 k5
  have bIE := FIE.binds (ps := ["panel", "value"]) fun _ _ _ _ _ _ us hl => match us, hl with | [_, _], _ => rfl
  have gIE := PySem.W.mg_of X G a5
  have FOR := fun_mk (st := sOR) l6 c6 k6
  have bOR := FOR.binds (ps := ["panel", "buttons"]) fun _ _ _ _ _ _ us hl => match us, hl with | [_, _], _ => rfl
  have gOR := PySem.W.mg_of X G a6
  have FGA := fun_mk (st := sGA) l7 c7 k7
  have bGA := FGA.binds (ps := ["panel", "effect", "free", "pressed"]) fun _ _ _ _ _ _ us hl => match us, hl with | [_, _, _, _], _ => rfl
  have gGA := PySem.W.mg_of X G a7
  have FRF := fun_mk (st := sRF) l8 c8 k8
  have bRF := FRF.binds (ps := ["panel", "value"]) fun _ _ _ _ _ _ us hl => match us, hl with | [_, _], _ => rfl
  have gRF := PySem.W.mg_of X G a8
  have FAE := fun_mk (st := sAE) l9 c9 k9
  have bAE := FAE.binds (ps := ["panel"]) fun _ _ _ _ _ _ us hl => match us, hl with | [_], _ => rfl
  have gAE := PySem.W.mg_of X G a9
  have FWB := fun_mk (st := sWB) l10 c10 k10
  have bWB := FWB.binds (ps := ["panel", "start", "allowed"]) fun _ _ _ _ _ _ us hl => match us, hl with | [_, _, _], _ => rfl
  have gWB := PySem.W.mg_of X G a10
  have FFR := fun_mk (st := sFR) l11 c11 k11
  have bFR := FFR.binds (ps := ["panel", "state"]) fun _ _ _ _ _ _ us hl => match us, hl with | [_, _], _ => rfl
  have gFR := PySem.W.mg_of X G a11
  have FLD := fun_mk (st := sLD) l12 c12 k12
  have bLD := FLD.binds (ps := ["_law_script"]) fun _ _ _ _ _ _ us hl => match us, hl with | [_], _ => rfl
  have gLD := PySem.W.mg_of X G a12
  have FLN := fun_mk (st := sLN) l13 c13 k13
  have bLN := FLN.binds (ps := ["_law_drawn", "_law_many"]) fun _ _ _ _ _ _ us hl => match us, hl with | [_, _], _ => rfl
  have gLN := PySem.W.mg_of X G a13
  have FLP := fun_mk (st := sLP) l14 c14 k14
  have bLP := FLP.binds (ps := ["_law_drawn", "_law_most"]) fun _ _ _ _ _ _ us hl => match us, hl with | [_, _], _ => rfl
  have gLP := PySem.W.mg_of X G a14
  have FLR := fun_mk (st := sLR) l15 c15 k15
  have bLR := FLR.binds (ps := ["_law_drawn", "_law_n", "_law_most"]) fun _ _ _ _ _ _ us hl => match us, hl with | [_, _, _], _ => rfl
  have gLR := PySem.W.mg_of X G a15
  have FLW := fun_mk (st := sLW) l16 c16 k16
  have bLW := FLW.binds (ps := ["_law_drawn", "_law_n"]) fun _ _ _ _ _ _ us hl => match us, hl with | [_, _], _ => rfl
  have gLW := PySem.W.mg_of X G a16
  have FLG := fun_mk (st := sLG) l17 c17 k17
  have bLG := FLG.binds (ps := ["_law_panel_here", "_law_words_here"]) fun _ _ _ _ _ _ us hl => match us, hl with | [_, _], _ => rfl
  have gLG := PySem.W.mg_of X G a17
  have FLH := fun_mk (st := sLH) l18 c18 k18
  have bLH := FLH.binds (ps := ["_law_panel_here", "_law_words_here"]) fun _ _ _ _ _ _ us hl => match us, hl with | [_, _], _ => rfl
  have gLH := PySem.W.mg_of X G a18
  have FLA := fun_mk (st := sLA) l19 c19 k19
  have bLA := FLA.binds (ps := ["_law_n"]) fun _ _ _ _ _ _ us hl => match us, hl with | [_], _ => rfl
  have gLA := PySem.W.mg_of X G a19
  have FLaw := fun_mk (st := sLaw) l20 c20 k20
  refine ⟨PySem.W.fnOf "law" "law" (defArgs sLaw) (defBody sLaw) (defScope sLaw) .none kV20 dc20 pm20 an20 cd20 ct20, fun s v => .of_eq rfl, fun base _ _ => ?_⟩
  exact ok_law FLaw T FLD bLD gLD (ok_ld FLD T) FLP bLP gLP (ok_lp FLP T FLN bLN gLN) FLA bLA gLA (ok_la FLA T)
    FLH bLH gLH (ok_lh FLH T FFR bFR gFR (ok_fr FFR T FWB bWB gWB) FLG bLG gLG)
    FAE bAE gAE (ok_ae FAE T FEA bEA gEA (ok_ea FEA T FCW bCW gCW))
    FRF bRF gRF (ok_rf FRF T FIE bIE gIE FFB bFB gFB FOR bOR gOR FGA bGA gGA)
    FLW bLW gLW (ok_lw FLW T FLN bLN gLN) FEO bEO gEO (ok_eo FEO T FEA bEA gEA (ok_ef FEA T FCW bCW gCW)) FLR bLR gLR (ok_lr FLR T FLN bLN gLN)
end K19
open PySem PySem.W PyProof.Rows
set_option maxHeartbeats 0 in
theorem PySem.Challenge.cw_pressrelease_k19_whole_conditions_of_eff_holds : PySem.Challenge.rw_pressrelease_k19_whole_conditions_of_eff.Holds := by
  w_on; o_law; k_head; (case hw => w_witness2)
  k_fill
  refine L2.walk_of (l := PySem.Challenge.rw_pressrelease_k19_whole_conditions_of_eff) (n := 63) (k := 4) (x := "_law_script") (CX := fun _ => L2.CX0) (sp := fun w => K19.spLaw _) rfl (by decide) rfl ⟨rfl, by decide, by decide⟩ (fun w h Y => PySem.W.kIn_of Y) ?F (fun _ _ a ns hl _ hS => ⟨a, ns, rfl, hS, hl, fun _ => rfl⟩) (fun _ _ _ _ _ h => h)
  case F =>
    intro w mg fa h KX G hmg
    refine' K19.all_mk KX G hmg ?a1 ?l1 ?c1 ?k1 ?a2 ?l2 ?c2 ?k2 ?a3 ?l3 ?c3 ?k3 ?a4 ?l4 ?c4 ?k4 ?a5 ?l5 ?c5 ?k5 ?a6 ?l6 ?c6 ?k6 ?a7 ?l7 ?c7 ?k7 ?a8 ?l8 ?c8 ?k8 ?a9 ?l9 ?c9 ?k9 ?a10 ?l10 ?c10 ?k10 ?a11 ?l11 ?c11 ?k11 ?a12 ?l12 ?c12 ?k12 ?a13 ?l13 ?c13 ?k13 ?a14 ?l14 ?c14 ?k14 ?a15 ?l15 ?c15 ?k15 ?a16 ?l16 ?c16 ?k16 ?a17 ?l17 ?c17 ?k17 ?a18 ?l18 ?c18 ?k18 ?a19 ?l19 ?c19 ?k19 ?a20 ?l20 ?c20 ?k20 ?zON ?zOFF ?zSAME ?zSM ?z1 ?z2 ?z3 ?z4 ?z5 ?z6 ?z7 ?z8 ?z9 ?z10 ?z11
    (case a1 => k_is)
    (case l1 => k_is)
    (case c1 => k_is)
    (case k1 => k_is)
    (case a2 => k_is)
    (case l2 => k_is)
    (case c2 => k_is)
    (case k2 => k_is)
    (case a3 => k_is)
    (case l3 => k_is)
    (case c3 => k_is)
    (case k3 => k_is)
    (case a4 => k_is)
    (case l4 => k_is)
    (case c4 => k_is)
    (case k4 => k_is)
    (case a5 => k_is)
    (case l5 => k_is)
    (case c5 => k_is)
    (case k5 => k_is)
    (case a6 => k_is)
    (case l6 => k_is)
    (case c6 => k_is)
    (case k6 => k_is)
    (case a7 => k_is)
    (case l7 => k_is)
    (case c7 => k_is)
    (case k7 => k_is)
    (case a8 => k_is)
    (case l8 => k_is)
    (case c8 => k_is)
    (case k8 => k_is)
    (case a9 => k_is)
    (case l9 => k_is)
    (case c9 => k_is)
    (case k9 => k_is)
    (case a10 => k_is)
    (case l10 => k_is)
    (case c10 => k_is)
    (case k10 => k_is)
    (case a11 => k_is)
    (case l11 => k_is)
    (case c11 => k_is)
    (case k11 => k_is)
    (case a12 => k_is)
    (case l12 => k_is)
    (case c12 => k_is)
    (case k12 => k_is)
    (case a13 => k_is)
    (case l13 => k_is)
    (case c13 => k_is)
    (case k13 => k_is)
    (case a14 => k_is)
    (case l14 => k_is)
    (case c14 => k_is)
    (case k14 => k_is)
    (case a15 => k_is)
    (case l15 => k_is)
    (case c15 => k_is)
    (case k15 => k_is)
    (case a16 => k_is)
    (case l16 => k_is)
    (case c16 => k_is)
    (case k16 => k_is)
    (case a17 => k_is)
    (case l17 => k_is)
    (case c17 => k_is)
    (case k17 => k_is)
    (case a18 => k_is)
    (case l18 => k_is)
    (case c18 => k_is)
    (case k18 => k_is)
    (case a19 => k_is)
    (case l19 => k_is)
    (case c19 => k_is)
    (case k19 => k_is)
    (case a20 => k_is)
    (case l20 => k_is)
    (case c20 => k_is)
    (case k20 => k_is)
    (case zON => k_is)
    (case zOFF => k_is)
    (case zSAME => k_is)
    (case zSM => k_is)
    (case z1 => k_is)
    (case z2 => k_is)
    (case z3 => k_is)
    (case z4 => k_is)
    (case z5 => k_is)
    (case z6 => k_is)
    (case z7 => k_is)
    (case z8 => k_is)
    (case z9 => k_is)
    (case z10 => k_is)
    (case z11 => k_is)

