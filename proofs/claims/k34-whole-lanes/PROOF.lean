import PyProof.Rows.All
import Wide.All
import OpenK.AllK
import Wide.FinOn
import HandS.ForMost
import HandS.Exc
import HandS.ExcInit
import HandS.ExcField
import HandS.Defaults
import HandS.ClsMeth
import HandS.HeadHook4
import HandS.HeadWalk
import PySem.Challenge.RW_onlythedirt_k34_whole_lanes
import HandS.Head0
import HandS.Head1
import HandS.Head2
import KE.GoesMore
import PyProof.Draws
import HandS.Lambda
import HandS.SortKw
import KE.SortKeyHeap
import HandS.IsInst
import HandS.TupAny
import HandS.Steps
import HandS.ExcOwn
import PyProof.EqLayable
import PyProof.P3Eq
import HandS.EndTab
import HandS.HeadEnd
import HandS.HeadHook1
import HandS.HeadHook2
section
set_option autoImplicit false
/-! the mathematics of clips: no program in sight -/
namespace K34
/-- the data of a paint -/
inductive Pt where
  | solid (v : Int)
  | steps (a b n : Int)
  | pic (w h : Int) (vs cs : List Int)
/-- the data of a clip -/
structure Clip where
  s : Int
  n : Int
  p : Option Pt
  a : Int
  b : Int
def Clip.e (c : Clip) : Int := c.s + c.n
def level (c : Clip) (f : Int) : Int :=
  if f - c.s < c.a then (256 * (f - c.s + 1)).fdiv (c.a + 1)
  else if c.e - 1 - f < c.b then (256 * (c.e - 1 - f + 1)).fdiv (c.b + 1) else 256
def at_ (c : Clip) (f : Int) : Prop := c.s ≤ f ∧ f < c.e
instance (c : Clip) (f : Int) : Decidable (at_ c f) := inferInstanceAs (Decidable (_ ∧ _))
def lane : List Clip → Int → Option (Option Pt × Int)
  | [], _ => none
  | c :: r, f => if at_ c f then some (c.p, level c f) else lane r f
/-! ### cutting -/
def inside (c : Clip) (m : Int) : Prop := c.s < m ∧ m < c.e
instance (c : Clip) (f : Int) : Decidable (inside c f) := inferInstanceAs (Decidable (_ ∧ _))
def cutOk (c : Clip) (m : Int) : Prop := c.s + c.a ≤ m ∧ m ≤ c.e - c.b
instance (c : Clip) (f : Int) : Decidable (cutOk c f) := inferInstanceAs (Decidable (_ ∧ _))
def left (c : Clip) (m : Int) : Clip := ⟨c.s, m - c.s, c.p, c.a, 0⟩
def right (c : Clip) (m : Int) : Clip := ⟨m, c.e - m, c.p, 0, c.b⟩
theorem left_e (c : Clip) (m : Int) : (left c m).e = m := by
  show c.s + (m - c.s) = m
  omega
theorem right_e (c : Clip) (m : Int) : (right c m).e = c.e := by
  show m + (c.e - m) = c.e
  omega
def split1 (c : Clip) (m : Int) : Option (List Clip) := if inside c m then (if cutOk c m then some [left c m, right c m] else none) else some [c]
def split : List Clip → Int → Option (List Clip)
  | [], _ => some []
  | c :: r, m => match split1 c m with
    | none => none
    | some x => match split r m with
      | none => none
      | some y => some (x ++ y)
def outside (first last : Int) (c : Clip) : Prop := c.e ≤ first ∨ last ≤ c.s
instance (first last : Int) (c : Clip) : Decidable (outside first last c) := inferInstanceAs (Decidable (_ ∨ _))
def lifted (cs : List Clip) (first last : Int) : Option (List Clip) := match split cs first with
  | none => none
  | some x => match split x last with
    | none => none
    | some y => some (y.filter fun c => decide (outside first last c))
def later (c : Clip) (k : Int) : Clip := ⟨c.s + k, c.n, c.p, c.a, c.b⟩
def shift (m k : Int) (c : Clip) : Clip := if m ≤ c.s then later c k else c
def rippledOut (cs : List Clip) (first last : Int) : Option (List Clip) := match lifted cs first last with
  | none => none
  | some y => some (y.map (shift last (first - last)))
def rippledIn (cs : List Clip) (m k : Int) : Option (List Clip) := match split cs m with
  | none => none
  | some y => some (y.map (shift m k))
/-! ### well-formed clips -/
def PtOk : Pt → Prop
  | .solid v => 0 ≤ v ∧ v ≤ 255
  | .steps a b n => (0 ≤ a ∧ a ≤ 255) ∧ (0 ≤ b ∧ b ≤ 255) ∧ 1 ≤ n ∧ n ≤ 12
  | .pic w h vs cs => (1 ≤ w ∧ w ≤ 12) ∧ (1 ≤ h ∧ h ≤ 12) ∧ ((vs.length : Int) = w * h ∧ ∀ v ∈ vs, 0 ≤ v ∧ v ≤ 255) ∧ (cs.length : Int) = w * h ∧ ∀ v ∈ cs, 0 ≤ v ∧ v ≤ 256
/-- a clip of a layer that adjusts (or not) -/
structure COk (adj : Bool) (B : Int) (c : Clip) : Prop where
  s0 : 0 ≤ c.s
  n1 : 1 ≤ c.n
  eB : c.e ≤ B
  a0 : 0 ≤ c.a
  b0 : 0 ≤ c.b
  ab : c.a + c.b ≤ c.n
  yes : adj = true → c.p = none ∧ c.a = 0 ∧ c.b = 0
  no : adj = false → ∃ q, c.p = some q ∧ PtOk q
def Sep (x y : Clip) : Prop := x.e ≤ y.s
structure Wf (adj : Bool) (B : Int) (k : Nat) (cs : List Clip) : Prop where
  ok : ∀ c ∈ cs, COk adj B c
  sep : cs.Pairwise Sep
  len : cs.length ≤ k
/-! ### lanes by membership -/
theorem lane_none {cs : List Clip} {f : Int} (h : ∀ c ∈ cs, ¬ at_ c f) : lane cs f = none := by
  induction cs with
  | nil => rfl
  | cons c r ih =>
    unfold lane
    rw [if_neg (h c List.mem_cons_self)]
    exact ih fun d hd => h d (List.mem_cons_of_mem _ hd)
theorem lane_some {cs : List Clip} {f : Int} (hs : cs.Pairwise Sep) (hn : ∀ c ∈ cs, 1 ≤ c.n) {c : Clip} (hc : c ∈ cs) (h : at_ c f) : lane cs f = some (c.p, level c f) := by
  induction cs with
  | nil => cases hc
  | cons d r ih =>
    unfold lane
    rw [List.pairwise_cons] at hs
    rcases List.mem_cons.mp hc with e | hc
    · subst e
      rw [if_pos h]
    · have h1 := hs.1 c hc
      have h2 := hn c (List.mem_cons_of_mem _ hc)
      have : ¬ at_ d f := by
        unfold at_ Sep Clip.e at *
        omega
      rw [if_neg this]
      exact ih hs.2 (fun x hx => hn x (List.mem_cons_of_mem _ hx)) hc
/-! ### split -/
theorem split_mem {cs ds : List Clip} {m : Int} (h : split cs m = some ds) : ∀ d, d ∈ ds ↔ ∃ c ∈ cs, ∃ x, split1 c m = some x ∧ d ∈ x := by
  induction cs generalizing ds with
  | nil =>
    cases h
    simp
  | cons c r ih =>
    unfold split at h
    cases h1 : split1 c m with
    | none => rw [h1] at h; cases h
    | some x =>
      cases h2 : split r m with
      | none => rw [h1, h2] at h; cases h
      | some y =>
        rw [h1, h2] at h
        cases h
        intro d
        rw [List.mem_append, ih h2 d]
        constructor
        · rintro (hd | ⟨e, he, z, hz, hd⟩)
          · exact ⟨c, List.mem_cons_self, x, h1, hd⟩
          · exact ⟨e, List.mem_cons_of_mem _ he, z, hz, hd⟩
        · rintro ⟨e, he, z, hz, hd⟩
          rcases List.mem_cons.mp he with q | he
          · subst q
            rw [h1] at hz
            cases hz
            exact .inl hd
          · exact .inr ⟨e, he, z, hz, hd⟩
/-- what a piece is of its clip -/
theorem split1_mem {c d : Clip} {m : Int} {x : List Clip} (h : split1 c m = some x) (hd : d ∈ x) :
    (¬ inside c m ∧ d = c) ∨ (inside c m ∧ cutOk c m ∧ (d = left c m ∨ d = right c m)) := by
  unfold split1 at h
  by_cases hi : inside c m
  · rw [if_pos hi] at h
    by_cases ho : cutOk c m
    · rw [if_pos ho] at h
      cases h
      refine .inr ⟨hi, ho, ?_⟩
      simpa using hd
    · rw [if_neg ho] at h
      cases h
  · rw [if_neg hi] at h
    cases h
    exact .inl ⟨hi, by simpa using hd⟩
theorem split1_cok {adj : Bool} {B : Int} {c d : Clip} {m : Int} {x : List Clip} (h : split1 c m = some x) (hd : d ∈ x) (o : COk adj B c) : COk adj B d ∧ ¬ inside d m ∧ c.s ≤ d.s ∧ d.e ≤ c.e := by
  obtain ⟨s0, n1, eB, a0, b0, ab, yes, no⟩ := o
  rcases split1_mem h hd with ⟨hi, rfl⟩ | ⟨hi, ho, rfl | rfl⟩
  · exact ⟨⟨s0, n1, eB, a0, b0, ab, yes, no⟩, hi, Int.le_refl _, Int.le_refl _⟩
  · unfold inside cutOk left Clip.e at *
    refine ⟨⟨s0, ?_, ?_, a0, ?_, ?_, fun q => ⟨(yes q).1, (yes q).2.1, rfl⟩, no⟩, ?_, ?_, ?_⟩ <;> simp only [Clip.e] at * <;> omega
  · unfold inside cutOk right Clip.e at *
    refine ⟨⟨?_, ?_, ?_, ?_, b0, ?_, fun q => ⟨(yes q).1, rfl, (yes q).2.2⟩, no⟩, ?_, ?_, ?_⟩ <;> simp only [Clip.e] at * <;> omega
theorem split_id {cs : List Clip} {m : Int} (h : ∀ c ∈ cs, ¬ inside c m) : split cs m = some cs := by
  induction cs with
  | nil => rfl
  | cons c r ih =>
    unfold split split1
    rw [if_neg (h c List.mem_cons_self), ih fun d hd => h d (List.mem_cons_of_mem _ hd)]
    rfl
theorem split_sep {adj : Bool} {B : Int} {cs ds : List Clip} {m : Int} (h : split cs m = some ds) (ok : ∀ c ∈ cs, COk adj B c) (sep : cs.Pairwise Sep) : ds.Pairwise Sep ∧ ds.length ≤ cs.length + 1 := by
  induction cs generalizing ds with
  | nil =>
    cases h
    exact ⟨List.Pairwise.nil, by simp⟩
  | cons c r ih =>
    have hall := h
    unfold split at h
    cases h1 : split1 c m with
    | none => rw [h1] at h; cases h
    | some x =>
      cases h2 : split r m with
      | none => rw [h1, h2] at h; cases h
      | some y =>
        rw [h1, h2] at h
        cases h
        rw [List.pairwise_cons] at sep
        have okr : ∀ d ∈ r, COk adj B d := fun d hd => ok d (List.mem_cons_of_mem _ hd)
        obtain ⟨i1, i2⟩ := ih h2 okr sep.2
        have okc := ok c List.mem_cons_self
        have cross : ∀ u ∈ x, ∀ v ∈ y, Sep u v := fun u hu v hv => by
          obtain ⟨g, hg, z, hz, hv⟩ := (split_mem h2 v).mp hv
          have q1 := (split1_cok h1 hu okc).2.2.2
          have q2 := (split1_cok hz hv (okr g hg)).2.2.1
          have q3 := sep.1 g hg
          unfold Sep at *
          omega
        by_cases hi : inside c m
        · have hr : ∀ d ∈ r, ¬ inside d m := fun d hd => by
            have q := sep.1 d hd
            unfold inside Sep at *
            omega
          rw [split_id hr] at h2
          cases h2
          unfold split1 at h1
          rw [if_pos hi] at h1
          by_cases ho : cutOk c m
          · rw [if_pos ho] at h1
            cases h1
            refine ⟨List.pairwise_append.mpr ⟨?_, sep.2, cross⟩, by simp⟩
            refine List.pairwise_cons.mpr ⟨fun d hd => ?_, List.pairwise_singleton _ _⟩
            have e : d = right c m := by simpa using hd
            subst e
            unfold Sep
            rw [left_e]
            exact Int.le_refl _
          · rw [if_neg ho] at h1
            cases h1
        · unfold split1 at h1
          rw [if_neg hi] at h1
          cases h1
          refine ⟨List.pairwise_append.mpr ⟨List.pairwise_singleton _ _, i1, cross⟩, ?_⟩
          simp only [List.length_append, List.length_cons, List.length_nil]
          omega
theorem split_wf {adj : Bool} {B : Int} {k : Nat} {cs ds : List Clip} {m : Int} (h : split cs m = some ds) (w : Wf adj B k cs) : Wf adj B (k + 1) ds ∧ ∀ d ∈ ds, ¬ inside d m := by
  obtain ⟨p1, p2⟩ := split_sep h w.ok w.sep
  refine ⟨⟨fun d hd => ?_, p1, Nat.le_trans p2 (Nat.succ_le_succ w.len)⟩, fun d hd => ?_⟩
  · obtain ⟨c, hc, x, hx, hd⟩ := (split_mem h d).mp hd
    exact (split1_cok hx hd (w.ok c hc)).1
  · obtain ⟨c, hc, x, hx, hd⟩ := (split_mem h d).mp hd
    exact (split1_cok hx hd (w.ok c hc)).2.1
theorem Wf.n1 {adj : Bool} {B : Int} {k : Nat} {cs : List Clip} (w : Wf adj B k cs) : ∀ c ∈ cs, 1 ≤ c.n := fun c hc => (w.ok c hc).n1
/-- the lane stays the same -/
theorem split_lane {adj : Bool} {B : Int} {k : Nat} {cs ds : List Clip} {m : Int} (h : split cs m = some ds) (w : Wf adj B k cs) (f : Int) : lane ds f = lane cs f := by
  have wd := (split_wf h w).1
  by_cases hx : ∃ c ∈ cs, at_ c f
  · obtain ⟨c, hc, hf⟩ := hx
    rw [lane_some w.sep w.n1 hc hf]
    have okc := w.ok c hc
    cases h1 : split1 c m with
    | none =>
      exfalso
      have : ∀ l : List Clip, c ∈ l → split l m = none := by
        intro l
        induction l with
        | nil => intro q; cases q
        | cons d r ih =>
          intro q
          unfold split
          rcases List.mem_cons.mp q with e | q
          · subst e
            rw [h1]
          · rw [ih q]
            cases split1 d m <;> rfl
      rw [this cs hc] at h
      cases h
    | some x =>
      have mem : ∀ d ∈ x, d ∈ ds := fun d hd => (split_mem h d).mpr ⟨c, hc, x, h1, hd⟩
      unfold split1 at h1
      by_cases hi : inside c m
      · rw [if_pos hi] at h1
        by_cases ho : cutOk c m
        · rw [if_pos ho] at h1
          cases h1
          obtain ⟨s0, n1, eB, a0, b0, ab, yes, no⟩ := okc
          by_cases hl : f < m
          · rw [lane_some wd.sep wd.n1 (mem (left c m) (by simp)) (by
              unfold at_ at *
              rw [left_e]
              exact ⟨hf.1, hl⟩)]
            have : level (left c m) f = level c f := by
              unfold level
              rw [left_e]
              show (if f - c.s < c.a then _ else if m - 1 - f < 0 then _ else 256) = _
              by_cases q : f - c.s < c.a
              · rw [if_pos q, if_pos q]
                rfl
              · rw [if_neg q, if_neg q]
                unfold cutOk inside at_ at *
                rw [if_neg (by omega), if_neg (by omega)]
            rw [this]
            rfl
          · rw [lane_some wd.sep wd.n1 (mem (right c m) (by simp)) (by
              unfold at_ at *
              rw [right_e]
              exact ⟨Int.not_lt.mp hl, hf.2⟩)]
            have : level (right c m) f = level c f := by
              unfold level
              rw [right_e]
              show (if f - m < 0 then _ else _) = _
              unfold cutOk inside at_ at *
              rw [if_neg (show ¬ f - m < 0 by omega), if_neg (show ¬ f - c.s < c.a by omega)]
              rfl
            rw [this]
            rfl
        · rw [if_neg ho] at h1
          cases h1
      · rw [if_neg hi] at h1
        cases h1
        exact lane_some wd.sep wd.n1 (mem c (by simp)) hf
  · have hn : ∀ c ∈ cs, ¬ at_ c f := fun c hc q => hx ⟨c, hc, q⟩
    rw [lane_none hn]
    refine lane_none fun d hd q => ?_
    obtain ⟨c, hc, x, h1, hd⟩ := (split_mem h d).mp hd
    have z := split1_cok h1 hd (w.ok c hc)
    refine hn c hc ?_
    unfold at_ at *
    omega
/-! ### lifted -/
theorem lifted_wf {adj : Bool} {B : Int} {k : Nat} {cs ds : List Clip} {first last : Int} (h : lifted cs first last = some ds) (w : Wf adj B k cs) : Wf adj B (k + 2) ds ∧ ∀ d ∈ ds, outside first last d := by
  unfold lifted at h
  cases h1 : split cs first with
  | none => rw [h1] at h; cases h
  | some x =>
    cases h2 : split x last with
    | none => rw [h1] at h; simp only at h; rw [h2] at h; cases h
    | some y =>
      rw [h1] at h
      simp only at h
      rw [h2] at h
      cases h
      obtain ⟨w1, _⟩ := split_wf h1 w
      obtain ⟨w2, _⟩ := split_wf h2 w1
      refine ⟨⟨fun d hd => w2.ok d (List.mem_filter.mp hd).1, w2.sep.filter _, Nat.le_trans (List.length_filter_le _ _) w2.len⟩, fun d hd => of_decide_eq_true (List.mem_filter.mp hd).2⟩
theorem lifted_lane {adj : Bool} {B : Int} {k : Nat} {cs ds : List Clip} {first last : Int} (h : lifted cs first last = some ds) (w : Wf adj B k cs) (hfl : first < last) (f : Int) : lane ds f = if first ≤ f ∧ f < last then none else lane cs f := by
  obtain ⟨wd, od⟩ := lifted_wf h w
  unfold lifted at h
  cases h1 : split cs first with
  | none => rw [h1] at h; cases h
  | some x =>
    cases h2 : split x last with
    | none => rw [h1] at h; simp only at h; rw [h2] at h; cases h
    | some y =>
      rw [h1] at h
      simp only at h
      rw [h2] at h
      cases h
      obtain ⟨w1, i1⟩ := split_wf h1 w
      obtain ⟨w2, i2⟩ := split_wf h2 w1
      have i12 : ∀ d ∈ y, ¬ inside d first := fun d hd => by
        obtain ⟨c, hc, z, hz, hd⟩ := (split_mem h2 d).mp hd
        have q := i1 c hc
        have q2 := (split1_cok hz hd (w1.ok c hc))
        unfold inside at *
        omega
      by_cases hin : first ≤ f ∧ f < last
      · rw [if_pos hin]
        refine lane_none fun d hd q => ?_
        have o := od d hd
        unfold outside at_ at *
        omega
      · rw [if_neg hin, ← split_lane h1 w f, ← split_lane h2 w1 f]
        by_cases hx : ∃ c ∈ y, at_ c f
        · obtain ⟨c, hc, hf⟩ := hx
          rw [lane_some w2.sep w2.n1 hc hf]
          refine lane_some wd.sep wd.n1 (List.mem_filter.mpr ⟨hc, decide_eq_true ?_⟩) hf
          have q1 := i12 c hc
          have q2 := i2 c hc
          unfold outside inside at_ at *
          omega
        · have hn : ∀ c ∈ y, ¬ at_ c f := fun c hc q => hx ⟨c, hc, q⟩
          rw [lane_none hn]
          exact lane_none fun d hd => hn d (List.mem_filter.mp hd).1
/-! ### shifted -/
theorem shift_at {k f : Int} {c : Clip} : at_ (later c k) f ↔ at_ c (f - k) := by
  unfold at_ later Clip.e
  simp only
  omega
theorem shift_level {k f : Int} {c : Clip} : level (later c k) f = level c (f - k) := by
  unfold level later
  simp only [Clip.e]
  have e1 : f - (c.s + k) = f - k - c.s := by omega
  have e2 : c.s + k + c.n - 1 - f = c.s + c.n - 1 - (f - k) := by omega
  simp only [e1, e2]
  rfl
/-- rippled in -/
theorem rippledIn_ok {adj : Bool} {B : Int} {k : Nat} {cs ds : List Clip} {m n : Int} (h : rippledIn cs m n = some ds) (w : Wf adj B k cs) (hn : 1 ≤ n) :
    Wf adj (B + n) (k + 1) ds ∧ ∀ f, lane ds f = if f < m then lane cs f else if f < m + n then none else lane cs (f - n) := by
  unfold rippledIn at h
  cases h1 : split cs m with
  | none => rw [h1] at h; cases h
  | some y =>
    rw [h1] at h
    cases h
    obtain ⟨w1, i1⟩ := split_wf h1 w
    have S : ∀ c ∈ y, (m ≤ c.s ∧ shift m n c = later c n) ∨ (c.e ≤ m ∧ shift m n c = c) := fun c hc => by
      by_cases q : m ≤ c.s
      · exact .inl ⟨q, if_pos q⟩
      · refine .inr ⟨?_, if_neg q⟩
        have z := i1 c hc
        unfold inside at z
        omega
    have wd : Wf adj (B + n) (k + 1) (y.map (shift m n)) := by
      refine ⟨fun d hd => ?_, ?_, by rw [List.length_map]; exact w1.len⟩
      · obtain ⟨c, hc, rfl⟩ := List.mem_map.mp hd
        obtain ⟨s0, n1, eB, a0, b0, ab, yes, no⟩ := w1.ok c hc
        rcases S c hc with ⟨q, e⟩ | ⟨q, e⟩ <;> rw [e]
        · refine ⟨?_, n1, ?_, a0, b0, ab, yes, no⟩ <;> unfold later Clip.e at * <;> simp only <;> omega
        · exact ⟨s0, n1, by omega, a0, b0, ab, yes, no⟩
      · rw [List.pairwise_map]
        refine w1.sep.imp_of_mem fun {c d} hc hd q => ?_
        have n1 := w1.n1 d hd
        have n2 := w1.n1 c hc
        unfold Sep at *
        rcases S c hc with ⟨q1, e1⟩ | ⟨q1, e1⟩ <;> rcases S d hd with ⟨q2, e2⟩ | ⟨q2, e2⟩ <;> rw [e1, e2] <;> unfold later Clip.e at * <;> (try simp only) <;> omega
    refine ⟨wd, fun f => ?_⟩
    have mem : ∀ c ∈ y, shift m n c ∈ y.map (shift m n) := fun c hc => List.mem_map.mpr ⟨c, hc, rfl⟩
    by_cases f1 : f < m
    · rw [if_pos f1, ← split_lane h1 w f]
      by_cases hx : ∃ c ∈ y, at_ c f
      · obtain ⟨c, hc, hf⟩ := hx
        rw [lane_some w1.sep w1.n1 hc hf]
        rcases S c hc with ⟨q, e⟩ | ⟨q, e⟩
        · unfold at_ at hf
          omega
        · have z := mem c hc
          rw [e] at z
          exact lane_some wd.sep wd.n1 z hf
      · have hn' : ∀ c ∈ y, ¬ at_ c f := fun c hc q => hx ⟨c, hc, q⟩
        rw [lane_none hn']
        refine lane_none fun d hd q => ?_
        obtain ⟨c, hc, rfl⟩ := List.mem_map.mp hd
        rcases S c hc with ⟨q1, e⟩ | ⟨q1, e⟩
        · rw [e] at q
          unfold at_ later at q
          simp only at q
          omega
        · rw [e] at q
          exact hn' c hc q
    · rw [if_neg f1]
      by_cases f2 : f < m + n
      · rw [if_pos f2]
        refine lane_none fun d hd q => ?_
        obtain ⟨c, hc, rfl⟩ := List.mem_map.mp hd
        rcases S c hc with ⟨q1, e⟩ | ⟨q1, e⟩
        · rw [e, shift_at] at q
          unfold at_ at q
          omega
        · rw [e] at q
          unfold at_ at q
          omega
      · rw [if_neg f2, ← split_lane h1 w (f - n)]
        by_cases hx : ∃ c ∈ y, at_ c (f - n)
        · obtain ⟨c, hc, hf⟩ := hx
          rw [lane_some w1.sep w1.n1 hc hf]
          rcases S c hc with ⟨q, e⟩ | ⟨q, e⟩
          · have z := mem c hc
            rw [e] at z
            rw [lane_some wd.sep wd.n1 z ((shift_at).mpr hf), shift_level]
            rfl
          · unfold at_ at hf
            omega
        · have hn' : ∀ c ∈ y, ¬ at_ c (f - n) := fun c hc q => hx ⟨c, hc, q⟩
          rw [lane_none hn']
          refine lane_none fun d hd q => ?_
          obtain ⟨c, hc, rfl⟩ := List.mem_map.mp hd
          rcases S c hc with ⟨q1, e⟩ | ⟨q1, e⟩
          · rw [e, shift_at] at q
            exact hn' c hc q
          · rw [e] at q
            unfold at_ at q
            omega
/-- rippled out -/
theorem rippledOut_ok {adj : Bool} {B : Int} {k : Nat} {cs ds : List Clip} {a b : Int} (h : rippledOut cs a b = some ds) (w : Wf adj B k cs) (h0 : 0 ≤ a) (hab : a < b) :
    Wf adj B (k + 2) ds ∧ ∀ f, lane ds f = if f < a then lane cs f else lane cs (f + b - a) := by
  unfold rippledOut at h
  cases h1 : lifted cs a b with
  | none => rw [h1] at h; cases h
  | some y =>
    rw [h1] at h
    cases h
    obtain ⟨w1, o1⟩ := lifted_wf h1 w
    have L := lifted_lane h1 w hab
    have S : ∀ c ∈ y, (b ≤ c.s ∧ shift b (a - b) c = later c (a - b)) ∨ (c.e ≤ a ∧ c.s < b ∧ shift b (a - b) c = c) := fun c hc => by
      have n1 := w1.n1 c hc
      have z := o1 c hc
      unfold outside at z
      by_cases q : b ≤ c.s
      · exact .inl ⟨q, if_pos q⟩
      · exact .inr ⟨by omega, by omega, if_neg q⟩
    have wd : Wf adj B (k + 2) (y.map (shift b (a - b))) := by
      refine ⟨fun d hd => ?_, ?_, by rw [List.length_map]; exact w1.len⟩
      · obtain ⟨c, hc, rfl⟩ := List.mem_map.mp hd
        obtain ⟨s0, n1, eB, a0, b0, ab, yes, no⟩ := w1.ok c hc
        rcases S c hc with ⟨q, e⟩ | ⟨q, q2, e⟩ <;> rw [e]
        · refine ⟨?_, n1, ?_, a0, b0, ab, yes, no⟩ <;> unfold later Clip.e at * <;> simp only <;> omega
        · exact ⟨s0, n1, eB, a0, b0, ab, yes, no⟩
      · rw [List.pairwise_map]
        refine w1.sep.imp_of_mem fun {c d} hc hd q => ?_
        have n1 := w1.n1 d hd
        have n2 := w1.n1 c hc
        unfold Sep at *
        rcases S c hc with ⟨q1, e1⟩ | ⟨q1, p1, e1⟩ <;> rcases S d hd with ⟨q2, e2⟩ | ⟨q2, p2, e2⟩ <;> rw [e1, e2] <;> unfold later Clip.e at * <;> (try simp only) <;> omega
    refine ⟨wd, fun f => ?_⟩
    have mem : ∀ c ∈ y, shift b (a - b) c ∈ y.map (shift b (a - b)) := fun c hc => List.mem_map.mpr ⟨c, hc, rfl⟩
    have ef : f + b - a = f - (a - b) := by omega
    by_cases f1 : f < a
    · rw [if_pos f1, show lane cs f = lane y f by rw [L f, if_neg (by omega)]]
      by_cases hx : ∃ c ∈ y, at_ c f
      · obtain ⟨c, hc, hf⟩ := hx
        rw [lane_some w1.sep w1.n1 hc hf]
        rcases S c hc with ⟨q, e⟩ | ⟨q, q2, e⟩
        · unfold at_ at hf
          omega
        · have z := mem c hc
          rw [e] at z
          exact lane_some wd.sep wd.n1 z hf
      · have hn' : ∀ c ∈ y, ¬ at_ c f := fun c hc q => hx ⟨c, hc, q⟩
        rw [lane_none hn']
        refine lane_none fun d hd q => ?_
        obtain ⟨c, hc, rfl⟩ := List.mem_map.mp hd
        rcases S c hc with ⟨q1, e⟩ | ⟨q1, q2, e⟩
        · rw [e, shift_at] at q
          unfold at_ at q
          omega
        · rw [e] at q
          exact hn' c hc q
    · rw [if_neg f1, ef, show lane cs (f - (a - b)) = lane y (f - (a - b)) by rw [L, if_neg (by omega)]]
      by_cases hx : ∃ c ∈ y, at_ c (f - (a - b))
      · obtain ⟨c, hc, hf⟩ := hx
        rw [lane_some w1.sep w1.n1 hc hf]
        rcases S c hc with ⟨q, e⟩ | ⟨q, q2, e⟩
        · have z := mem c hc
          rw [e] at z
          rw [lane_some wd.sep wd.n1 z ((shift_at).mpr hf), shift_level]
          rfl
        · unfold at_ at hf
          omega
      · have hn' : ∀ c ∈ y, ¬ at_ c (f - (a - b)) := fun c hc q => hx ⟨c, hc, q⟩
        rw [lane_none hn']
        refine lane_none fun d hd q => ?_
        obtain ⟨c, hc, rfl⟩ := List.mem_map.mp hd
        rcases S c hc with ⟨q1, e⟩ | ⟨q1, q2, e⟩
        · rw [e, shift_at] at q
          exact hn' c hc q
        · rw [e] at q
          unfold at_ at q
          omega
/-! ### placed -/
/-- the clips around a new one that is put among them: any order of the starts -/
structure PutIn (cs : List Clip) (c : Clip) (ds : List Clip) : Prop where
  perm : ds.Perm (cs ++ [c])
  rise : ds.Pairwise fun x y => x.s ≤ y.s
theorem lifted_free {adj : Bool} {B : Int} {k : Nat} {cs ds : List Clip} {c : Clip} (h : lifted cs c.s c.e = some ds) (w : Wf adj B k cs) : ∀ d ∈ ds, ¬ (d.s < c.e ∧ c.s < d.e) := fun d hd q => by
  have z := (lifted_wf h w).2 d hd
  unfold outside at z
  omega
theorem placed_ok {adj : Bool} {B : Int} {k : Nat} {cs ms ds : List Clip} {c : Clip} (h : lifted cs c.s c.e = some ms) (w : Wf adj B k cs) (oc : COk adj B c) (p : PutIn ms c ds) :
    Wf adj B (k + 3) ds ∧ ∀ f, lane ds f = if c.s ≤ f ∧ f < c.e then some (c.p, level c f) else lane cs f := by
  obtain ⟨w1, o1⟩ := lifted_wf h w
  have hab : c.s < c.e := by
    have := oc.n1
    unfold Clip.e
    omega
  have L := lifted_lane h w hab
  have mem : ∀ d, d ∈ ds ↔ d ∈ ms ∨ d = c := fun d => by
    rw [p.perm.mem_iff, List.mem_append, List.mem_singleton]
  have ok : ∀ d ∈ ds, COk adj B d := fun d hd => ((mem d).mp hd).elim (w1.ok d) fun e => e ▸ oc
  -- two of them do not meet
  have apart : ds.Pairwise fun x y => x.e ≤ y.s ∨ y.e ≤ x.s := by
    refine (List.Perm.pairwise_iff (fun {x y} q => q.symm) p.perm).mpr (List.pairwise_append.mpr ⟨w1.sep.imp fun q => .inl q, List.pairwise_singleton _ _, fun x hx y hy => ?_⟩)
    have e : y = c := by simpa using hy
    subst e
    have z := o1 x hx
    unfold outside at z
    exact z
  have wd : Wf adj B (k + 3) ds := by
    refine ⟨ok, ?_, ?_⟩
    · refine (apart.and p.rise).imp_of_mem fun {x y} hx hy q => ?_
      have n1 := (ok x hx).n1
      have n2 := (ok y hy).n1
      unfold Sep Clip.e at *
      omega
    · rw [p.perm.length_eq, List.length_append]
      have := w1.len
      simp only [List.length_cons, List.length_nil]
      omega
  refine ⟨wd, fun f => ?_⟩
  by_cases hf : c.s ≤ f ∧ f < c.e
  · rw [if_pos hf]
    exact lane_some wd.sep wd.n1 ((mem c).mpr (.inr rfl)) hf
  · rw [if_neg hf]
    have e : lane cs f = lane ms f := by rw [L f, if_neg hf]
    rw [e]
    by_cases hx : ∃ d ∈ ms, at_ d f
    · obtain ⟨d, hd, hdf⟩ := hx
      rw [lane_some w1.sep w1.n1 hd hdf]
      exact lane_some wd.sep wd.n1 ((mem d).mpr (.inl hd)) hdf
    · have hn' : ∀ d ∈ ms, ¬ at_ d f := fun d hd q => hx ⟨d, hd, q⟩
      rw [lane_none hn']
      refine lane_none fun d hd q => ?_
      rcases (mem d).mp hd with z | z
      · exact hn' d z q
      · subst z
        exact hf q
end K34
end

section
set_option Elab.async false
set_option linter.all false
set_option maxRecDepth 100000
set_option maxHeartbeats 0
/-! the text by places, the facts that the head leaves (printed by gen_head.py) -/
namespace K34
open PySem PySem.Spec PyProof.Rows L2
def topS (i : Nat) : Stmt := PySem.Challenge.pw_onlythedirt_k34_whole_lanes.main.body.getD i (.Pass ⟨0, 0, 0, 0⟩)
abbrev s_is_row : Stmt := topS 12
abbrev s_is_number : Stmt := topS 13
abbrev s_check_picture : Stmt := topS 14
abbrev s_has_form : Stmt := topS 16
abbrev s_check_paint : Stmt := topS 17
abbrev s_is_clip : Stmt := topS 22
abbrev s_end_of : Stmt := topS 23
abbrev s_check_clips : Stmt := topS 24
abbrev s_clip_at : Stmt := topS 25
abbrev s_level_at : Stmt := topS 26
abbrev s_lane : Stmt := topS 27
abbrev s_halves : Stmt := topS 29
abbrev s_split : Stmt := topS 30
abbrev s_put : Stmt := topS 33
abbrev s_lifted : Stmt := topS 36
abbrev s_placed : Stmt := topS 37
abbrev s_later : Stmt := topS 38
abbrev s_rippled_out : Stmt := topS 39
abbrev s_rippled_in : Stmt := topS 40
abbrev s_L_deck : Stmt := topS 42
abbrev s_L_draw : Stmt := topS 43
abbrev s_L_paint : Stmt := topS 45
abbrev s_L_clip : Stmt := topS 46
abbrev s_L_clips : Stmt := topS 47
abbrev s_L_end : Stmt := topS 48
abbrev s_L_frame : Stmt := topS 49
abbrev s_L_level : Stmt := topS 50
abbrev s_L_lane : Stmt := topS 51
abbrev s_L_frames : Stmt := topS 52
abbrev s_L_numbers : Stmt := topS 60
abbrev s_L_told : Stmt := topS 61
abbrev s_L_due : Stmt := topS 63
abbrev s_law : Stmt := topS 64
abbrev s_FilmErrorI : Stmt := inClass (topS 1) 0
abbrev s_BadCutI : Stmt := inClass (topS 3) 0
def d_is_row : He.DefD := ⟨("is_row", none), "is_row", "is_row", defArgs s_is_row, defBody s_is_row, defScope s_is_row, [], []⟩
def d_is_number : He.DefD := ⟨("is_number", none), "is_number", "is_number", defArgs s_is_number, defBody s_is_number, defScope s_is_number, [], []⟩
def d_check_picture : He.DefD := ⟨("check_picture", none), "check_picture", "check_picture", defArgs s_check_picture, defBody s_check_picture, defScope s_check_picture, [], []⟩
def d_has_form : He.DefD := ⟨("has_form", none), "has_form", "has_form", defArgs s_has_form, defBody s_has_form, defScope s_has_form, [], []⟩
def d_check_paint : He.DefD := ⟨("check_paint", none), "check_paint", "check_paint", defArgs s_check_paint, defBody s_check_paint, defScope s_check_paint, [], []⟩
def d_is_clip : He.DefD := ⟨("is_clip", none), "is_clip", "is_clip", defArgs s_is_clip, defBody s_is_clip, defScope s_is_clip, [], []⟩
def d_end_of : He.DefD := ⟨("end_of", none), "end_of", "end_of", defArgs s_end_of, defBody s_end_of, defScope s_end_of, [], []⟩
def d_check_clips : He.DefD := ⟨("check_clips", none), "check_clips", "check_clips", defArgs s_check_clips, defBody s_check_clips, defScope s_check_clips, [], []⟩
def d_clip_at : He.DefD := ⟨("clip_at", none), "clip_at", "clip_at", defArgs s_clip_at, defBody s_clip_at, defScope s_clip_at, [], []⟩
def d_level_at : He.DefD := ⟨("level_at", none), "level_at", "level_at", defArgs s_level_at, defBody s_level_at, defScope s_level_at, [], []⟩
def d_lane : He.DefD := ⟨("lane", none), "lane", "lane", defArgs s_lane, defBody s_lane, defScope s_lane, [], []⟩
def d_halves : He.DefD := ⟨("halves", none), "halves", "halves", defArgs s_halves, defBody s_halves, defScope s_halves, [], []⟩
def d_split : He.DefD := ⟨("split", none), "split", "split", defArgs s_split, defBody s_split, defScope s_split, [], []⟩
def d_put : He.DefD := ⟨("put", none), "put", "put", defArgs s_put, defBody s_put, defScope s_put, [], []⟩
def d_lifted : He.DefD := ⟨("lifted", none), "lifted", "lifted", defArgs s_lifted, defBody s_lifted, defScope s_lifted, [], []⟩
def d_placed : He.DefD := ⟨("placed", none), "placed", "placed", defArgs s_placed, defBody s_placed, defScope s_placed, [], []⟩
def d_later : He.DefD := ⟨("later", none), "later", "later", defArgs s_later, defBody s_later, defScope s_later, [], []⟩
def d_rippled_out : He.DefD := ⟨("rippled_out", none), "rippled_out", "rippled_out", defArgs s_rippled_out, defBody s_rippled_out, defScope s_rippled_out, [], []⟩
def d_rippled_in : He.DefD := ⟨("rippled_in", none), "rippled_in", "rippled_in", defArgs s_rippled_in, defBody s_rippled_in, defScope s_rippled_in, [], []⟩
def d_L_deck : He.DefD := ⟨("_law_deck", none), "_law_deck", "_law_deck", defArgs s_L_deck, defBody s_L_deck, defScope s_L_deck, [], []⟩
def d_L_draw : He.DefD := ⟨("_law_draw", none), "_law_draw", "_law_draw", defArgs s_L_draw, defBody s_L_draw, defScope s_L_draw, [], []⟩
def d_L_paint : He.DefD := ⟨("_law_paint", none), "_law_paint", "_law_paint", defArgs s_L_paint, defBody s_L_paint, defScope s_L_paint, [], []⟩
def d_L_clip : He.DefD := ⟨("_law_clip", none), "_law_clip", "_law_clip", defArgs s_L_clip, defBody s_L_clip, defScope s_L_clip, [], []⟩
def d_L_clips : He.DefD := ⟨("_law_clips", none), "_law_clips", "_law_clips", defArgs s_L_clips, defBody s_L_clips, defScope s_L_clips, [], []⟩
def d_L_end : He.DefD := ⟨("_law_end", none), "_law_end", "_law_end", defArgs s_L_end, defBody s_L_end, defScope s_L_end, [], []⟩
def d_L_frame : He.DefD := ⟨("_law_frame", none), "_law_frame", "_law_frame", defArgs s_L_frame, defBody s_L_frame, defScope s_L_frame, [], []⟩
def d_L_level : He.DefD := ⟨("_law_level", none), "_law_level", "_law_level", defArgs s_L_level, defBody s_L_level, defScope s_L_level, [], []⟩
def d_L_lane : He.DefD := ⟨("_law_lane", none), "_law_lane", "_law_lane", defArgs s_L_lane, defBody s_L_lane, defScope s_L_lane, [], []⟩
def d_L_frames : He.DefD := ⟨("_law_frames", none), "_law_frames", "_law_frames", defArgs s_L_frames, defBody s_L_frames, defScope s_L_frames, [], []⟩
def d_L_numbers : He.DefD := ⟨("_law_numbers", none), "_law_numbers", "_law_numbers", defArgs s_L_numbers, defBody s_L_numbers, defScope s_L_numbers, [], []⟩
def d_L_told : He.DefD := ⟨("_law_told", none), "_law_told", "_law_told", defArgs s_L_told, defBody s_L_told, defScope s_L_told, [], []⟩
def d_L_due : He.DefD := ⟨("_law_due", none), "_law_due", "_law_due", defArgs s_L_due, defBody s_L_due, defScope s_L_due, [], []⟩
def d_law : He.DefD := ⟨("law", none), "law", "law", defArgs s_law, defBody s_law, defScope s_law, [], []⟩
def d_FilmErrorI : He.DefD := ⟨("FilmError", some "__init__"), "__init__", "FilmError.__init__", defArgs s_FilmErrorI, defBody s_FilmErrorI, defScope s_FilmErrorI, [.non], []⟩
def d_BadCutI : He.DefD := ⟨("BadCut", some "__init__"), "__init__", "BadCut.__init__", defArgs s_BadCutI, defBody s_BadCutI, defScope s_BadCutI, [.non], []⟩
def fn : List He.DefD := [d_is_row, d_is_number, d_check_picture, d_has_form, d_check_paint, d_is_clip, d_end_of, d_check_clips, d_clip_at, d_level_at, d_lane, d_halves, d_split, d_put, d_lifted, d_placed, d_later, d_rippled_out, d_rippled_in, d_L_deck, d_L_draw, d_L_paint, d_L_clip, d_L_clips, d_L_end, d_L_frame, d_L_level, d_L_lane, d_L_frames, d_L_numbers] ++ [d_L_told, d_L_due, d_law, d_FilmErrorI, d_BadCutI]
def fa0 : List He.Fa := [.glo "is_row", .glo "is_number", .glo "check_picture", .glo "has_form", .glo "check_paint", .glo "is_clip", .glo "end_of", .glo "check_clips", .glo "clip_at", .glo "level_at", .glo "lane", .glo "halves", .glo "split", .glo "put", .glo "lifted", .glo "placed", .glo "later", .glo "rippled_out", .glo "rippled_in", .glo "_law_deck", .glo "_law_draw", .glo "_law_paint", .glo "_law_clip", .glo "_law_clips", .glo "_law_end", .glo "_law_frame", .glo "_law_level", .glo "_law_lane", .glo "_law_frames", .glo "_law_numbers"]
def fa1 : List He.Fa := [.glo "_law_told", .glo "_law_due", .glo "law", .glo "FilmError", .glo "BadClip", .glo "BadCut", .glo "BadPaint", .glo "BadPicture", .glo "BadJoin", .glo "BadPlace", .glo "cut_at", .glo "join_at", .glo "with_span", .glo "moved_by", .int "SIDE_MOST" 12, .int "VALUE_MOST" 255, .int "COVER_MOST" 256, .int "START_MOST" 10000, .int "CLIPS_MOST" 64, .int "FULL" 256, .free "isinstance", .free "tuple", .free "int", .free "bool", .free "len", .free "all", .free "enumerate", .free "range", .free "min", .free "max"]
def fa2 : List He.Fa := [.free "abs", .free "list", .free "sorted", .keep "BadCut", .exm "BadCut" "BadCut" true, .noat "BadCut" "place", .noat "BadCut" "word"]
def fa : List He.Fa := fa0 ++ fa1 ++ fa2
/-- the own exception class x over FilmError: what its making and its fields ask -/
def oexB (K : PySem.W.Frag) (C : Addr) : Bool := match K.lookup C with
  | some ⟨.type "type", _, .cls cd, sl⟩ => (match cd.mro, sl.toList with
    | .ref C' :: bm, [_, _, _, _, some (.builtin n), _] => C' == C && n == "ValueError.__new__" && !cd.hasDel && cd.hasDict && PySem.HandSPX.refsVE bm
    | _, _ => false)
  | _ => false
def ex (K : PySem.W.Frag) : Bool :=
  oexB K (He.ga K "BadCut") && (He.eqO (PySem.W.findIn K (.ref (He.ga K "BadCut")) "__setattr__") (some (some (.builtin "object.__setattr__"))) &&
  (decide (PySem.W.subIn K (.ref (He.ga K "BadCut")) (.type "BaseException") = some true) && (decide (PySem.W.typeIn K (.ref (He.ga K "BadCut")) = some (.type "type")) &&
  (xfB K (He.ga K "BadCut") && (He.eqO (PySem.W.findIn K (.ref (He.ga K "BadCut")) "__init__") (some (some (.ref (He.ma K (He.ga K "BadCut") "__init__")))) &&
  (decide (PySem.W.typeIn K (.ref (He.ma K (He.ga K "BadCut") "__init__")) = some (.type "function")) &&
  (PySem.W.readsIn K (He.ga K "FilmError") (.type "type") && (decide (PySem.W.specialIn K (.ref (He.ga K "FilmError")) "__getattribute__" = some (some (.builtin "type.__getattribute__"))) &&
  (match PySem.W.findCls K (.ref (He.ga K "FilmError")) (.type "type") "__init__" with
    | some (.val (.ref a)) => a == He.ma K (He.ga K "FilmError") "__init__"
    | _ => false)))))))))
def tf : List He.Defn := [("put", none)]
/-! ### the Hook: HE4's, over the top's reach and the statics -/
def asK (g : Addr → Option Obj) : List Addr := He.asD g 5 ++ [cStatics]
def obsY (as : (Addr → Option Obj) → List Addr) (fa : List He.Fa) (fn : List He.DefD) (tf : List He.Defn) (ex : PySem.W.Frag → Bool) (g : Addr → Option Obj) : He.AlX := (He.obsT fa fn [] (He.frT g (as g)), ex (He.frT g (as g)) && He.tabsB g tf (He.frT g (as g)))
theorem saysY_of {as : (Addr → Option Obj) → List Addr} {fa : List He.Fa} {fn : List He.DefD} {tf : List He.Defn} {ex : PySem.W.Frag → Bool} {w : World} {h : Heap} (e : obsY as fa fn tf ex h.get? = He.valX fn [] w) : He.SaysX fa fn [] tf ex w h (He.frT h.get? (as h.get?)) := by
  have e1 : He.obsT fa fn [] (He.frT h.get? (as h.get?)) = He.valT fn [] w := congrArg (fun z : He.AlX => z.1) e
  have e2 : (ex (He.frT h.get? (as h.get?)) && He.tabsB h.get? tf (He.frT h.get? (as h.get?))) = true := congrArg (fun z : He.AlX => z.2) e
  obtain ⟨h1, h2⟩ := He.ba e2
  have key : ∀ p ∈ tf, PySem.W.codeHdIn (He.frT h.get? (as h.get?)) (He.cT (He.frT h.get? (as h.get?)) p).1 (He.cT (He.frT h.get? (as h.get?)) p).2 = true ∧ ∃ o, h.get? (He.cT (He.frT h.get? (as h.get?)) p).2 = some o ∧ He.emptyTab o = true := fun p hp => by
    obtain ⟨h3, h4⟩ := He.ba (List.all_eq_true.mp h2 p hp)
    refine ⟨h3, ?_⟩
    cases q : h.get? (He.cT (He.frT h.get? (as h.get?)) p).2 with
    | none =>
      rw [q] at h4
      cases h4
    | some o =>
      rw [q] at h4
      exact ⟨o, rfl, h4⟩
  exact ⟨e1, h1, fun p hp => (key p hp).1, fun p hp => by
    obtain ⟨_, o, q, z⟩ := key p hp
    exact He.frT_none q z, fun p hp => by
    obtain ⟨_, o, q, z⟩ := key p hp
    rw [q, He.emptyTab_eq z]⟩
def hookY (as : (Addr → Option Obj) → List Addr) (fa : List He.Fa) (fn : List He.DefD) (tf : List He.Defn) (ex : PySem.W.Frag → Bool) : PySem.W.Hook where
  α := He.AlX
  obs := fun s => obsY as fa fn tf ex s.heap.get?
  val := fun w => He.valX fn [] w
  says := fun w h => ∃ K : PySem.W.Frag, K.In h ∧ He.SaysX fa fn [] tf ex w h K
  of := fun _ _ e => ⟨_, He.frT_in, saysY_of e⟩
  keeps := fun _ _ _ ⟨K, hK, c⟩ k => ⟨K, PySem.W.Frag.In.keeps hK k, ⟨c.t, c.more, c.hd, c.out, fun p hp => k _ _ (c.empty p hp)⟩⟩
abbrev hk : PySem.W.Hook := hookY asK fa fn tf ex

theorem sc_is_row : FnScope ["row", "count", "most", "item"] ["row", "count", "most"] (defScope s_is_row) := ⟨rfl, rfl, rfl, by decide +kernel, rfl, by decide +kernel, by decide +kernel⟩
theorem sc_is_number : FnScope ["value", "least", "most"] ["value", "least", "most"] (defScope s_is_number) := ⟨rfl, rfl, rfl, by decide +kernel, rfl, by decide +kernel, by decide +kernel⟩
theorem sc_check_picture : FnScope ["picture", "place", "count"] ["picture"] (defScope s_check_picture) := ⟨rfl, rfl, rfl, by decide +kernel, rfl, by decide +kernel, by decide +kernel⟩
theorem sc_has_form : FnScope ["paint"] ["paint"] (defScope s_has_form) := ⟨rfl, rfl, rfl, by decide +kernel, rfl, by decide +kernel, by decide +kernel⟩
theorem sc_check_paint : FnScope ["paint"] ["paint"] (defScope s_check_paint) := ⟨rfl, rfl, rfl, by decide +kernel, rfl, by decide +kernel, by decide +kernel⟩
theorem sc_is_clip : FnScope ["clip"] ["clip"] (defScope s_is_clip) := ⟨rfl, rfl, rfl, by decide +kernel, rfl, by decide +kernel, by decide +kernel⟩
theorem sc_end_of : FnScope ["clip"] ["clip"] (defScope s_end_of) := ⟨rfl, rfl, rfl, by decide +kernel, rfl, by decide +kernel, by decide +kernel⟩
theorem sc_check_clips : FnScope ["clips", "adjusts", "place", "clip"] ["clips", "adjusts"] (defScope s_check_clips) := ⟨rfl, rfl, rfl, by decide +kernel, rfl, by decide +kernel, by decide +kernel⟩
theorem sc_clip_at : FnScope ["clips", "frame", "place", "clip"] ["clips", "frame"] (defScope s_clip_at) := ⟨rfl, rfl, rfl, by decide +kernel, rfl, by decide +kernel, by decide +kernel⟩
theorem sc_level_at : FnScope ["clip", "frame", "since", "left"] ["clip", "frame"] (defScope s_level_at) := ⟨rfl, rfl, rfl, by decide +kernel, rfl, by decide +kernel, by decide +kernel⟩
theorem sc_lane : FnScope ["clips", "frame", "place"] ["clips", "frame"] (defScope s_lane) := ⟨rfl, rfl, rfl, by decide +kernel, rfl, by decide +kernel, by decide +kernel⟩
theorem sc_halves : FnScope ["clip", "frame", "first"] ["clip", "frame"] (defScope s_halves) := ⟨rfl, rfl, rfl, by decide +kernel, rfl, by decide +kernel, by decide +kernel⟩
theorem sc_split : FnScope ["clips", "frame", "found", "clip"] ["clips", "frame"] (defScope s_split) := ⟨rfl, rfl, rfl, by decide +kernel, rfl, by decide +kernel, by decide +kernel⟩
theorem sc_put : FnScope ["clips", "clip", "place", "other"] ["clips", "clip", "place"] (defScope s_put) := ⟨rfl, rfl, rfl, by decide +kernel, rfl, by decide +kernel, by decide +kernel⟩
theorem sc_lifted : FnScope ["clips", "first", "last", "clip"] ["clips", "first", "last"] (defScope s_lifted) := ⟨rfl, rfl, rfl, by decide +kernel, rfl, by decide +kernel, by decide +kernel⟩
theorem sc_placed : FnScope ["clips", "clip"] ["clips", "clip"] (defScope s_placed) := ⟨rfl, rfl, rfl, by decide +kernel, rfl, by decide +kernel, by decide +kernel⟩
theorem sc_later : FnScope ["clip", "frames"] ["clip", "frames"] (defScope s_later) := ⟨rfl, rfl, rfl, by decide +kernel, rfl, by decide +kernel, by decide +kernel⟩
theorem sc_rippled_out : FnScope ["clips", "first", "last", "found", "clip"] ["clips", "first", "last"] (defScope s_rippled_out) := ⟨rfl, rfl, rfl, by decide +kernel, rfl, by decide +kernel, by decide +kernel⟩
theorem sc_rippled_in : FnScope ["clips", "frame", "count", "found", "clip"] ["clips", "frame", "count"] (defScope s_rippled_in) := ⟨rfl, rfl, rfl, by decide +kernel, rfl, by decide +kernel, by decide +kernel⟩
theorem sc_L_deck : FnScope ["_law_script", "_law_seed", "_law_cell"] ["_law_script"] (defScope s_L_deck) := ⟨rfl, rfl, rfl, by decide +kernel, rfl, by decide +kernel, by decide +kernel⟩
theorem sc_L_draw : FnScope ["_law_deck_here", "_law_bound", "_law_number", "_law_value"] ["_law_deck_here", "_law_bound"] (defScope s_L_draw) := ⟨rfl, rfl, rfl, by decide +kernel, rfl, by decide +kernel, by decide +kernel⟩
theorem sc_L_paint : FnScope ["_law_deck_here", "_law_kind", "_law_width", "_law_height", "_law_values", "_law_k", "_law_value"] ["_law_deck_here"] (defScope s_L_paint) := ⟨rfl, rfl, rfl, by decide +kernel, rfl, by decide +kernel, by decide +kernel⟩
theorem sc_L_clip : FnScope ["_law_deck_here", "_law_start", "_law_adjusts", "_law_length", "_law_first", "_law_last"] ["_law_deck_here", "_law_start", "_law_adjusts"] (defScope s_L_clip) := ⟨rfl, rfl, rfl, by decide +kernel, rfl, by decide +kernel, by decide +kernel⟩
theorem sc_L_clips : FnScope ["_law_deck_here", "_law_most", "_law_adjusts", "_law_clips_here", "_law_start", "_law_k", "_law_clip_here"] ["_law_deck_here", "_law_most", "_law_adjusts"] (defScope s_L_clips) := ⟨rfl, rfl, rfl, by decide +kernel, rfl, by decide +kernel, by decide +kernel⟩
theorem sc_L_end : FnScope ["_law_clip_here"] ["_law_clip_here"] (defScope s_L_end) := ⟨rfl, rfl, rfl, by decide +kernel, rfl, by decide +kernel, by decide +kernel⟩
theorem sc_L_frame : FnScope ["_law_deck_here", "_law_clips_here", "_law_clip_here", "_law_end_here", "_law_near"] ["_law_deck_here", "_law_clips_here"] (defScope s_L_frame) := ⟨rfl, rfl, rfl, by decide +kernel, rfl, by decide +kernel, by decide +kernel⟩
theorem sc_L_level : FnScope ["_law_clip_here", "_law_frame_here", "_law_before", "_law_behind"] ["_law_clip_here", "_law_frame_here"] (defScope s_L_level) := ⟨rfl, rfl, rfl, by decide +kernel, rfl, by decide +kernel, by decide +kernel⟩
theorem sc_L_lane : FnScope ["_law_clips_here", "_law_frame_here", "_law_clip_here"] ["_law_clips_here", "_law_frame_here"] (defScope s_L_lane) := ⟨rfl, rfl, rfl, by decide +kernel, rfl, by decide +kernel, by decide +kernel⟩
theorem sc_L_frames : FnScope ["_law_clips_here", "_law_more", "_law_marks", "_law_clip_here", "_law_found", "_law_mark", "_law_frame_here"] ["_law_clips_here", "_law_more"] (defScope s_L_frames) := ⟨rfl, rfl, rfl, by decide +kernel, rfl, by decide +kernel, by decide +kernel⟩
theorem sc_L_numbers : FnScope ["_law_deck_here", "_law_word", "_law_clips_here", "_law_adjusts", "_law_frame_here", "_law_place"] ["_law_deck_here", "_law_word", "_law_clips_here", "_law_adjusts"] (defScope s_L_numbers) := ⟨rfl, rfl, rfl, by decide +kernel, rfl, by decide +kernel, by decide +kernel⟩
theorem sc_L_told : FnScope ["_law_word", "_law_clips_here", "_law_numbers_here", "e"] ["_law_word", "_law_clips_here", "_law_numbers_here"] (defScope s_L_told) := ⟨rfl, rfl, rfl, by decide +kernel, rfl, by decide +kernel, by decide +kernel⟩
theorem sc_L_due : FnScope ["_law_word", "_law_clips_here", "_law_numbers_here", "_law_frame_here", "_law_clip_here", "_law_first", "_law_last"] ["_law_word", "_law_clips_here", "_law_numbers_here", "_law_frame_here"] (defScope s_L_due) := ⟨rfl, rfl, rfl, by decide +kernel, rfl, by decide +kernel, by decide +kernel⟩
theorem sc_law : FnScope ["_law_script", "_law_deck_here", "_law_adjusts", "_law_clips_here", "_law_turn", "_law_word", "_law_numbers_here", "_law_found", "_law_frame_here"] ["_law_script"] (defScope s_law) := ⟨rfl, rfl, rfl, by decide +kernel, rfl, by decide +kernel, by decide +kernel⟩
theorem sc_FilmErrorI : FnScope ["self", "word", "place"] ["self", "word", "place"] (defScope s_FilmErrorI) := ⟨rfl, rfl, rfl, by decide +kernel, rfl, by decide +kernel, by decide +kernel⟩
theorem sc_BadCutI : FnScope ["self", "place"] ["self", "place"] (defScope s_BadCutI) := ⟨rfl, rfl, rfl, by decide +kernel, rfl, by decide +kernel, by decide +kernel⟩
/-- what the defs lean on -/
structure Tx (K : PySem.W.Frag) (mg : Str → Option Value) : Prop where
  d_is_row : ∃ fd, FunD K "is_row" "is_row" (defArgs s_is_row) (defBody s_is_row) (defScope s_is_row) [] [] (He.ga K "is_row") fd
  d_is_number : ∃ fd, FunD K "is_number" "is_number" (defArgs s_is_number) (defBody s_is_number) (defScope s_is_number) [] [] (He.ga K "is_number") fd
  d_check_picture : ∃ fd, FunD K "check_picture" "check_picture" (defArgs s_check_picture) (defBody s_check_picture) (defScope s_check_picture) [] [] (He.ga K "check_picture") fd
  d_has_form : ∃ fd, FunD K "has_form" "has_form" (defArgs s_has_form) (defBody s_has_form) (defScope s_has_form) [] [] (He.ga K "has_form") fd
  d_check_paint : ∃ fd, FunD K "check_paint" "check_paint" (defArgs s_check_paint) (defBody s_check_paint) (defScope s_check_paint) [] [] (He.ga K "check_paint") fd
  d_is_clip : ∃ fd, FunD K "is_clip" "is_clip" (defArgs s_is_clip) (defBody s_is_clip) (defScope s_is_clip) [] [] (He.ga K "is_clip") fd
  d_end_of : ∃ fd, FunD K "end_of" "end_of" (defArgs s_end_of) (defBody s_end_of) (defScope s_end_of) [] [] (He.ga K "end_of") fd
  d_check_clips : ∃ fd, FunD K "check_clips" "check_clips" (defArgs s_check_clips) (defBody s_check_clips) (defScope s_check_clips) [] [] (He.ga K "check_clips") fd
  d_clip_at : ∃ fd, FunD K "clip_at" "clip_at" (defArgs s_clip_at) (defBody s_clip_at) (defScope s_clip_at) [] [] (He.ga K "clip_at") fd
  d_level_at : ∃ fd, FunD K "level_at" "level_at" (defArgs s_level_at) (defBody s_level_at) (defScope s_level_at) [] [] (He.ga K "level_at") fd
  d_lane : ∃ fd, FunD K "lane" "lane" (defArgs s_lane) (defBody s_lane) (defScope s_lane) [] [] (He.ga K "lane") fd
  d_halves : ∃ fd, FunD K "halves" "halves" (defArgs s_halves) (defBody s_halves) (defScope s_halves) [] [] (He.ga K "halves") fd
  d_split : ∃ fd, FunD K "split" "split" (defArgs s_split) (defBody s_split) (defScope s_split) [] [] (He.ga K "split") fd
  d_put : ∃ fd, FunD K "put" "put" (defArgs s_put) (defBody s_put) (defScope s_put) [] [] (He.ga K "put") fd
  d_lifted : ∃ fd, FunD K "lifted" "lifted" (defArgs s_lifted) (defBody s_lifted) (defScope s_lifted) [] [] (He.ga K "lifted") fd
  d_placed : ∃ fd, FunD K "placed" "placed" (defArgs s_placed) (defBody s_placed) (defScope s_placed) [] [] (He.ga K "placed") fd
  d_later : ∃ fd, FunD K "later" "later" (defArgs s_later) (defBody s_later) (defScope s_later) [] [] (He.ga K "later") fd
  d_rippled_out : ∃ fd, FunD K "rippled_out" "rippled_out" (defArgs s_rippled_out) (defBody s_rippled_out) (defScope s_rippled_out) [] [] (He.ga K "rippled_out") fd
  d_rippled_in : ∃ fd, FunD K "rippled_in" "rippled_in" (defArgs s_rippled_in) (defBody s_rippled_in) (defScope s_rippled_in) [] [] (He.ga K "rippled_in") fd
  d_L_deck : ∃ fd, FunD K "_law_deck" "_law_deck" (defArgs s_L_deck) (defBody s_L_deck) (defScope s_L_deck) [] [] (He.ga K "_law_deck") fd
  d_L_draw : ∃ fd, FunD K "_law_draw" "_law_draw" (defArgs s_L_draw) (defBody s_L_draw) (defScope s_L_draw) [] [] (He.ga K "_law_draw") fd
  d_L_paint : ∃ fd, FunD K "_law_paint" "_law_paint" (defArgs s_L_paint) (defBody s_L_paint) (defScope s_L_paint) [] [] (He.ga K "_law_paint") fd
  d_L_clip : ∃ fd, FunD K "_law_clip" "_law_clip" (defArgs s_L_clip) (defBody s_L_clip) (defScope s_L_clip) [] [] (He.ga K "_law_clip") fd
  d_L_clips : ∃ fd, FunD K "_law_clips" "_law_clips" (defArgs s_L_clips) (defBody s_L_clips) (defScope s_L_clips) [] [] (He.ga K "_law_clips") fd
  d_L_end : ∃ fd, FunD K "_law_end" "_law_end" (defArgs s_L_end) (defBody s_L_end) (defScope s_L_end) [] [] (He.ga K "_law_end") fd
  d_L_frame : ∃ fd, FunD K "_law_frame" "_law_frame" (defArgs s_L_frame) (defBody s_L_frame) (defScope s_L_frame) [] [] (He.ga K "_law_frame") fd
  d_L_level : ∃ fd, FunD K "_law_level" "_law_level" (defArgs s_L_level) (defBody s_L_level) (defScope s_L_level) [] [] (He.ga K "_law_level") fd
  d_L_lane : ∃ fd, FunD K "_law_lane" "_law_lane" (defArgs s_L_lane) (defBody s_L_lane) (defScope s_L_lane) [] [] (He.ga K "_law_lane") fd
  d_L_frames : ∃ fd, FunD K "_law_frames" "_law_frames" (defArgs s_L_frames) (defBody s_L_frames) (defScope s_L_frames) [] [] (He.ga K "_law_frames") fd
  d_L_numbers : ∃ fd, FunD K "_law_numbers" "_law_numbers" (defArgs s_L_numbers) (defBody s_L_numbers) (defScope s_L_numbers) [] [] (He.ga K "_law_numbers") fd
  d_L_told : ∃ fd, FunD K "_law_told" "_law_told" (defArgs s_L_told) (defBody s_L_told) (defScope s_L_told) [] [] (He.ga K "_law_told") fd
  d_L_due : ∃ fd, FunD K "_law_due" "_law_due" (defArgs s_L_due) (defBody s_L_due) (defScope s_L_due) [] [] (He.ga K "_law_due") fd
  d_law : ∃ fd, FunD K "law" "law" (defArgs s_law) (defBody s_law) (defScope s_law) [] [] (He.ga K "law") fd
  d_FilmErrorI : ∃ fd, FunD K "__init__" "FilmError.__init__" (defArgs s_FilmErrorI) (defBody s_FilmErrorI) (defScope s_FilmErrorI) [.non] [] (He.ma K (He.ga K "FilmError") "__init__") fd
  d_BadCutI : ∃ fd, FunD K "__init__" "BadCut.__init__" (defArgs s_BadCutI) (defBody s_BadCutI) (defScope s_BadCutI) [.non] [] (He.ma K (He.ga K "BadCut") "__init__") fd
  g_is_row : mg "is_row" = some (.ref (He.ga K "is_row"))
  g_is_number : mg "is_number" = some (.ref (He.ga K "is_number"))
  g_check_picture : mg "check_picture" = some (.ref (He.ga K "check_picture"))
  g_has_form : mg "has_form" = some (.ref (He.ga K "has_form"))
  g_check_paint : mg "check_paint" = some (.ref (He.ga K "check_paint"))
  g_is_clip : mg "is_clip" = some (.ref (He.ga K "is_clip"))
  g_end_of : mg "end_of" = some (.ref (He.ga K "end_of"))
  g_check_clips : mg "check_clips" = some (.ref (He.ga K "check_clips"))
  g_clip_at : mg "clip_at" = some (.ref (He.ga K "clip_at"))
  g_level_at : mg "level_at" = some (.ref (He.ga K "level_at"))
  g_lane : mg "lane" = some (.ref (He.ga K "lane"))
  g_halves : mg "halves" = some (.ref (He.ga K "halves"))
  g_split : mg "split" = some (.ref (He.ga K "split"))
  g_put : mg "put" = some (.ref (He.ga K "put"))
  g_lifted : mg "lifted" = some (.ref (He.ga K "lifted"))
  g_placed : mg "placed" = some (.ref (He.ga K "placed"))
  g_later : mg "later" = some (.ref (He.ga K "later"))
  g_rippled_out : mg "rippled_out" = some (.ref (He.ga K "rippled_out"))
  g_rippled_in : mg "rippled_in" = some (.ref (He.ga K "rippled_in"))
  g_L_deck : mg "_law_deck" = some (.ref (He.ga K "_law_deck"))
  g_L_draw : mg "_law_draw" = some (.ref (He.ga K "_law_draw"))
  g_L_paint : mg "_law_paint" = some (.ref (He.ga K "_law_paint"))
  g_L_clip : mg "_law_clip" = some (.ref (He.ga K "_law_clip"))
  g_L_clips : mg "_law_clips" = some (.ref (He.ga K "_law_clips"))
  g_L_end : mg "_law_end" = some (.ref (He.ga K "_law_end"))
  g_L_frame : mg "_law_frame" = some (.ref (He.ga K "_law_frame"))
  g_L_level : mg "_law_level" = some (.ref (He.ga K "_law_level"))
  g_L_lane : mg "_law_lane" = some (.ref (He.ga K "_law_lane"))
  g_L_frames : mg "_law_frames" = some (.ref (He.ga K "_law_frames"))
  g_L_numbers : mg "_law_numbers" = some (.ref (He.ga K "_law_numbers"))
  g_L_told : mg "_law_told" = some (.ref (He.ga K "_law_told"))
  g_L_due : mg "_law_due" = some (.ref (He.ga K "_law_due"))
  g_law : mg "law" = some (.ref (He.ga K "law"))
  g_FilmError : mg "FilmError" = some (.ref (He.ga K "FilmError"))
  g_BadClip : mg "BadClip" = some (.ref (He.ga K "BadClip"))
  g_BadCut : mg "BadCut" = some (.ref (He.ga K "BadCut"))
  g_BadPaint : mg "BadPaint" = some (.ref (He.ga K "BadPaint"))
  g_BadPicture : mg "BadPicture" = some (.ref (He.ga K "BadPicture"))
  g_BadJoin : mg "BadJoin" = some (.ref (He.ga K "BadJoin"))
  g_BadPlace : mg "BadPlace" = some (.ref (He.ga K "BadPlace"))
  g_cut_at : mg "cut_at" = some (.ref (He.ga K "cut_at"))
  g_join_at : mg "join_at" = some (.ref (He.ga K "join_at"))
  g_with_span : mg "with_span" = some (.ref (He.ga K "with_span"))
  g_moved_by : mg "moved_by" = some (.ref (He.ga K "moved_by"))
  i_SIDE_MOST : ∃ t, mg "SIDE_MOST" = some (.int 12 t)
  i_VALUE_MOST : ∃ t, mg "VALUE_MOST" = some (.int 255 t)
  i_COVER_MOST : ∃ t, mg "COVER_MOST" = some (.int 256 t)
  i_START_MOST : ∃ t, mg "START_MOST" = some (.int 10000 t)
  i_CLIPS_MOST : ∃ t, mg "CLIPS_MOST" = some (.int 64 t)
  i_FULL : ∃ t, mg "FULL" = some (.int 256 t)
  z_isinstance : mg "isinstance" = none
  z_tuple : mg "tuple" = none
  z_int : mg "int" = none
  z_bool : mg "bool" = none
  z_len : mg "len" = none
  z_all : mg "all" = none
  z_enumerate : mg "enumerate" = none
  z_range : mg "range" = none
  z_min : mg "min" = none
  z_max : mg "max" = none
  z_abs : mg "abs" = none
  z_list : mg "list" = none
  z_sorted : mg "sorted" = none
  k_BadCut : PySem.W.keepIn K (.ref (He.ga K "BadCut")) = true
  m_BadCut : PySem.W.exmOne K (.ref (He.ga K "BadCut")) (.ref (He.ga K "BadCut")) = some true
  n_place : PySem.W.findIn K (.ref (He.ga K "BadCut")) "place" = some none
  n_word : PySem.W.findIn K (.ref (He.ga K "BadCut")) "word" = some none
  ex : ex K = true
  hd : ∀ p ∈ tf, PySem.W.codeHdIn K (He.cT K p).1 (He.cT K p).2 = true
theorem tx_mk {w : World} {h : Heap} {K : PySem.W.Frag} {mg : Str → Option Value} (X : K.In h) (G : h.Ns mainGlobals mg) (c : He.SaysX fa fn [] tf ex w h K) : Tx K mg :=
  have d := He.SaysT.d c.t
  ⟨d.def_ 0 (d := d_is_row) rfl,
   d.def_ 1 (d := d_is_number) rfl,
   d.def_ 2 (d := d_check_picture) rfl,
   d.def_ 3 (d := d_has_form) rfl,
   d.def_ 4 (d := d_check_paint) rfl,
   d.def_ 5 (d := d_is_clip) rfl,
   d.def_ 6 (d := d_end_of) rfl,
   d.def_ 7 (d := d_check_clips) rfl,
   d.def_ 8 (d := d_clip_at) rfl,
   d.def_ 9 (d := d_level_at) rfl,
   d.def_ 10 (d := d_lane) rfl,
   d.def_ 11 (d := d_halves) rfl,
   d.def_ 12 (d := d_split) rfl,
   d.def_ 13 (d := d_put) rfl,
   d.def_ 14 (d := d_lifted) rfl,
   d.def_ 15 (d := d_placed) rfl,
   d.def_ 16 (d := d_later) rfl,
   d.def_ 17 (d := d_rippled_out) rfl,
   d.def_ 18 (d := d_rippled_in) rfl,
   d.def_ 19 (d := d_L_deck) rfl,
   d.def_ 20 (d := d_L_draw) rfl,
   d.def_ 21 (d := d_L_paint) rfl,
   d.def_ 22 (d := d_L_clip) rfl,
   d.def_ 23 (d := d_L_clips) rfl,
   d.def_ 24 (d := d_L_end) rfl,
   d.def_ 25 (d := d_L_frame) rfl,
   d.def_ 26 (d := d_L_level) rfl,
   d.def_ 27 (d := d_L_lane) rfl,
   d.def_ 28 (d := d_L_frames) rfl,
   d.def_ 29 (d := d_L_numbers) rfl,
   d.def_ 30 (d := d_L_told) rfl,
   d.def_ 31 (d := d_L_due) rfl,
   d.def_ 32 (d := d_law) rfl,
   d.def_ 33 (d := d_FilmErrorI) rfl,
   d.def_ 34 (d := d_BadCutI) rfl,
   He.glo_ok X G (d.fact 0 (f := .glo "is_row") rfl),
   He.glo_ok X G (d.fact 1 (f := .glo "is_number") rfl),
   He.glo_ok X G (d.fact 2 (f := .glo "check_picture") rfl),
   He.glo_ok X G (d.fact 3 (f := .glo "has_form") rfl),
   He.glo_ok X G (d.fact 4 (f := .glo "check_paint") rfl),
   He.glo_ok X G (d.fact 5 (f := .glo "is_clip") rfl),
   He.glo_ok X G (d.fact 6 (f := .glo "end_of") rfl),
   He.glo_ok X G (d.fact 7 (f := .glo "check_clips") rfl),
   He.glo_ok X G (d.fact 8 (f := .glo "clip_at") rfl),
   He.glo_ok X G (d.fact 9 (f := .glo "level_at") rfl),
   He.glo_ok X G (d.fact 10 (f := .glo "lane") rfl),
   He.glo_ok X G (d.fact 11 (f := .glo "halves") rfl),
   He.glo_ok X G (d.fact 12 (f := .glo "split") rfl),
   He.glo_ok X G (d.fact 13 (f := .glo "put") rfl),
   He.glo_ok X G (d.fact 14 (f := .glo "lifted") rfl),
   He.glo_ok X G (d.fact 15 (f := .glo "placed") rfl),
   He.glo_ok X G (d.fact 16 (f := .glo "later") rfl),
   He.glo_ok X G (d.fact 17 (f := .glo "rippled_out") rfl),
   He.glo_ok X G (d.fact 18 (f := .glo "rippled_in") rfl),
   He.glo_ok X G (d.fact 19 (f := .glo "_law_deck") rfl),
   He.glo_ok X G (d.fact 20 (f := .glo "_law_draw") rfl),
   He.glo_ok X G (d.fact 21 (f := .glo "_law_paint") rfl),
   He.glo_ok X G (d.fact 22 (f := .glo "_law_clip") rfl),
   He.glo_ok X G (d.fact 23 (f := .glo "_law_clips") rfl),
   He.glo_ok X G (d.fact 24 (f := .glo "_law_end") rfl),
   He.glo_ok X G (d.fact 25 (f := .glo "_law_frame") rfl),
   He.glo_ok X G (d.fact 26 (f := .glo "_law_level") rfl),
   He.glo_ok X G (d.fact 27 (f := .glo "_law_lane") rfl),
   He.glo_ok X G (d.fact 28 (f := .glo "_law_frames") rfl),
   He.glo_ok X G (d.fact 29 (f := .glo "_law_numbers") rfl),
   He.glo_ok X G (d.fact 30 (f := .glo "_law_told") rfl),
   He.glo_ok X G (d.fact 31 (f := .glo "_law_due") rfl),
   He.glo_ok X G (d.fact 32 (f := .glo "law") rfl),
   He.glo_ok X G (d.fact 33 (f := .glo "FilmError") rfl),
   He.glo_ok X G (d.fact 34 (f := .glo "BadClip") rfl),
   He.glo_ok X G (d.fact 35 (f := .glo "BadCut") rfl),
   He.glo_ok X G (d.fact 36 (f := .glo "BadPaint") rfl),
   He.glo_ok X G (d.fact 37 (f := .glo "BadPicture") rfl),
   He.glo_ok X G (d.fact 38 (f := .glo "BadJoin") rfl),
   He.glo_ok X G (d.fact 39 (f := .glo "BadPlace") rfl),
   He.glo_ok X G (d.fact 40 (f := .glo "cut_at") rfl),
   He.glo_ok X G (d.fact 41 (f := .glo "join_at") rfl),
   He.glo_ok X G (d.fact 42 (f := .glo "with_span") rfl),
   He.glo_ok X G (d.fact 43 (f := .glo "moved_by") rfl),
   He.int_ok X G (d.fact 44 (f := .int "SIDE_MOST" 12) rfl),
   He.int_ok X G (d.fact 45 (f := .int "VALUE_MOST" 255) rfl),
   He.int_ok X G (d.fact 46 (f := .int "COVER_MOST" 256) rfl),
   He.int_ok X G (d.fact 47 (f := .int "START_MOST" 10000) rfl),
   He.int_ok X G (d.fact 48 (f := .int "CLIPS_MOST" 64) rfl),
   He.int_ok X G (d.fact 49 (f := .int "FULL" 256) rfl),
   He.free_ok X G (d.fact 50 (f := .free "isinstance") rfl),
   He.free_ok X G (d.fact 51 (f := .free "tuple") rfl),
   He.free_ok X G (d.fact 52 (f := .free "int") rfl),
   He.free_ok X G (d.fact 53 (f := .free "bool") rfl),
   He.free_ok X G (d.fact 54 (f := .free "len") rfl),
   He.free_ok X G (d.fact 55 (f := .free "all") rfl),
   He.free_ok X G (d.fact 56 (f := .free "enumerate") rfl),
   He.free_ok X G (d.fact 57 (f := .free "range") rfl),
   He.free_ok X G (d.fact 58 (f := .free "min") rfl),
   He.free_ok X G (d.fact 59 (f := .free "max") rfl),
   He.free_ok X G (d.fact 60 (f := .free "abs") rfl),
   He.free_ok X G (d.fact 61 (f := .free "list") rfl),
   He.free_ok X G (d.fact 62 (f := .free "sorted") rfl),
   He.keep_ok (d.fact 63 (f := .keep "BadCut") rfl),
   He.exm_ok (d.fact 64 (f := .exm "BadCut" "BadCut" true) rfl),
   He.noat_ok (d.fact 65 (f := .noat "BadCut" "place") rfl),
   He.noat_ok (d.fact 66 (f := .noat "BadCut" "word") rfl),
   c.more,
   c.hd⟩
end K34
end

section
set_option Elab.async false
set_option linter.all false
set_option maxRecDepth 100000
set_option maxHeartbeats 0
/-! the head's run (printed by gen_head.py) -/
namespace K34
open PySem PySem.Spec PyProof.Rows L2
def ob (s : PySem.W.SharedT) : He.AlX := obsY asK fa fn tf ex (HandSHeadRun.getT s)
theorem ob_eq (s : PySem.W.SharedT) : ob s = hk.obs s.abs := by
  have e : HandSHeadRun.getT s = s.abs.heap.get? := funext (HandSHeadRun.getT_eq s)
  show obsY asK fa fn tf ex (HandSHeadRun.getT s) = obsY asK fa fn tf ex s.abs.heap.get?
  rw [e]
abbrev R : PySem.W.OpenRow := PySem.W.OpenLaw.row PySem.Challenge.rw_onlythedirt_k34_whole_lanes
def names0 : List PySem.Str := ["FilmError", "BadClip", "BadCut", "BadPaint", "BadPicture", "BadJoin", "BadPlace", "SIDE_MOST", "VALUE_MOST", "COVER_MOST", "START_MOST", "CLIPS_MOST", "FULL", "is_row", "is_number", "check_picture", "has_form", "check_paint", "is_clip", "end_of", "check_clips", "clip_at", "level_at", "lane", "halves", "split", "cut_at", "join_at", "put", "with_span"]
def names1 : List PySem.Str := ["moved_by", "lifted", "placed", "later", "rippled_out", "rippled_in", "_law_deck", "_law_draw", "_law_name", "_law_paint", "_law_clip", "_law_clips", "_law_end", "_law_frame", "_law_level", "_law_lane", "_law_frames", "_law_split", "_law_lifted", "_law_later", "_law_put", "_law_line", "_law_joined", "_law_spanned", "_law_numbers", "_law_told", "_law_same", "_law_due"]
def names : List PySem.Str := names0 ++ names1
theorem run (w : World) : HandSHeadRun.RunEq R (PySem.W.view R.prog [64]) hk ob 4000 names w := by
  intro os
  kernel_rfl
end K34
end

section
set_option Elab.async false
set_option linter.all false
set_option maxRecDepth 100000
set_option maxHeartbeats 4000000
/-! enumerate(t), t a tuple -/
namespace K34
open PySem PySem.Spec PyProof.Rows L2
open PySem.AutoSeq1 (wpAny_loadPart')
theorem meets_enum_newT (l : Addr) (items : Array Value) :
    Meets (Builtin.«enumerate.__new__» ⟨[.type "enumerate", .ref l], []⟩) (fun _ R s => s.heap.IsTuple l items ∧
      R (.ok (.ret (.ref (s.heap.push { cls := .type "tuple_iterator", data := .fields #[.ref l, .int 0 0] }).objs.size)))
        { s with heap := (s.heap.push { cls := .type "tuple_iterator", data := .fields #[.ref l, .int 0 0] }).push { cls := .type "enumerate", data := .fields #[.none, .bool false, .ref s.heap.objs.size, rawInt 0, .none, .none] } }) :=
  .of_wp fun prog w A R s h => by
    obtain ⟨hp, g, d, tk, os⟩ := s
    obtain ⟨h1, h⟩ := h
    have hsub := sub_enumerate
    have q1 : ∀ {A' : Around} {E : Value → Shared → Prop} {Q : Value → Shared → Prop}, Q (.ref hp.objs.size) ⟨hp.push { cls := .type "tuple_iterator", data := .fields #[.ref l, .int 0 0] }, g, d, tk, os⟩ → wpAny (model prog w) A' (pyIter (.ref l)) Q E ⟨hp, g, d, tk, os⟩ :=
      fun q => wpAny_pyIter_tuple (s := ⟨hp, g, d, tk, os⟩) h1 q
    wp_walk using q1
    refine wpAny_stack_any fun st => wpAny_pure ?_
    split
    · rename_i c _ _ _ _ _
      cases (c == Value.type "enumerate")
      · wp_walk using q1
        exact ⟨_, rfl, h⟩
      · wp_walk using q1
        exact ⟨_, rfl, h⟩
    · wp_walk using q1
      exact ⟨_, rfl, h⟩
section
variable {prog : Program} {w : World} {A : Around} {E : Value → Shared → Prop} {s : Shared}
theorem call_enum_tuple {l : Addr} {items : Array Value} {Q : Value → Shared → Prop} (hL : s.heap.IsTuple l items)
    (h : ∀ h', IsEnum h' (s.heap.objs.size + 1) s.heap.objs.size 0 .none → h'.IsTupleIter s.heap.objs.size l 0 → h'.objs.size = s.heap.objs.size + 2 →
      (∀ b o, s.heap.get? b = some o → h'.get? b = some o) → Q (.ref (s.heap.objs.size + 1)) { s with heap := h' }) :
    wpAny (model prog w) A (call (.type "enumerate") [.ref l]) Q E s := by
  refine callType_new F.called_enumerate (by decide) (F.typeCall_enumerate_1 _) (F.newCall_enumerate_1 _) (fun obj => F.args_object_init_2 obj _) F.entry_enumerate_new
    (meets_enum_newT l items) ⟨hL, ?_⟩
  have hz : (s.heap.push { cls := .type "tuple_iterator", data := .fields #[.ref l, .int 0 0] }).objs.size = s.heap.objs.size + 1 := Heap.size_push ..
  show _ ∧ _
  rw [hz]
  have he : IsEnum ((s.heap.push { cls := .type "tuple_iterator", data := .fields #[.ref l, .int 0 0] }).push
      { cls := .type "enumerate", data := .fields #[.none, .bool false, .ref s.heap.objs.size, rawInt 0, .none, .none] }) (s.heap.objs.size + 1) s.heap.objs.size 0 .none := by
    have := Heap.get?_push_size (s.heap.push { cls := .type "tuple_iterator", data := .fields #[.ref l, .int 0 0] })
      (o := { cls := .type "enumerate", data := .fields #[.none, .bool false, .ref s.heap.objs.size, rawInt 0, .none, .none] }) rfl
    rw [hz] at this; exact this
  refine ⟨⟨_, he, rfl⟩, h _ he ⟨_, Heap.get?_push_of_some _ (Heap.get?_push_size _ rfl), rfl, rfl⟩ (by rw [Heap.size_push, hz]) fun b o x => Heap.get?_push_of_some _ (Heap.get?_push_of_some _ x)⟩
end
/-- the tuple at a: each item in a new pair -/
def IteT (K : PySem.W.Frag) (a : Addr) : It :=
  ⟨fun i H => ∃ (xs : List V) (x : V), SqT K H a xs ∧ xs[i]? = some x, fun i H v H' => ∃ T x, v = .ref T ∧ H T = none ∧ H' = upd H T (.tup [.int (i : Nat), x]) ∧ ∀ xs, SqT K H a xs → xs[i]? = some x, fun i H => ∃ xs : List V, SqT K H a xs ∧ xs.length ≤ i⟩
theorem turn_enumT {P : Program} {w : World} {K : PySem.W.Frag} {elts : List Expr} {kk : Nat} {tpos : Pos} (a e it : Addr) (hai : a ≠ it) (hae : a ≠ e) :
    Turn P w K (.Tuple elts kk tpos) (IteT K a) [e, it] e (fun i h => (∃ old, IsEnum h e it ((i : Nat) : Int) old) ∧ h.IsTupleIter it a i ∧ e ≠ it) where
  mem := by simp
  obj := fun i h st b hb => by
    obtain ⟨⟨old, he⟩, ⟨o, ho, hc, hd⟩, _⟩ := st
    have e' : b = e ∨ b = it := by simpa using hb
    rcases e' with z | z
    · rw [z]; exact ⟨_, he, fun v q => nomatch q⟩
    · rw [z]; exact ⟨o, ho, fun v q => by rw [hd] at q; cases q⟩
  keep := fun i h h' st k => let ⟨⟨old, he⟩, hi, hne⟩ := st; ⟨⟨old, k e (by simp) _ he⟩, hi.at fun o q => k it (by simp) o q, hne⟩
  item := by
    intro X hP hw hK hc i pins s σ H E I hf st hg
    subst hP hw hK
    obtain ⟨⟨old, he⟩, hit, hne⟩ := st
    obtain ⟨xs, x, hq, hx⟩ := hg
    obtain ⟨its, rv, p, hz⟩ := I.tuple hq
    obtain ⟨u, hu, ru⟩ := rv.get hx
    have hel : e < s.heap.objs.size := Heap.lt_size he
    have hil : it < s.heap.objs.size := by obtain ⟨_, q, _⟩ := hit; exact Heap.lt_size q
    have D := Draws.tuple (prog := X.prog) (w := X.w) (A := X.A.in1) (I.ok.hd hc) it a hai its.toArray
    have hlt : i < its.toArray.size := by
      obtain ⟨z, _⟩ := List.getElem?_eq_some_iff.mp hu
      simpa using z
    refine wpAny_pyNext_enum_itemD D he ⟨hit, p⟩ hlt hne (by simp [hne, hae.symm]) fun y h' tk hy ho hit' hT hsz hk => ?_
    have ey : y = u := by
      have hu' : its.toArray[i]? = some u := by simpa using hu
      exact Option.some.inj (hy.symm.trans hu')
    subst ey
    refine ⟨_, rfl, wpAny_letOwnedTupleGo_enum (s := { s with heap := h', toks := tk + 1 }) ho fun h'' he' sb => ?_⟩
    have hT2 : h''.get? s.heap.objs.size = some { cls := .type "tuple", data := .seq #[.int i tk, y] } := (sb.2 _ (Nat.ne_of_gt hel)).trans hT
    have new : ObjOk X.prog X.w (upd H s.heap.objs.size (.tup [.int (i : Nat), x])) h'' s.heap.objs.size (.tup [.int (i : Nat), x]) :=
      ⟨by show 2 ≤ sizeLine; decide, [.int i tk, y], .cons ⟨_, rfl⟩ (.cons ru .nil), ⟨_, hT2, rfl, _, rfl⟩⟩
    have I1 : Inv X pins σ (upd H s.heap.objs.size (.tup [.int (i : Nat), x])) { s with heap := h'', toks := tk + 1 } :=
      I.turnedNew (ch := [e, it]) (fun b ob hb q => (sb.2 b (fun z => hb (by simp [z]))).trans (hk b ob (fun z => hb (by simp [z])) (fun z => hb (by simp [z])) q)) hf (Nat.le_refl _) new
    refine ⟨.ref s.heap.objs.size, _, I1, rfl, ⟨_, x, rfl, I.hok.fresh (Nat.le_refl _), rfl, fun ys hy => by rw [I.tuple_inj hy hq]; exact hx⟩, ⟨⟨y, ?_⟩, hit'.1.at fun o q => (sb.2 it (Ne.symm hne)).trans q, hne⟩, fun b hb => ?_⟩
    · have e1 : ((i + 1 : Nat) : Int) = (i : Int) + 1 := by omega
      rw [e1]; exact he'
    · have hb' : b < s.heap.objs.size := by
        have e' : b = e ∨ b = it := by simpa using hb
        rcases e' with z | z
        · rw [z]; exact hel
        · rw [z]; exact hil
      rw [upd_ne (Nat.ne_of_lt hb')]
      exact (hf b hb).1
  done := by
    intro X hP hw hK hc i pins s σ H E I hf st hg
    subst hP hw hK
    obtain ⟨⟨old, he⟩, hit, hne⟩ := st
    obtain ⟨xs, hq, hx⟩ := hg
    obtain ⟨its, rv, p, hz⟩ := I.tuple hq
    obtain ⟨f0, f1, f2, f3, f4, f5⟩ := hf it (by simp)
    have hl := rv.length
    have hn : its.toArray[i]? = none := by simp; omega
    unfold pyNext
    have hT : s.TypeIs (.ref e) "enumerate" := ⟨_, he, rfl⟩
    refine wpAny_bind (wpAny_attempt (wpAny_callSpecial?_slot (name := Str.ofString "__next__") hT F.slot_enumerate_next
      (wpAny_call_entry F.slot_enumerate_next hT F.entry_enumerate_next ?_ (F.args_enumerate_next_1 _))))
    show wpAny _ _ (field (.ref e) 2 >>= _) _ _ _
    refine wpAny_bind (wpAny_field he rfl (x := .ref it) rfl ?_)
    refine wpAny_bind (wpAny_nextOf_tuple_end (I.ok.hd hc) hit p hn fun h' x he' hx' => ?_)
    obtain ⟨o, ho, hc'⟩ := hx'
    refine wpAny_bind (wpAny_isInstance (T := "StopIteration") (b := true) ⟨o, ho, hc'⟩ isSubtype_stop ?_)
    exact wpAny_pure ⟨rfl, I.turned (t' := s.toks) (fun b o hb q => he' b o hb q) f0 f1 f3 f4 f5⟩
  self := fun A i s Q E st h => let ⟨⟨_, he⟩, _⟩ := st; wpAny_pyIter_enum he h
def iEnumT (K : PySem.W.Frag) (ta : TA) : TI := fun σ H R => ta σ H fun vs H1 => ∃ a xs, vs = [.ref a] ∧ SqT K H1 a xs ∧ R (IteT K a) H1
theorem pi_enumT {X : Cx} {e : Expr} {ta : TA} {p pos tpos : Pos} {elts : List Expr} {kk : Nat} (hg : Gl X "enumerate") (hm : X.mg "enumerate" = none) (ha : PA X [e] ta) (hs : starEach [e] X.env = [(false, eval e X.env)] := by rfl) :
    PI X (.Tuple elts kk tpos) (.Call (.Name "enumerate" p) [e] [] pos) (iEnumT X.K ta) := by
  refine ⟨fun pins s σ H R I h => ?_⟩
  refine Call_ (ld_blt I hg hm boot_enumerate (PyProof.Rows.callWith_type1 (thn (ha.run pos pins s σ H _ I h) fun us s1 ⟨vs, H1, I1, r1, q1⟩ => ?_) hs rfl))
  obtain ⟨a, xs, ex, hq, q⟩ := q1
  subst ex
  cases r1 with
  | cons r rr =>
    cases rr
    cases r
    obtain ⟨its, rv, p', hz⟩ := I1.tuple hq
    have hal : a < s1.heap.objs.size := by obtain ⟨_, q, _⟩ := p'; exact Heap.lt_size q
    refine call_enum_tuple (show s1.heap.IsTuple a its.toArray from p') fun h' he hit hsz hk => wpAny_pyIter_enum he ?_
    have I2 : Inv X pins σ H1 { s1 with heap := h' } := I1.kept (t' := s1.toks) hk
    refine ⟨s1.heap.objs.size + 1, [s1.heap.objs.size + 1, s1.heap.objs.size], _, _, H1, rfl, I2, turn_enumT a (s1.heap.objs.size + 1) s1.heap.objs.size (Nat.ne_of_lt hal) (Nat.ne_of_lt (Nat.lt_succ_of_lt hal)), ⟨⟨.none, he⟩, hit, Nat.succ_ne_self _⟩, fun b hb => ?_, q⟩
    have e' : b = s1.heap.objs.size + 1 ∨ b = s1.heap.objs.size := by simpa using hb
    have hle : s1.heap.objs.size ≤ b := by
      rcases e' with z | z
      · rw [z]; exact Nat.le_add_right _ _
      · rw [z]; exact Nat.le_refl _
    exact I1.fpOk hle (I1.hok.fresh hle)
end K34
end

section
set_option Elab.async false
set_option linter.all false
set_option maxRecDepth 100000
set_option maxHeartbeats 4000000
/-! list.extend(tuple); sorted(tuple, key=lambda item: item[0]) -/
namespace K34
open PySem PySem.Spec PyProof.Rows L2
open PySem.AutoSeq1 (wpAny_loadPart')
/-! ### l.extend(t) -/
theorem list_ext_tupW (l : Addr) (items : Array Value) (n : Nat) (b : Addr) (items2 : Array Value) (n2 : Nat) (dd2 : Option Addr) (sl2 : Array (Option Value)) (hs0 : ¬(!items.isEmpty && Builtin.List.listTooLong (items.size + items2.size)) = true) (hs1 : items.size ≤ sizeLine) (hs2 : items.size + items2.size ≤ sizeLine + 1) :
    Meets (Builtin.«list.extend» ⟨[.ref l, .ref b], []⟩) (fun _ R s => s.heap.get? l = some { cls := .type "list", dict := none, data := .seq items n, slots := #[] } ∧ s.heap.get? b = some { cls := .type "tuple", dict := dd2, data := .seq items2 n2, slots := sl2 } ∧ R (.ok (.ret Value.none)) { s with heap := s.heap.update l (Obj.mapSeq fun x => x ++ items2), toks := s.toks }) :=
  .of_wp fun prog w A R s h => by
    obtain ⟨hp, g, d, tk, os⟩ := s; obtain ⟨hl, hb, h⟩ := h; have f1 := AutoSeq1.idx_int; have f2 := AutoSeq1.sub_tuple_tuple; have f3 := AutoSeq1.sub_list_list; have f4 := AutoSeq1.sub_tuple_list; have f5 := AutoSeq1.sub_list_tuple
    have hz' : (items ++ items2).size ≤ sizeLine + 1 := by rw [Array.size_append]; exact hs2
    wp_walk using (wpAny_updateSeq hl rfl (hz := hs1) (_hz' := hz')), wpAny_loadPart' hl, wpAny_loadPart' hb; exact ⟨_, rfl, h⟩
section
variable {X : Cx}
def rExtT (K : PySem.W.Frag) : V → List V → Hp → VK → Prop := fun x vs H Q => ∃ l b xs zs, x = .ref l ∧ vs = [.ref b] ∧ H l = some (.lst xs) ∧ SqT K H b zs ∧ xs.length + zs.length ≤ sizeLine ∧ Q .non (upd H l (.lst (xs ++ zs)))
theorem mt_extT : MtM X "list.extend" (rExtT X.K) := by
  intro pins s σ H x vs v us Q I rx rv h
  obtain ⟨l, b, xs, zs, rfl, rfl, hH, hB, hz, q⟩ := h
  cases rx
  obtain ⟨u, rfl, ru⟩ := rv.one
  cases ru
  obtain ⟨z, its, n, r, hl, e⟩ := I.lstM hH
  obtain ⟨its2, r2, ht, z2⟩ := I.tuple hB
  have hl2 := r2.length
  obtain ⟨⟨c2, dd2, dt2, sl2⟩, e2, hc2, n2, hd2⟩ := id ht
  simp only at hc2 hd2
  subst hc2 hd2
  have hsz : its.toArray.size + its2.toArray.size ≤ sizeLine := by rw [List.size_toArray, List.size_toArray]; omega
  have hlong : ¬ (!its.toArray.isEmpty && Builtin.List.listTooLong (its.toArray.size + its2.toArray.size)) = true := by
    rw [notLongL hsz, Bool.and_false]
    exact Bool.false_ne_true
  refine call_meets F.slot_list_extend ⟨_, e, rfl⟩ F.entry_list_extend (F.args_list_extend_2 _ _)
    (list_ext_tupW l its.toArray n b its2.toArray n2 dd2 sl2 hlong (by rw [List.size_toArray]; omega) (by omega)) ⟨e, e2, ?_⟩
  refine ⟨.non, _, I.lset (its' := its ++ its2) hH e (by simp) (r.append r2) ?_, rfl, q⟩
  rw [List.length_append]
  omega
end
/-! ### sorted(t, key=f), over the heap -/
section
variable {prog : Program} {w : World} {A : Around} {E : Value → Shared → Prop} {s : Shared}
theorem collect_tup {l : Addr} {vs : List Value} {Q : List Value → Shared → Prop} (hl : IsTup s.heap l vs.toArray)
    (h : Q vs { s with heap := (s.heap.push (seqObj "list" #[] 0)).update s.heap.objs.size (Obj.mapSeq (· ++ vs.toArray)) }) (hsz : vs.length ≤ sizeLine) :
    wpAny (model prog w) A (collect (.ref l)) Q E s := by
  obtain ⟨o, ho, hc, n, hd⟩ := id hl
  unfold collect
  refine wpAny_bind (wpAny_runValue (codeAny_builtin entry_proto_collect' ?_))
  show wpAny _ _ (do again (.builtin "list.__iadd__" ⟨[← newList [], .ref l], []⟩)) _ _ s
  refine wpAny_bind (wpAny_newList (wpAny_pure ⟨Code.quiet_builtin _ (by decide +kernel), codeAny_builtin entry_list_iadd' ?_⟩))
  show wpAny _ _ (Builtin.List.listExtendWith (.ref s.heap.objs.size) (.ref l) (.ref s.heap.objs.size)) _ _ { s with heap := s.heap.push (seqObj "list" #[] 0) }
  unfold Builtin.List.listExtendWith
  have ho' : (s.heap.push (seqObj "list" #[] 0)).get? l = some o := Heap.get?_push_of_some _ ho
  refine wpAny_bind (wpAny_typeOf (T := "tuple") ⟨o, ho', hc⟩ ?_)
  have ht : (Value.type "tuple" == Value.type "tuple") = true := by rfl
  rw [if_pos (by rw [ht]; simp)]
  refine wpAny_bind (listItems_at ho' hd ?_)
  refine wpAny_bind (listItems_at (xs := #[]) (n := 0) (Heap.get?_push_size _ rfl) rfl ?_)
  rw [if_neg (by simp)]
  refine wpAny_bind (listUpdate_at (xs := #[]) (n := 0) (Heap.get?_push_size _ rfl) rfl ?_ (Nat.zero_le _) (by show (#[] ++ vs.toArray).size ≤ sizeLine + 1; simp only [Array.size_append, List.size_toArray, List.length_nil]; omega))
  refine wpAny_pure ?_
  show wpAny (model prog w) A (do
      let o ← load s.heap.objs.size
      match o.data with
      | .seq xs _ => pure xs.toList
      | _ => unsupported "internal:collect") Q E { s with heap := (s.heap.push (seqObj "list" #[] 0)).update s.heap.objs.size (Obj.mapSeq (· ++ vs.toArray)) }
  refine wpAny_bind (wpAny_load (get?_update_seq (Heap.get?_push_size _ rfl) _) ?_)
  show wpAny _ _ (pure ((#[] : Array Value) ++ vs.toArray).toList) Q E _
  rw [show ((#[] : Array Value) ++ vs.toArray).toList = vs by simp]
  exact wpAny_pure h
end
end K34
namespace K34
open PySem PySem.W PySem.Calls PyProof.Rows
section
variable {prog : Program} {w : World} {A : Around} {E : Value → Shared → Prop} {s : Shared}
theorem sorted_of_sortT {l : Addr} {vs : List Value} {kw : List (Str × Value)} {Q : Value → Shared → Prop} (hl : IsTup s.heap l vs.toArray) (hL : vs.length ≤ sizeLine) (ha1 : argsOk "sorted" ⟨[.ref l], kw⟩) (ha2 : ∀ x, argsOk "list.sort" ⟨[.ref x], kw⟩)
    (body : ∀ E' : Value → Shared → Prop, wpAny (model prog w) A.in1.in1 (Builtin.«list.sort» ⟨[.ref (s.heap.objs.size + 1)], kw⟩) (fun f s' => f = .done (.ret .none) ∧ Q (.ref (s.heap.objs.size + 1)) s') E' { s with heap := copyHeap s.heap vs }) :
    wpAny (model prog w) A (call (.builtin "sorted") [.ref l] kw) Q E s := by
  refine call_function_entry_kw kind_sorted plain_sorted entry_sorted ha1 ?_
  unfold Builtin.«sorted»
  refine wpAny_bind (m := checkCount "sorted" 1 1 _) (wpAny_pure ?_)
  refine wpAny_bind (collect_tup hl ?_ hL)
  refine wpAny_bind (wpAny_newList ?_ hL)
  have hsz : ((s.heap.push (seqObj "list" #[] 0)).update s.heap.objs.size (Obj.mapSeq (· ++ vs.toArray))).objs.size = s.heap.objs.size + 1 := by
    rw [Heap.size_update, size_push']
  show wpAny _ _ _ _ _ { s with heap := copyHeap s.heap vs }
  rw [hsz]
  refine wpAny_bind (wpAny_holding (wpAny_call_entry_kw slot_list_sort ⟨_, copyHeap_at s.heap vs, rfl⟩ entry_list_sort ?body (ha2 _)))
  case body =>
    show wpAny (model prog w) A.in1.in1 (Builtin.«list.sort» ⟨[.ref (s.heap.objs.size + 1)], kw⟩) _ _ _
    refine wpAny_mono (body _) (fun f s' hf => ?_) fun _ _ e => e
    obtain ⟨rfl, hq⟩ := hf
    exact ⟨_, rfl, wpAny_pure ⟨_, rfl, hq⟩⟩
theorem sorted_key_dataT {β : Type} {vs : List Value} {bs : List β} {R : Value → β → Prop} {l : Addr} {f : Value} {kw : List (Str × Value)} {b : Bool} {Q : Value → Shared → Prop} (k : β → PyData) (hl : IsTup s.heap l vs.toArray) (e : EachIs R vs bs) (hal : AllAlike (bs.map k)) (hk : Sortable (bs.map k)) (hL : bs.length ≤ sizeLine)
    (hu : ∀ x, x ∈ bs → A.units + 2 + (k x).depth < cLine) (ha1 : argsOk "sorted" ⟨[.ref l], kw⟩) (ha2 : ∀ x, argsOk "list.sort" ⟨[.ref x], kw⟩) (ht : ∀ x, Builtin.«list.sort» ⟨[.ref x], kw⟩ = ksk_tree x f b)
    (turn : ∀ (v : Value) (x : β), R v x → x ∈ bs → ∀ (h : Heap) (tk : Nat), (∀ b o, s.heap.get? b = some o → h.get? b = some o) →
      wpAny (model prog w) A.in1.in1 (call f [v]) (KeyPure (k x) { s with heap := h, toks := tk }) (fun _ _ => False) { s with heap := h, toks := tk })
    (h : ∀ out c h' tk, (∀ b o, s.heap.get? b = some o → h'.get? b = some o) → s.heap.get? (s.heap.objs.size + 1) = none → h'.get? (s.heap.objs.size + 1) = some (seqObj "list" (List.toArray out) c) → out.length = bs.length → EachIs R out (bs.mergeSort (dataLe b k)) →
      Q (.ref (s.heap.objs.size + 1)) { s with heap := h', toks := tk }) :
    wpAny (model prog w) A (call (.builtin "sorted") [.ref l] kw) Q E s := by
  have fresh : s.heap.get? (s.heap.objs.size + 1) = none := Heap.get?_none_of_le (Nat.le_succ _)
  have up : ∀ {g : Heap}, KeepsBut (s.heap.objs.size + 1) (copyHeap s.heap vs) g → ∀ b o, s.heap.get? b = some o → g.get? b = some o := fun {g} kp b o q =>
    kp b o (Nat.ne_of_lt (Nat.lt_succ_of_lt (Heap.lt_size q))) (copyHeap_old q)
  refine sorted_of_sortT hl (by rw [e.length]; exact hL) ha1 ha2 fun E' => ?_
  rw [ht]
  refine keyH_tree (kz := bs.map k) (s := { s with heap := copyHeap s.heap vs }) (copyHeap_at s.heap vs) (by rw [List.length_map]; exact e.length.symm) (by rw [e.length]; exact hL) hal hk (bound_map (A := A.in1.in1) hu)
    (keyH_turns (s := { s with heap := copyHeap s.heap vs }) e fun v x hR hx h tk kp => turn v x hR hx h tk (up kp)) fun h' tk out c kp hD ko => ⟨rfl, ?_⟩
  exact h out c h' tk (up kp) fresh hD ((ko.length (by rw [List.length_map]; exact e.length.symm)).trans e.length) (keyedOut_each k ko e)
end
end K34
namespace K34
open PySem PySem.Spec PyProof.Rows L2 LamX
/-! ### the lambda item: item[0] -/
section
variable {P : Program} {w : World} {A : Around} {s : Shared}
theorem lam_item0 {q : Str} {params : Arguments} {scope : Scope} {pm ctv : Value} {f c' : Addr} {p1 p2 p3 : Pos} {a : Addr} {items : Array Value} {i : Int} {tk : Tok}
    (hsc : scope = { kind := .function, names := [(PySem.Str.ofString "item", .local)], isGenerator := false, isCoroutine := false, more := [] })
    (hbind : ∀ (q : Str) (cl : List (Str × Addr)) (pm cv ctv v : Value), bindArgs (PySem.W.kla_fn "<lambda>" q params (.Subscript (.Name "item" p1) (.Constant (.int 0) 0 p2) p3) scope cl pm cv ctv) ⟨[v], []⟩ = pure [(PySem.Str.ofString "item", v)])
    (hf : s.heap.get? f = some (PySem.W.kla_obj "<lambda>" q params (.Subscript (.Name "item" p1) (.Constant (.int 0) 0 p2) p3) scope [] pm c' ctv))
    (hcd : s.heap.CodeRec (.ref c') q) (hlim : s.heap.NoLimit) (hd : A.depth < recursionLimit) (ht : IsTup s.heap a items) (h0 : items[0]? = some (.int i tk)) :
    wpAny (model P w) A (call (.ref f) [.ref a]) (PySem.W.KeyPure (.int i) s) (fun _ _ => False) s := by
  refine wpAny_call ?_
  refine PySem.W.kla_callFunE hd hf rfl (by rw [hsc]) (by rw [hsc]) rfl hcd ?_
  rw [hbind]
  refine wpAny_pure (wpAny_newFunctionEnv (by rw [hsc]; intro y hy; have e : y = (PySem.Str.ofString "item", NameKind.local) := by simpa using hy
                                              subst e; decide) (by rw [hsc]; intro y hy; have e : y = (PySem.Str.ofString "item", Value.ref a) := by simpa using hy
                                                                   subst e; rfl) (fun h₁ hns hsb => ⟨hlim.fresh _ hsb, ?_⟩) (by rw [hsc]))
  have kp : ∀ b o, s.heap.get? b = some o → h₁.get? b = some o := fun b o e => hsb.extBut b o (Nat.ne_of_lt (Heap.lt_size e)) (Heap.get?_push_of_some _ e)
  refine PySem.W.kla_codeExpr ?_
  refine Subscript_ (wpAny_Name (wpAny_loadName_local (by rw [hsc]; rfl) (by rw [hsc]; rfl) hns (v := .ref a) rfl ?_) (by decide))
  refine wpAny_Constant_int ?_
  have ht1 : IsTup h₁ a items := by
    obtain ⟨o, ho, hc⟩ := ht
    exact ⟨o, kp _ _ ho, hc⟩
  have hsz : 0 < items.size := by
    obtain ⟨z, _⟩ := Array.getElem?_eq_some_iff.mp h0
    exact z
  refine subscriptTail_builtinR (x := .int i tk) ht1.typeIs slot_tuple_getitem.lookup ?_ rfl
  refine getItem_tuple (j := 0) ht1 (by decide) (by decide) (by unfold seqIndex?; simp [hsz]) h0 ?_
  exact ⟨rfl, h₁, _, rfl, kp, .int _ _⟩
end
end K34
end

section
set_option Elab.async false
set_option linter.all false
set_option maxRecDepth 100000
set_option maxHeartbeats 4000000
namespace K34
open PySem PySem.Spec PyProof.Rows L2 LamX
theorem ExtN.sqT {K : PySem.W.Frag} {H H' : Hp} {a : Addr} {xs : List V} (e : ExtN H H') (h : SqT K H a xs) : SqT K H' a xs := by
  rcases h with (h | ⟨o, h⟩) | h
  · exact .inl (.inl (e _ _ h fun ps z => by cases z))
  · exact .inl (.inr ⟨o, e _ _ h fun ps z => by cases z⟩)
  · exact .inr h
theorem each_of_vals {xs : List V} : ∀ {ys : List V} {us : List Value}, Vals ys us → (∀ y ∈ ys, y ∈ xs) → PySem.W.EachIs (fun (u : Value) (y : V) => RelV y u ∧ y ∈ xs) us ys
  | _, _, .nil, _ => .nil
  | _, _, .cons r t, h => .cons ⟨r, h _ List.mem_cons_self⟩ (each_of_vals t fun y hy => h y (List.mem_cons_of_mem _ hy))
theorem vals_of_each {xs : List V} : ∀ {ys : List V} {us : List Value}, PySem.W.EachIs (fun (u : Value) (y : V) => RelV y u ∧ y ∈ xs) us ys → Vals ys us
  | _, _, .nil => .nil
  | _, _, .cons r t => .cons r.1 (vals_of_each t)
/-- sorted(e, key=lambda item: item[0]): e a tuple of tuples whose first items are ints -/
def tSortL (K : PySem.W.Frag) (T : List (Addr × Str)) (ta : TA) : TE := fun σ H Q => ta σ H fun vs H1 => Tabs T H1 ∧ ∃ (t : Addr) (xs : List V) (k : V → Int), vs = [.ref t] ∧ SqT K H1 t xs ∧ (∀ y ∈ xs, ∃ a r, y = .ref a ∧ SqT K H1 a (.int (k y) :: r)) ∧
  ∀ H2, ExtN H1 H2 → Tabs T H2 → ∀ p, H2 p = none → Q (.ref p) (upd H2 p (.lst (xs.mergeSort fun x y => decide (k x ≤ k y))))
theorem pe_sortLam {X : Cx} {T : List (Addr × Str)} {c P : Addr} {j : Nat} {e : Expr} {ta : TA} {params : Arguments} {scope : Scope} {p p1 p2 p3 lpos kpos pos : Pos}
    (hg : Gl X "sorted") (hm : X.mg "sorted" = none) (ha : PA X [e] ta) (TB : TabB X.base X.mg c P) (hcode : X.env.code = .ref c) (hmT : (P, X.env.qual ++ "<lambda>") ∈ T) (hu : ∀ p ∈ T, p.1 = P → p.2 = X.env.qual ++ "<lambda>") (hr : Room (j + 3) X.A)
    (hdef : defaultsOf params X.env = ([], [])) (hsc : scope = { kind := .function, names := [(PySem.Str.ofString "item", .local)], isGenerator := false, isCoroutine := false, more := [] })
    (hbind : ∀ (q : Str) (cl : List (Str × Addr)) (pm cv ctv v : Value), bindArgs (PySem.W.kla_fn "<lambda>" q params (.Subscript (.Name "item" p1) (.Constant (.int 0) 0 p2) p3) scope cl pm cv ctv) ⟨[v], []⟩ = pure [(PySem.Str.ofString "item", v)])
    (h1 : backTo pos (starEach [e] X.env) = (false, eval e X.env) :: backTo pos (starEach [] X.env) := by rfl) (hpl : (backTo pos (starEach [e] X.env)).any (·.1) = false := by rfl)
    (hall : (backToKw pos (keywordEach [⟨some "key", .Lambda params (.Subscript (.Name "item" p1) (.Constant (.int 0) 0 p2) p3) scope lpos, kpos⟩] X.env)).all (·.1.isSome) = true := by rfl)
    (hnone : (backToKw pos (keywordEach [⟨some "key", .Lambda params (.Subscript (.Name "item" p1) (.Constant (.int 0) 0 p2) p3) scope lpos, kpos⟩] X.env)).any (·.1.isNone) = false := by rfl) :
    PE X (.Call (.Name "sorted" p) [e] [⟨some "key", .Lambda params (.Subscript (.Name "item" p1) (.Constant (.int 0) 0 p2) p3) scope lpos, kpos⟩] pos) (tSortL X.K T ta) := by
  refine ⟨fun pins s σ H Q I h => ?_⟩
  refine wpAny_Call_Name_kw (ld_blt I hg hm (u := .builtin "sorted") (by decide +kernel) ?_ (by decide) (by decide))
  refine PyProof.Rows.callWith_kw (thn (ha.run pos pins s σ H _ I h) fun us s1 ⟨vs, H1, I1, r1, hT, t, xs, k, ev, hx, hy, q⟩ => ?_) h1 hpl hall hnone
  subst ev
  obtain rfl := Vals.ref1 r1
  show wpAny _ _ (evalAll [(do let v ← eval (.Lambda params (.Subscript (.Name "item" p1) (.Constant (.int 0) 0 p2) p3) scope lpos) X.env; standAt pos; pure v)]) _ _ s1
  have hfree : ∀ y ∈ scope.names, y.2 = .free → ∃ c, X.env.cells.lookup y.1 = some c := by
    rw [hsc]
    intro y hy e
    have z : y = (PySem.Str.ofString "item", NameKind.local) := by simpa using hy
    subst z
    cases e
  refine wpAny_evalAll_cons (wpAny_bind (lam_make2 I1 TB hcode hmT hu hT hdef hfree fun f c' pm ctv H2 s2 I2 eN T2 hf hfn hfr hco => wpAny_bind (wpAny_standAt (wpAny_pure (wpAny_evalAll_nil ?_)))))
  have hclo : cloFrom X.env.cells scope.names [] = [] := by
    rw [hsc]
    rfl
  rw [hclo] at hf
  show wpAny (model X.prog X.w) X.A (call (.builtin "sorted") [.ref t] [(PySem.Str.ofString "key", .ref f)]) (EP X pins σ Q) X.xe s2
  obtain ⟨its, rv, ht, hz⟩ := I2.tuple (ExtN.sqT eN hx)
  have hlen := rv.length
  have hcode2 : s2.heap.CodeRec (.ref c') (X.env.qual ++ "<lambda>") := by
    obtain ⟨⟨oc, vs, tk, hoc, hdc, hvc⟩, _, _⟩ := I2.hok c' _ hco
    exact ⟨c', oc, vs, tk, rfl, hoc, hdc, hvc⟩
  have hdi : ∀ y, PyData.depth (.int (k y)) = 0 := fun y => by simp [PyData.depth]
  refine sorted_key_dataT (b := false) (kw := [(PySem.Str.ofString "key", .ref f)]) (f := .ref f) (fun y : V => .int (k y)) ht (each_of_vals (xs := xs) rv fun y hy => hy) (PySem.W.AllAlike.of fun _ _ => by simp [PySem.W.alike]) (PySem.W.Sortable.others fun _ => ⟨(by simp), (by simp)⟩) hz (fun y _ => ?_)
    (PyProof.Rows.ksk_s1 _ _) (fun _ => PyProof.Rows.ksk_l1 _ _) (fun _ => PyProof.Rows.ksk_t1 _ _) (fun v y ⟨ry, hym⟩ _ h tk kp => ?_) fun out cc h' tk kp fresh hD hol eo => ?_
  · have h0 := hr.un
    rw [hdi]
    omega
  · obtain ⟨a, r, rfl, ha'⟩ := hy y hym
    obtain rfl : v = Value.ref a := ry
    obtain ⟨its2, rv2, ht2, _⟩ := I2.tuple (ExtN.sqT eN ha')
    cases rv2 with
    | cons ri rr =>
      obtain ⟨tk2, rfl⟩ := ri
      have ht3 : ∀ items, IsTup s2.heap a items → IsTup h a items := fun items ⟨o, ho, hc⟩ => ⟨o, kp _ _ ho, hc⟩
      refine lam_item0 (s := { s2 with heap := h, toks := tk }) hsc hbind (kp _ _ hf) ?_ (I2.nolimit.keeps kp) ((hr.in1).in1).depth (ht3 _ ht2) (by rfl)
      obtain ⟨c0, oc, vs, tk3, e1, e2, e3, e4⟩ := hcode2
      exact ⟨c0, oc, vs, tk3, e1, kp _ _ e2, e3, e4⟩
  · rw [PySem.W.dataLe_int k] at eo
    have hp : H2 (s2.heap.objs.size + 1) = none := I2.hok.fresh (Nat.le_succ _)
    have hlen2 : (xs.mergeSort fun x y => decide (k x ≤ k y)).length ≤ sizeLine := by
      rw [List.length_mergeSort]
      exact hz
    exact ⟨.ref _, upd H2 (s2.heap.objs.size + 1) (.lst (xs.mergeSort fun x y => decide (k x ≤ k y))), I2.laid (t' := tk) kp (Nat.le_succ _) ⟨hlen2, out, cc, vals_of_each eo, hD⟩, rfl, q H2 eN T2 _ hp⟩
end K34
end

section
set_option Elab.async false
set_option linter.all false
set_option maxRecDepth 100000
set_option maxHeartbeats 4000000
/-! try .. except X as n, the first clause always taken; C.m(..) of an own class's function -/
namespace K34
open PySem PySem.Spec PyProof.Rows L2
/-- the first clause takes it -/
def wAsF (K : PySem.W.Frag) (c : Value) (i : Nat) (ts : Addr → Value → Option Addr → TS) (D : Ends) : WX := fun cls d σ H =>
  PySem.W.exmOne K cls c = some true ∧ ∀ a, H a = none → ts a cls d { nx := fun σ' H' => D.nx (σ'.set i none) H', rt := D.rt, bk := fun σ' H' => D.bk (σ'.set i none) H', ct := fun σ' H' => D.ct (σ'.set i none) H' } (σ.set i (some (.ref a))) H
section
variable {X : Cx} {x n : Str} {c : Value} {i : Nat} {body suite : List Stmt} {b₀ : Stmt} {np pos pos' : Pos} {tb : WX → TS} {ts : Addr → Value → Option Addr → TS} {hds : List ExceptHandler}
theorem ps_try_asF (hs : X.stack = X.env :: X.outer) (hf : X.env.frame = some X.env.locals) (hN : X.N.Nodup) (hi : X.N[i]? = some n) (hln : X.env.kindOf n = some .local) (hc : Names X x c)
    (hb : ∀ (W : WX) (pn : List (Addr × Obj)) (xe : Value → Shared → Prop), Takes (X.tr pn xe) W → PassesOwn (model X.prog X.w) X.A X.env xe → PSs (X.tr pn xe) body (tb W))
    (hsu : ∀ (a : Addr) (oe : Obj) (cls : Value) (d : Option Addr) (pn : List (Addr × Obj)), Zc cls d oe → (∃ vs, oe.data = .fields vs) → PSs (X.suite a ((a, oe) :: pn)) (b₀ :: suite) (ts a cls d)) :
    PS X (.Try body (.ExceptHandler (some (.Name x np)) (some n) (b₀ :: suite) pos' :: hds) [] [] pos) (fun D σ H => tb (wAsF X.K c i ts D) D σ H) := by
  refine ⟨fun pins s σ H D I h => ?_⟩
  have ok := I.ok
  have hfr : X.A.frames = some (X.env :: X.outer) := by rw [ok.frames, hs]
  have hloc : Loc X.env.scope n := .inl hln
  refine wpAny_Try_except ?_
  refine wpAny_mono ((hb (wAsF X.K c i ts D) (X.pn ++ pins) (fun e s₁ => wpAny (model X.prog X.w) X.A (noteFrame e X.env) (fun _ s₂ => wpAny (model X.prog X.w) X.A (setFlight e none) (fun _ s₃ =>
    wpAny (model X.prog X.w) X.A (handleBy e X.env (.ExceptHandler (some (.Name x np)) (some n) (b₀ :: suite) pos' :: hds)) (SP X pins D) X.xe s₃) X.xe s₂) X.xe s₁) (fun u s' xx => ?_) PassesOwn.looking).run [] s σ H D (I.toTry _) h) (fun f s1 hsp => ?_) (fun e s1 he => he)
  · -- the catch
    obtain ⟨a, B, sI, pins', σ', H', cls, d, rfl, J', nb, up, sky, na, os, ag, hb1, hyes⟩ := xx
    have J : Inv X pins σ' H' sI := J'.ofTry ok
    have sky' : Sky B (X.env :: X.outer) a (Zc cls d) X.env.locals s'.heap := by rw [← hs]; exact sky
    show wpAny (model X.prog X.w) X.A (noteFrame (.ref a) X.env) _ _ _
    refine Sky.land Zc.steady hfr hf sky' fun h3 fl3 up3 => ?_
    have J3 : Inv X pins σ' H' { s' with heap := h3 } := J.landed nb fl3.1 (up.trans up3) os ag
    obtain ⟨oe3, vs3, he3, hz3, hd3⟩ := fl3.there
    have notFr : ∀ {h : Heap} {o : Obj} {vs : Array Value}, h.FunFrames B (X.env :: X.outer) → h.get? a = some o → o.data = .fields vs → a ∉ frs (X.env :: X.outer) := fun {h o vs} ff e dd hm => by
      obtain ⟨_, o', e', hnf⟩ := ff.mem hm
      rw [e] at e'; cases e'
      exact hnf _ dd
    have nfr := notFr fl3.2.2.1 he3 hd3
    have nL : a ≠ X.env.locals := fun z => nfr (List.mem_filterMap.mpr ⟨X.env, List.mem_cons_self, by rw [hf, z]⟩)
    have nF : a ∉ X.fs := fun hm => by
      obtain ⟨e, he, q⟩ := List.mem_filterMap.mp hm
      exact nfr (List.mem_filterMap.mpr ⟨e, List.mem_cons_of_mem _ he, q⟩)
    have S3 := J3.suite he3 hd3 na nL nF
    refine wpAny_handleBy_cons (codeAny_handlers_test ?_) (by intro q; cases q)
    have LT : PySem.W.Looks (model X.prog X.w) h3 (typeOf (.ref a)) cls := fun A Q E s k q => wpAny_typeOf_ref (k _ _ he3) (by rw [hz3.1]; exact q)
    have LM := PySem.W.exm_one (M := model X.prog X.w) (J3.kIn) LT hb1
    have test : ∀ {Q : Value → Shared → Prop} {E : Value → Shared → Prop}, Q c { s' with heap := h3 } → wpAny (model X.prog X.w) (X.A.mark (some (.ref a))) (eval (.Name x np) X.env) Q E { s' with heap := h3 } := fun {Q E} q => by
      obtain ⟨hg, hdbg, hm | ⟨hm, hv, hnn⟩⟩ := hc
      · exact ld_glob (X := X.suite a ((a, oe3) :: (X.pn ++ pins))) S3 hg hm q hdbg
      · exact ld_blt (X := X.suite a ((a, oe3) :: (X.pn ++ pins))) S3 hg hm hv q hnn hdbg
    refine test (LM.here ?_)
    refine codeAny_handlers_suite_as ?_
    refine HandSPX.lands_againZ fl3 fun h4 fl4 up4 => ?_
    have J4 : Inv X pins σ' H' { s' with heap := h4 } := J.landed nb fl4.1 ((up.trans up3).trans up4) os ag
    obtain ⟨oe4, vs4, he4, hz4, hd4⟩ := fl4.there
    have S4 := J4.suite he4 hd4 na nL nF
    refine store_ok (X := X.suite a ((a, oe4) :: (X.pn ++ pins))) (v := .ref a) S4 hN hi hloc rfl (fun s5 S5 => ?_) (.inr hln)
    refine wpAny_mono ((hsu a oe4 cls d (X.pn ++ pins) hz4 ⟨_, hd4⟩).run [] s5 _ H' _ S5 (hyes a na)) (fun f s6 hsp => ?_) (fun _ _ z => False.elim z)
    have end_ : ∀ {σ6 : L2.St} {H6 : Hp} {Q : Shared → Prop}, Inv (X.suite a ((a, oe4) :: (X.pn ++ pins))) [] σ6 H6 s6 → (∀ s7, Inv X pins (σ6.set i none) H6 s7 → Q s7) →
        wpAny (model X.prog X.w) X.A (do bindName X.env n .none; unbindBehindTheSuite X.env n pos') (fun _ s7 => Q s7) X.xe s6 := fun {σ6 H6 Q} S6 hq => gone_ok (S6.unsuite ok) hN hi hln hq
    cases f with
    | next =>
      obtain ⟨σ6, H6, S6, q6⟩ := hsp
      exact end_ S6 fun s7 J7 => ⟨_, _, J7, q6⟩
    | brk =>
      obtain ⟨σ6, H6, S6, q6⟩ := hsp
      exact end_ S6 fun s7 J7 => ⟨_, _, J7, q6⟩
    | cont =>
      obtain ⟨σ6, H6, S6, q6⟩ := hsp
      exact end_ S6 fun s7 J7 => ⟨_, _, J7, q6⟩
    | ret u =>
      obtain ⟨v6, σ6, H6, S6, r6, q6⟩ := hsp
      exact end_ S6 fun s7 J7 => ⟨_, _, _, J7, r6, q6⟩
  · cases f with
    | next =>
      obtain ⟨σ', H', J', q⟩ := hsp
      exact wpAny_execs_nil ⟨σ', H', J'.ofTry ok, q⟩
    | brk =>
      obtain ⟨σ', H', J', q⟩ := hsp
      exact ⟨σ', H', J'.ofTry ok, q⟩
    | cont =>
      obtain ⟨σ', H', J', q⟩ := hsp
      exact ⟨σ', H', J'.ofTry ok, q⟩
    | ret u =>
      obtain ⟨v, σ', H', J', r, q⟩ := hsp
      exact ⟨v, σ', H', J'.ofTry ok, r, q⟩
end
/-! ### C.m(e, ..), m a plain function of the own class C -/
section
variable {X : Cx} {CX : CXT} {x m : Str} {C f : Addr} {mc : Value} {k : Nat} {fd : FuncData} {ps : List Str} {sp : Sp} {E : XK} {ds : List Value} {dvs : List V} {e : Expr} {es : List Expr} {t : TA} {p1 p2 pos : Pos}
theorem pe_clsfn {pl : Sem Bool} (F : FnOk X.prog X.w X.K X.mg X.base CX k f fd ps sp) (hr : Room k X.A) (hg : Gl X x) (hm : X.mg x = some (.ref C)) (r : ClX.CRead X.K C mc) (hat : PySem.W.findCls X.K (.ref C) mc m = some (.val (.ref f))) (hk : PySem.W.keepIn X.K (.ref f) = true)
    (hb : Binds X.K fd ps ds) (hd : Vals dvs ds) (hx : Passes CX X E) (ha : PA X (e :: es) t)
    (hdb : (x == ("__debug__" : Str)) = false := by decide) (he : starEach (e :: es) X.env = (false, eval e X.env) :: starEach es X.env := by rfl) (hpl : (backTo pos (starEach es X.env)).any (·.1) = false := by rfl)
    (ht : eval (.Call (.Attribute (.Name x p1) m p2) (e :: es) [] pos) X.env = (do
      let ov ← eval (.Name x p1) X.env
      standAt p2.atName
      let (f, first) ← holding [ov] (getMethod ov m pl)
      callWith pos f first (backTo pos (starEach (e :: es) X.env)) (backToKw pos (keywordEach [] X.env))) := by rfl) :
    PE X (.Call (.Attribute (.Name x p1) m p2) (e :: es) [] pos) (tCall sp dvs E t) := by
  refine ⟨fun pins s σ H Q I h => ?_⟩
  refine PySem.W.methodCall_KW (pl := pl) (ld_glob I hg hm ?_ hdb) ht
  refine PySem.W.method_cls I.kIn r.ga (ClX.getcval_ok I r ⟨hat, (show RelV (.ref f) (.ref f) from rfl)⟩ fun s1 I1 => ?_)
  show wpAny _ _ (callWith pos (.ref f) [] (backTo pos (starEach (e :: es) X.env)) []) _ _ s1
  refine PySem.W.callWith_K (h₀ := X.base) I.ok.mod.kin hk (thn (ha.run pos pins s1 σ H _ I1 h) fun us s2 ⟨vs, H1, I2, r2, q⟩ => ⟨I2.kIn, ?_⟩) he hpl
  exact run_fn F hr hb hd hx I2 r2 q
end
end K34
end

section
set_option Elab.async false
set_option linter.all false
set_option maxRecDepth 100000
set_option maxHeartbeats 4000000
/-! clips on the abstract heap; what a def's theorem says -/
namespace K34
open PySem PySem.Spec PyProof.Rows L2 LamX
/-! ### paired lists -/
section
variable {α β : Type} {F G : α → β → Prop}
theorem Pd.get : ∀ {xs : List α} {ys : List β} {i : Nat} {x : α}, Paired F xs ys → xs[i]? = some x → ∃ y, ys[i]? = some y ∧ F x y
  | _, _, _, _, .nil, e => by simp at e
  | _, _, 0, _, .cons r _, e => by
    cases e
    exact ⟨_, rfl, r⟩
  | _, _, i + 1, x, .cons _ t, e => Pd.get (i := i) (x := x) t e
theorem Pd.append : ∀ {xs xs' : List α} {ys ys' : List β}, Paired F xs ys → Paired F xs' ys' → Paired F (xs ++ xs') (ys ++ ys')
  | _, _, _, _, .nil, s => s
  | _, _, _, _, .cons r t, s => .cons r (Pd.append t s)
theorem Pd.mem : ∀ {xs : List α} {ys : List β} {x : α}, Paired F xs ys → x ∈ xs → ∃ y, y ∈ ys ∧ F x y
  | _, _, _, .nil, h => by cases h
  | _, _, _, .cons r t, h => by
    rcases List.mem_cons.mp h with e | h
    · rw [e]
      exact ⟨_, List.mem_cons_self, r⟩
    · obtain ⟨y, hy, q⟩ := Pd.mem t h
      exact ⟨y, List.mem_cons_of_mem _ hy, q⟩
theorem Pd.take : ∀ {xs : List α} {ys : List β} (n : Nat), Paired F xs ys → Paired F (xs.take n) (ys.take n)
  | _, _, 0, _ => .nil
  | _, _, _ + 1, .nil => .nil
  | _, _, n + 1, .cons r t => .cons r (Pd.take n t)
theorem Pd.drop : ∀ {xs : List α} {ys : List β} (n : Nat), Paired F xs ys → Paired F (xs.drop n) (ys.drop n)
  | _, _, 0, r => r
  | _, _, _ + 1, .nil => .nil
  | _, _, n + 1, .cons _ t => Pd.drop n t
end
/-! ### what stays -/
/-- all that is tracked stays, but what S names; tuples stay in any case -/
structure Kp (S : Addr → Prop) (H H' : Hp) : Prop where
  all : ∀ b o, ¬ S b → H b = some o → H' b = some o
  tup : ∀ b xs, H b = some (.tup xs) → H' b = some (.tup xs)
def S0 : Addr → Prop := fun _ => False
def SA (d : Addr) : Addr → Prop := fun b => b = d
section
variable {S S' : Addr → Prop} {H H1 H2 H' : Hp} {K : PySem.W.Frag} {a b d p : Addr} {xs : List V} {o : HO}
theorem Kp.refl (S : Addr → Prop) (H : Hp) : Kp S H H := ⟨fun _ _ _ h => h, fun _ _ h => h⟩
theorem Kp.trans (x : Kp S H H1) (y : Kp S H1 H2) : Kp S H H2 := ⟨fun b o n h => y.all b o n (x.all b o n h), fun b xs h => y.tup b xs (x.tup b xs h)⟩
theorem Kp.mono (x : Kp S H H1) (h : ∀ b, S b → S' b) : Kp S' H H1 := ⟨fun b o n e => x.all b o (fun z => n (h b z)) e, x.tup⟩
theorem Kp.ofS0 (x : Kp S0 H H1) : Kp S H H1 := x.mono fun _ z => z.elim
theorem Kp.same (x : Kp S0 H H1) : Same H H1 := fun b o e => x.all b o (fun z => z) e
theorem Kp.of (x : Same H H1) : Kp S H H1 := ⟨fun b o _ e => x b o e, fun b xs e => x b _ e⟩
/-- a new object -/
theorem Kp.new (h : H p = none) : Kp S H (upd H p o) := .of fun b u e => by
  rw [upd_ne (ne_of_none e h)]
  exact e
theorem Kp.add (x : Kp S H H1) (h : H1 p = none) : Kp S H (upd H1 p o) := x.trans (.new h)
/-- an object that S names is written -/
theorem Kp.put (h : S d) (hd : ∀ xs, H d ≠ some (.tup xs)) : Kp S H (upd H d o) := ⟨fun b u n e => by
  rw [upd_ne (fun z => n (by rw [z]; exact h))]
  exact e, fun b xs e => by
  rw [upd_ne (fun z => hd xs (by rw [← z]; exact e))]
  exact e⟩
/-- an object that is newer than H is written -/
theorem Kp.own (x : Kp S H H1) (h : H d = none) (hd : ∀ xs, H1 d ≠ some (.tup xs)) : Kp S H (upd H1 d o) := ⟨fun b u n e => by
  rw [upd_ne (ne_of_none e h)]
  exact x.all b u n e, fun b xs e => by
  rw [upd_ne (ne_of_none e h)]
  exact x.tup b xs e⟩
theorem Kp.sqT (x : Kp S H H1) (h : H a = some (.tup xs)) : SqT K H1 a xs := .of (x.tup _ _ h)
theorem Kp.tabs {T : List (Addr × Str)} (x : Kp S0 H H1) (t : Tabs T H) : Tabs T H1 := t.ext x.same
theorem lst_not_tup {ys : List V} (h : H a = some (.lst ys)) : ∀ xs, H a ≠ some (.tup xs) := fun xs z => by
  rw [h] at z
  cases z
end
/-! ### paints and clips -/
def PtAt (H : Hp) (v : V) : Option Pt → Prop
  | none => v = .non
  | some (.solid n) => ∃ a, v = .ref a ∧ H a = some (.tup [.str "solid", .int n])
  | some (.steps x y n) => ∃ a, v = .ref a ∧ H a = some (.tup [.str "steps", .int x, .int y, .int n])
  | some (.pic w h vs cs) => ∃ a b c d, v = .ref a ∧ H a = some (.tup [.str "picture", .ref b]) ∧ H b = some (.tup [.int w, .int h, .ref c, .ref d]) ∧ H c = some (.tup (vs.map V.int)) ∧ H d = some (.tup (cs.map V.int))
/-- at a: the tuple of the clip c, its paint the value pv -/
def ClipA (H : Hp) (a : Addr) (pv : V) (c : Clip) : Prop := H a = some (.tup [.int c.s, .int c.n, pv, .int c.a, .int c.b]) ∧ PtAt H pv c.p
def ClipAt (H : Hp) (v : V) (c : Clip) : Prop := ∃ a pv, v = .ref a ∧ ClipA H a pv c
def ClipsAt (H : Hp) (a : Addr) (cs : List Clip) : Prop := ∃ vs, H a = some (.tup vs) ∧ Paired (ClipAt H) vs cs
section
variable {S : Addr → Prop} {H H1 : Hp} {v pv : V} {a : Addr} {c : Clip} {cs : List Clip} {q : Option Pt}
theorem PtAt.kp (x : Kp S H H1) (h : PtAt H v q) : PtAt H1 v q := by
  cases q with
  | none => exact h
  | some p =>
    cases p with
    | solid n =>
      obtain ⟨a, e, h⟩ := h
      exact ⟨a, e, x.tup _ _ h⟩
    | steps i j n =>
      obtain ⟨a, e, h⟩ := h
      exact ⟨a, e, x.tup _ _ h⟩
    | pic w hh vs cs =>
      obtain ⟨a, b, c, d, e, h1, h2, h3, h4⟩ := h
      exact ⟨a, b, c, d, e, x.tup _ _ h1, x.tup _ _ h2, x.tup _ _ h3, x.tup _ _ h4⟩
theorem ClipA.kp (x : Kp S H H1) (h : ClipA H a pv c) : ClipA H1 a pv c := ⟨x.tup _ _ h.1, h.2.kp x⟩
theorem ClipAt.kp (x : Kp S H H1) (h : ClipAt H v c) : ClipAt H1 v c := by
  obtain ⟨a, pv, e, h⟩ := h
  exact ⟨a, pv, e, h.kp x⟩
theorem Paired.kp (x : Kp S H H1) {vs : List V} (h : Paired (ClipAt H) vs cs) : Paired (ClipAt H1) vs cs := L2.Paired.mapP h fun _ _ z => z.kp x
theorem ClipsAt.kp (x : Kp S H H1) (h : ClipsAt H a cs) : ClipsAt H1 a cs := by
  obtain ⟨vs, e, h⟩ := h
  exact ⟨vs, x.tup _ _ e, Paired.kp x h⟩
theorem ClipA.at (h : ClipA H a pv c) : ClipAt H (.ref a) c := ⟨a, pv, rfl, h⟩
end
/-! ### the data of a value, for == -/
def Pt.d : Pt → PyData
  | .solid n => .tuple [.str "solid", .int n]
  | .steps x y n => .tuple [.str "steps", .int x, .int y, .int n]
  | .pic w h vs cs => .tuple [.str "picture", .tuple [.int w, .int h, .tuple (vs.map PyData.int), .tuple (cs.map PyData.int)]]
def ptD : Option Pt → PyData
  | none => .none
  | some p => p.d
def laneD : Option (Option Pt × Int) → PyData
  | none => .none
  | some (p, l) => .tuple [ptD p, .int l]
theorem dp_ints {K : PySem.W.Frag} {H : Hp} : ∀ ns : List Int, DpAll K H (ns.map V.int) (ns.map PyData.int)
  | [] => .nil
  | n :: r => .cons (.int n) (dp_ints r)
theorem PtAt.dp {K : PySem.W.Frag} {H : Hp} {v : V} {q : Option Pt} (h : PtAt H v q) : Dp K H v (ptD q) := by
  cases q with
  | none =>
    have e : v = .non := h
    subst e
    exact .non
  | some p =>
    cases p with
    | solid n =>
      obtain ⟨a, rfl, h⟩ := h
      exact .tup (.of h) (.cons (.str _) (.cons (.int _) .nil))
    | steps i j n =>
      obtain ⟨a, rfl, h⟩ := h
      exact .tup (.of h) (.cons (.str _) (.cons (.int _) (.cons (.int _) (.cons (.int _) .nil))))
    | pic w hh vs cs =>
      obtain ⟨a, b, c, d, rfl, h1, h2, h3, h4⟩ := h
      exact .tup (.of h1) (.cons (.str _) (.cons (.tup (.of h2) (.cons (.int _) (.cons (.int _) (.cons (.tup (.of h3) (dp_ints vs)) (.cons (.tup (.of h4) (dp_ints cs)) .nil))))) .nil))
/-- what a lane gives, as a value -/
def LaneAt (H : Hp) (v : V) : Option (Option Pt × Int) → Prop
  | none => v = .non
  | some (p, l) => ∃ a pv, v = .ref a ∧ H a = some (.tup [pv, .int l]) ∧ PtAt H pv p
theorem LaneAt.kp {S : Addr → Prop} {H H1 : Hp} {v : V} {q : Option (Option Pt × Int)} (x : Kp S H H1) (h : LaneAt H v q) : LaneAt H1 v q := by
  cases q with
  | none => exact h
  | some r =>
    obtain ⟨a, pv, e, h1, h2⟩ := h
    exact ⟨a, pv, e, x.tup _ _ h1, h2.kp x⟩
theorem LaneAt.dp {K : PySem.W.Frag} {H : Hp} {v : V} {q : Option (Option Pt × Int)} (h : LaneAt H v q) : Dp K H v (laneD q) := by
  cases q with
  | none =>
    have e : v = .non := h
    subst e
    exact .non
  | some r =>
    obtain ⟨a, pv, rfl, h1, h2⟩ := h
    exact .tup (.of h1) (.cons h2.dp (.cons (.int _) .nil))
theorem can_ints : ∀ ns : List Int, (ns.map PyData.int).all PyData.canLay0 = true
  | [] => rfl
  | n :: r => by
    rw [List.map_cons, List.all_cons, can_ints r]
    rfl
/-! ### a def's theorem -/
structure FK (P : Program) (w : World) (K : PySem.W.Frag) (mg : Str → Option Value) (base : Heap) (CX : CXT) (k : Nat) (x : Str) (ps : List Str) (sp : Sp) : Prop where
  mgx : mg x = some (.ref (He.ga K x))
  kp : PySem.W.keepIn K (.ref (He.ga K x)) = true
  ok : ∃ fd, FnOk P w K mg base CX k (He.ga K x) fd ps sp ∧ Binds K fd ps []
section
variable {X : Cx} {CX : CXT} {k : Nat} {x : Str} {ps : List Str} {sp : Sp} {E : XK} {e : Expr} {es : List Expr} {t : TA} {p pos : Pos}
/-- the call of such a def -/
theorem pe_fk (F : FK X.prog X.w X.K X.mg X.base CX k x ps sp) (hr : Room k X.A) (hg : Gl X x) (hx : Passes CX X E) (ha : PA X (e :: es) t)
    (hdb : (x == ("__debug__" : Str)) = false := by decide) (he : starEach (e :: es) X.env = (false, eval e X.env) :: starEach es X.env := by rfl) (hpl : (backTo pos (starEach es X.env)).any (·.1) = false := by rfl) :
    PE X (.Call (.Name x p) (e :: es) [] pos) (tCall sp [] E t) := by
  obtain ⟨fd, G, b⟩ := F.ok
  exact pe_call G hr hg F.mgx F.kp b .nil hx ha hdb he hpl
end
section
variable {P : Program} {w : World} {K : PySem.W.Frag} {mg : Str → Option Value} {base : Heap}
theorem fk_of {CX : CXT} {x : Str} {params : Arguments} {body : List Stmt} {scope : Scope} {N ps : List Str} {k : Nat} {sp : Sp} (D : ∃ fd, FunD K x x params body scope [] [] (He.ga K x) fd) (g : mg x = some (.ref (He.ga K x))) (S : FnScope N ps scope) (len : ∀ vs H Q E, sp vs H Q E → vs.length = ps.length)
    (hb : ∀ (kV doc pm : Value) (an : Option Addr) (cdv ct : Value) (us : List Value), us.length = ps.length → bindArgs (PySem.W.fnOf x x params body scope .none kV doc pm an cdv ct) ⟨us, []⟩ = pure (ps.zip us))
    (hbody : ∀ (cdv : Value) (A : Around) (outer : List Env) (s : Shared) (H : Hp) (vs : List V) (Q : VK) (E : XK), Room k (A.deeper (envOfC x scope s.heap.objs.size (He.ga K x) cdv)) → sp vs H Q E →
      ∃ t, PSs (cxOf CX P w K mg base N x scope (He.ga K x) cdv A outer s H E) body t ∧ t { nx := fun _ H' => Q .non H', rt := Q } (start N vs) H) : FK P w K mg base CX (k + 1) x ps sp := by
  obtain ⟨fd, F⟩ := D
  exact ⟨g, F.kp, fd, F.ok S len hbody, F.bindsN hb⟩
/-- no exception leaves it -/
theorem fk0 {x : Str} {params : Arguments} {body : List Stmt} {scope : Scope} {N ps : List Str} {k : Nat} {sp : Sp} (D : ∃ fd, FunD K x x params body scope [] [] (He.ga K x) fd) (g : mg x = some (.ref (He.ga K x))) (S : FnScope N ps scope) (len : ∀ vs H Q E, sp vs H Q E → vs.length = ps.length)
    (hb : ∀ (kV doc pm : Value) (an : Option Addr) (cdv ct : Value) (us : List Value), us.length = ps.length → bindArgs (PySem.W.fnOf x x params body scope .none kV doc pm an cdv ct) ⟨us, []⟩ = pure (ps.zip us))
    (hbody : ∀ (cdv : Value) (A : Around) (outer : List Env) (s : Shared) (H : Hp) (vs : List V) (Q : VK) (E : XK), Room k (A.deeper (envOfC x scope s.heap.objs.size (He.ga K x) cdv)) → sp vs H Q E →
      ∃ t, PSs (cxOf CX0 P w K mg base N x scope (He.ga K x) cdv A outer s H E).nox body t ∧ t { nx := fun _ H' => Q .non H', rt := Q } (start N vs) H) : FK P w K mg base CX0 (k + 1) x ps sp :=
  fk_of D g S len hb fun cdv A outer s H vs Q E hr h => by
    obtain ⟨t, a, b⟩ := hbody cdv A outer s H vs Q E hr h
    exact ⟨t, a.nox, b⟩
end
/-! ### small rules -/
section
variable {X : Cx} {x : Str} {pos : Pos}
/-- a module's int -/
theorem pe_gint {i : Int} (hg : Gl X x) (h : ∃ t, X.mg x = some (.int i t)) (hd : (x == ("__debug__" : Str)) = false := by decide) : PE X (.Name x pos) (tC (.int i)) := by
  obtain ⟨t, e⟩ := h
  exact pe_glob hg e ⟨t, rfl⟩ hd
/-- the built-in classes as values -/
theorem pe_bty {T : String} (hg : Gl X x) (hm : X.mg x = none) (hv : bootBuiltins x = some (.type T)) (hn : x ≠ "__name__" := by decide) (hd : (x == ("__debug__" : Str)) = false := by decide) : PE X (.Name x pos) (tC (.ty T)) :=
  pe_bltn hg hm hv rfl hn hd
end
end K34
end

section
set_option Elab.async false
set_option linter.all false
set_option maxRecDepth 100000
set_option maxHeartbeats 4000000
/-! readings, step by step -/
namespace K34
open PySem PySem.Spec PyProof.Rows L2 LamX
section
variable {σ : L2.St} {H : Hp} {i : Nat} {v x y z : V} {ta tb tc te : TE} {b b1 b2 : Bool} {K : PySem.W.Frag} {tA tr : TA} {t u : TT} {n : L2.St → Hp → Prop} {rt : VK} {bk ct : L2.St → Hp → Prop} {t1 t2 : TS} {Q : VK}
/-! values -/
theorem val_cb1 {r : List V → Hp → VK → Prop} (h : Val te σ H x) (hr : ∀ Q : VK, Q z H → r [x] H Q) : Val (tCB r (tCons te tNil)) σ H z := fun Q q => h _ (hr Q q)
theorem val_cb2 {r : List V → Hp → VK → Prop} (h : Val ta σ H x) (h2 : Val tb σ H y) (hr : ∀ Q : VK, Q z H → r [x, y] H Q) : Val (tCB r (tCons ta (tCons tb tNil))) σ H z := fun Q q => h _ (h2 _ (hr Q q))
theorem val_call1 {sp : Sp} {E : XK} (h : Val te σ H x) (hr : ∀ Q : VK, Q z H → sp [x] H Q E) : Val (tCall sp [] E (tCons te tNil)) σ H z := fun Q q => h _ (hr Q q)
theorem val_call2 {sp : Sp} {E : XK} (h : Val ta σ H x) (h2 : Val tb σ H y) (hr : ∀ Q : VK, Q z H → sp [x, y] H Q E) : Val (tCall sp [] E (tCons ta (tCons tb tNil))) σ H z := fun Q q => h _ (h2 _ (hr Q q))
theorem val_call3 {sp : Sp} {E : XK} {w' : V} (h : Val ta σ H x) (h2 : Val tb σ H y) (h3 : Val tc σ H w') (hr : ∀ Q : VK, Q z H → sp [x, y, w'] H Q E) : Val (tCall sp [] E (tCons ta (tCons tb (tCons tc tNil)))) σ H z := fun Q q => h _ (h2 _ (h3 _ (hr Q q)))
theorem val_and (h1 : Val ta σ H (.bl b1)) (h2 : b1 = true → Val tb σ H (.bl b2)) : Val (tAndV ta tb) σ H (.bl (b1 && b2)) := fun Q q => h1 _ ⟨b1, rfl, by
  cases b1 with
  | true => exact iteT (h2 rfl _ q)
  | false => exact iteF q⟩
theorem val_or (h1 : Val ta σ H (.bl b1)) (h2 : b1 = false → Val tb σ H (.bl b2)) : Val (tOrV ta tb) σ H (.bl (b1 || b2)) := fun Q q => h1 _ ⟨b1, rfl, by
  cases b1 with
  | true => exact iteT q
  | false => exact iteF (h2 rfl _ q)⟩
theorem val_not (h : Val ta σ H (.bl b)) : Val (tNotV ta) σ H (.bl (!b)) := fun Q q => h _ ⟨b, rfl, q⟩
theorem val_un {r : V → Hp → VK → Prop} (h : Val ta σ H x) (hr : ∀ Q : VK, Q z H → r x H Q) : Val (tUn r ta) σ H z := fun Q q => h _ (hr Q q)
theorem val_chain {r r' : R2} (h1 : Val ta σ H x) (h2 : Val tb σ H y) (hr : ∀ Q : VK, Q (.bl b1) H → r x y H Q) (h3 : Val tc σ H z) (hr' : ∀ Q : VK, Q (.bl b2) H → r' y z H Q) : Val (tChain r r' ta tb tc) σ H (.bl (b1 && b2)) := fun Q q =>
  h1 _ (h2 _ (hr _ ⟨b1, rfl, by
    cases b1 with
    | true => exact iteT (h3 _ (hr' _ q))
    | false => exact iteF q⟩))
theorem val_to (h : Val te σ H x) (e : x = y) : Val te σ H y := e ▸ h
/-! tests -/
theorem ans_t (h : Val te σ H (.bl b)) : Ans (tTest te) σ H b := fun Q q => h _ ⟨b, rfl, q⟩
theorem ans_and3 (h1 : Ans t σ H b1) (h2 : b1 = true → Ans u σ H b2) : Ans (tAnd t u) σ H (b1 && b2) := fun Q q => h1 _ (by
  cases b1 with
  | true => exact iteT (h2 rfl _ q)
  | false => exact iteF q)
theorem ans_or3 (h1 : Ans t σ H b1) (h2 : b1 = false → Ans u σ H b2) : Ans (tOr t u) σ H (b1 || b2) := fun Q q => h1 _ (by
  cases b1 with
  | true => exact iteT q
  | false => exact iteF (h2 rfl _ q))
theorem ans_to (h : Ans t σ H b) (e : b = b1) : Ans t σ H b1 := e ▸ h
/-! statements -/
theorem r_seq (h : t1 ⟨t2 ⟨n, rt, bk, ct⟩, rt, bk, ct⟩ σ H) : tSeq t1 t2 ⟨n, rt, bk, ct⟩ σ H := h
theorem r_next (h : n σ H) : tNext ⟨n, rt, bk, ct⟩ σ H := h
theorem r_ret (h : te σ H rt) : tRet te ⟨n, rt, bk, ct⟩ σ H := h
theorem r_retV (h : Val te σ H v) (q : rt v H) : tRet te ⟨n, rt, bk, ct⟩ σ H := h _ q
theorem r_set (h : te σ H fun x H1 => n (σ.set i (some x)) H1) : tAsg te (gName i) ⟨n, rt, bk, ct⟩ σ H := h
theorem r_setV (h : Val te σ H v) (q : n (σ.set i (some v)) H) : tAsg te (gName i) ⟨n, rt, bk, ct⟩ σ H := h _ q
theorem r_drop (h : te σ H fun _ H1 => n σ H1) : tDrop te ⟨n, rt, bk, ct⟩ σ H := h
theorem r_if (h : Ans t σ H b) (h1 : b = true → t1 ⟨n, rt, bk, ct⟩ σ H) (h2 : b = false → t2 ⟨n, rt, bk, ct⟩ σ H) : tIfS t t1 t2 ⟨n, rt, bk, ct⟩ σ H := h _ (by
  cases b with
  | true => exact iteT (h1 rfl)
  | false => exact iteF (h2 rfl))
theorem r_no (h : Ans t σ H b) (e : b = false) (h2 : t2 ⟨n, rt, bk, ct⟩ σ H) : tIfS t t1 t2 ⟨n, rt, bk, ct⟩ σ H := r_if h (fun q => by rw [e] at q; cases q) fun _ => h2
theorem r_yes (h : Ans t σ H b) (e : b = true) (h1 : t1 ⟨n, rt, bk, ct⟩ σ H) : tIfS t t1 t2 ⟨n, rt, bk, ct⟩ σ H := r_if h (fun _ => h1) fun q => by rw [e] at q; cases q
theorem r_for {wi : TI} {g : TG} {tb : TS} (h : wi σ H fun J H1 => ∃ W : Nat → Nat → L2.St → Hp → Prop, (∃ m, W 0 m σ H1) ∧ ∀ i m σ H, W i m σ H →
  (J.stop i H ∧ n σ H) ∨ (J.go i H ∧ ∃ N : L2.St → Hp → Prop, (∀ σ' H', N σ' H' → ∃ m', m' < m ∧ W (i + 1) m' σ' H') ∧ ∀ x H', J.yld i H x H' → g x σ H' fun σ2 H2 => tb ⟨N, rt, n, N⟩ σ2 H2)) : tFor wi g tb ⟨n, rt, bk, ct⟩ σ H := h
/-! expressions -/
theorem e_val (h : Val te σ H v) (q : Q v H) : te σ H Q := h _ q
theorem e_op {r : R2} (h : ta σ H fun x H1 => tb σ H1 fun y H2 => r x y H2 Q) : tOp r ta tb σ H Q := h
theorem e_tup (h : tA σ H fun xs H1 => xs.length ≤ sizeLine ∧ ∀ p, H1 p = none → Q (.ref p) (upd H1 p (.tup xs))) : tTup tA σ H Q := h
theorem e_lst (h : tA σ H fun xs H1 => xs.length ≤ sizeLine ∧ ∀ p, H1 p = none → Q (.ref p) (upd H1 p (.lst xs))) : tLst tA σ H Q := h
theorem e_cons {R : List V → Hp → Prop} (h : ta σ H fun x H1 => tr σ H1 fun xs H2 => R (x :: xs) H2) : tCons ta tr σ H R := h
theorem e_consV {R : List V → Hp → Prop} (h : Val ta σ H x) (q : tr σ H fun xs H2 => R (x :: xs) H2) : tCons ta tr σ H R := h _ q
theorem e_nil {R : List V → Hp → Prop} (h : R [] H) : tNil σ H R := h
theorem e_cb {r : List V → Hp → VK → Prop} (h : tA σ H fun vs H1 => r vs H1 Q) : tCB r tA σ H Q := h
theorem e_call {sp : Sp} {E : XK} (h : tA σ H fun vs H1 => sp (vs ++ []) H1 Q E) : tCall sp [] E tA σ H Q := h
end
/-! leaves -/
theorem isi_tt {K : PySem.W.Frag} {H : Hp} {a : Addr} {xs : List V} (e : H a = some (.tup xs)) (Q : VK) (q : Q (.bl true) H) : rIsi K [.ref a, .ty "tuple"] H Q := ⟨_, _, _, _, _, rfl, .ty _, .base (.tup e), kit_ty (by decide +kernel), q⟩
theorem isi_tl {K : PySem.W.Frag} {H : Hp} {a : Addr} {xs : List V} (e : H a = some (.tup xs)) (Q : VK) (q : Q (.bl false) H) : rIsi K [.ref a, .ty "list"] H Q := ⟨_, _, _, _, _, rfl, .ty _, .base (.tup e), kit_ty (by decide +kernel), q⟩
theorem isi_ll {K : PySem.W.Frag} {H : Hp} {a : Addr} {xs : List V} (e : H a = some (.lst xs)) (Q : VK) (q : Q (.bl true) H) : rIsi K [.ref a, .ty "list"] H Q := ⟨_, _, _, _, _, rfl, .ty _, .base (.lst e), kit_ty (by decide +kernel), q⟩
theorem isi_ii {K : PySem.W.Frag} {H : Hp} {n : Int} (Q : VK) (q : Q (.bl true) H) : rIsi K [.int n, .ty "int"] H Q := ⟨_, _, _, _, _, rfl, .ty _, .base (.int n), kit_ty (by decide +kernel), q⟩
theorem isi_ib {K : PySem.W.Frag} {H : Hp} {n : Int} (Q : VK) (q : Q (.bl false) H) : rIsi K [.int n, .ty "bool"] H Q := ⟨_, _, _, _, _, rfl, .ty _, .base (.int n), kit_ty (by decide +kernel), q⟩
theorem len_t {K : PySem.W.Frag} {H : Hp} {a : Addr} {xs : List V} (e : H a = some (.tup xs)) (Q : VK) (q : Q (.int xs.length) H) : ∃ p ys, [V.ref a] = [.ref p] ∧ (SqL K H p ys ∨ SqT K H p ys) ∧ Q (.int ys.length) H := ⟨_, _, rfl, .inr (.of e), q⟩
theorem len_l {K : PySem.W.Frag} {H : Hp} {a : Addr} {xs : List V} (e : H a = some (.lst xs)) (Q : VK) (q : Q (.int xs.length) H) : ∃ p ys, [V.ref a] = [.ref p] ∧ (SqL K H p ys ∨ SqT K H p ys) ∧ Q (.int ys.length) H := ⟨_, _, rfl, .inl (.of e), q⟩
theorem ixt {K : PySem.W.Frag} {H : Hp} {a : Addr} {xs : List V} {i : Int} {v : V} (e : H a = some (.tup xs)) (h : atI xs i = some v) (Q : VK) (q : Q v H) : rIxT K (.ref a) (.int i) H Q := ⟨_, _, _, _, rfl, rfl, .of e, h, q⟩
theorem ixl {K : PySem.W.Frag} {H : Hp} {a : Addr} {xs : List V} {i : Int} {v : V} (e : H a = some (.lst xs)) (h : atI xs i = some v) (Q : VK) (q : Q v H) : rIxL K (.ref a) (.int i) H Q := ⟨_, _, _, _, rfl, rfl, .of e, h, q⟩
end K34
namespace K34
open PySem PySem.Spec PyProof.Rows L2 LamX
theorem sz {n : Nat} (h : n ≤ 1000) : n ≤ sizeLine := Nat.le_of_lt (small1000 h)
/-! loops -/
section
variable {K : PySem.W.Frag} {a : Addr} {xs : List V} {g : TG} {tb : TS} {n : L2.St → Hp → Prop} {rt : VK} {σ : L2.St} {H : Hp}
theorem for_tupR (Pv : Nat → L2.St → Hp → Prop) (h0 : Pv 0 σ H) (hl : ∀ i σ H, i ≤ xs.length → Pv i σ H → SqT K H a xs)
    (hs : ∀ i x σ H, xs[i]? = some x → Pv i σ H → g x σ H fun σ2 H2 => tb ⟨Pv (i + 1), rt, n, Pv (i + 1)⟩ σ2 H2) (hd : ∀ σ H, Pv xs.length σ H → n σ H) :
    ∃ W : Nat → Nat → L2.St → Hp → Prop, (∃ m, W 0 m σ H) ∧ ∀ i m σ H, W i m σ H →
      ((Itt K a).stop i H ∧ n σ H) ∨ ((Itt K a).go i H ∧ ∃ N : L2.St → Hp → Prop, (∀ σ' H', N σ' H' → ∃ m', m' < m ∧ W (i + 1) m' σ' H') ∧ ∀ x H', (Itt K a).yld i H x H' → g x σ H' fun σ2 H2 => tb ⟨N, rt, n, N⟩ σ2 H2) :=
  for_tup (D := ⟨n, rt, n, n⟩) Pv h0 hl hs hd
theorem for_listR (Pv : Nat → L2.St → Hp → Prop) (h0 : Pv 0 σ H) (hl : ∀ i σ H, i ≤ xs.length → Pv i σ H → SqL K H a xs)
    (hs : ∀ i x σ H, xs[i]? = some x → Pv i σ H → g x σ H fun σ2 H2 => tb ⟨Pv (i + 1), rt, n, Pv (i + 1)⟩ σ2 H2) (hd : ∀ σ H, Pv xs.length σ H → n σ H) :
    ∃ W : Nat → Nat → L2.St → Hp → Prop, (∃ m, W 0 m σ H) ∧ ∀ i m σ H, W i m σ H →
      ((Itl K a).stop i H ∧ n σ H) ∨ ((Itl K a).go i H ∧ ∃ N : L2.St → Hp → Prop, (∀ σ' H', N σ' H' → ∃ m', m' < m ∧ W (i + 1) m' σ' H') ∧ ∀ x H', (Itl K a).yld i H x H' → g x σ H' fun σ2 H2 => tb ⟨N, rt, n, N⟩ σ2 H2) :=
  for_list (D := ⟨n, rt, n, n⟩) Pv h0 hl hs hd
theorem for_rangeR {lo : Int} {k : Nat} (Pv : Nat → L2.St → Hp → Prop) (h0 : Pv 0 σ H)
    (hs : ∀ i σ H, i < k → Pv i σ H → g (.int (lo + i)) σ H fun σ2 H2 => tb ⟨Pv (i + 1), rt, n, Pv (i + 1)⟩ σ2 H2) (hd : ∀ σ H, Pv k σ H → n σ H) :
    ∃ W : Nat → Nat → L2.St → Hp → Prop, (∃ m, W 0 m σ H) ∧ ∀ i m σ H, W i m σ H →
      ((Itr lo k).stop i H ∧ n σ H) ∨ ((Itr lo k).go i H ∧ ∃ N : L2.St → Hp → Prop, (∀ σ' H', N σ' H' → ∃ m', m' < m ∧ W (i + 1) m' σ' H') ∧ ∀ x H', (Itr lo k).yld i H x H' → g x σ H' fun σ2 H2 => tb ⟨N, rt, n, N⟩ σ2 H2) :=
  for_range (D := ⟨n, rt, n, n⟩) Pv h0 hs hd
theorem for_enumR (Pv : Nat → L2.St → Hp → Prop) (h0 : Pv 0 σ H) (hl : ∀ i σ H, i ≤ xs.length → Pv i σ H → H a = some (.tup xs))
    (hs : ∀ i x σ H p, xs[i]? = some x → Pv i σ H → H p = none → g (.ref p) σ (upd H p (.tup [.int (i : Nat), x])) fun σ2 H2 => tb ⟨Pv (i + 1), rt, n, Pv (i + 1)⟩ σ2 H2) (hd : ∀ σ H, Pv xs.length σ H → n σ H) :
    ∃ W : Nat → Nat → L2.St → Hp → Prop, (∃ m, W 0 m σ H) ∧ ∀ i m σ H, W i m σ H →
      ((IteT K a).stop i H ∧ n σ H) ∨ ((IteT K a).go i H ∧ ∃ N : L2.St → Hp → Prop, (∀ σ' H', N σ' H' → ∃ m', m' < m ∧ W (i + 1) m' σ' H') ∧ ∀ x H', (IteT K a).yld i H x H' → g x σ H' fun σ2 H2 => tb ⟨N, rt, n, N⟩ σ2 H2) := by
  refine ⟨fun i m σ H => m = xs.length - i ∧ i ≤ xs.length ∧ Pv i σ H, ⟨xs.length, by simp, Nat.zero_le _, h0⟩, ?_⟩
  rintro i m σ H ⟨rfl, hi, p⟩
  have q := hl i σ H hi p
  by_cases hlt : i < xs.length
  · refine .inr ⟨⟨xs, xs[i], .of q, by simp [hlt]⟩, Pv (i + 1), fun σ' H' p' => ⟨xs.length - (i + 1), by omega, rfl, hlt, p'⟩, fun v H' y => ?_⟩
    obtain ⟨T, x, rfl, hT, rfl, y⟩ := y
    exact hs i x σ H T (y xs (.of q)) p hT
  · have e : i = xs.length := by omega
    subst e
    exact .inl ⟨⟨xs, .of q, Nat.le_refl _⟩, hd σ H p⟩
end
theorem split_tests {c d : Prop} [Decidable c] [Decidable d] (h : (decide c && decide d) = true) : c ∧ d := by simpa using h
theorem findIdx_take {α : Type} {p : α → Bool} : ∀ {l : List α} {i : Nat} {x : α}, l[i]? = some x → p x = true → (∀ (j : Nat) (y : α), j < i → l[j]? = some y → p y = false) → l.findIdx? p = some i
  | [], _, _, h, _, _ => by simp at h
  | a :: r, 0, x, h, hp, _ => by
    cases h
    simp [List.findIdx?_cons, hp]
  | a :: r, i + 1, x, h, hp, hn => by
    have h0 : p a = false := hn 0 a (Nat.succ_pos _) rfl
    have ih := findIdx_take (l := r) (i := i) (x := x) h hp fun j y hj e => hn (j + 1) y (Nat.succ_lt_succ hj) e
    simp [List.findIdx?_cons, h0, ih]
theorem findIdx_no {α : Type} {p : α → Bool} : ∀ {l : List α}, (∀ (j : Nat) (y : α), l[j]? = some y → p y = false) → l.findIdx? p = none
  | [], _ => rfl
  | a :: r, hn => by
    have h0 : p a = false := hn 0 a rfl
    have ih := findIdx_no (l := r) fun j y e => hn (j + 1) y e
    simp [List.findIdx?_cons, h0, ih]
theorem lane_findIdx : ∀ (cs : List Clip) (f : Int), lane cs f = (cs.findIdx? fun c => decide (at_ c f)).bind fun i => cs[i]?.map fun c => (c.p, level c f)
  | [], f => rfl
  | c :: r, f => by
    unfold lane
    by_cases h : at_ c f
    · rw [if_pos h]
      simp [List.findIdx?_cons, h]
    · rw [if_neg h, lane_findIdx r f]
      simp only [List.findIdx?_cons, h, decide_false]
      cases List.findIdx? (fun c => decide (at_ c f)) r <;> simp
end K34
namespace K34
open PySem PySem.Spec PyProof.Rows L2 LamX
theorem q_bl {Q : VK} {H : Hp} {b c : Bool} (e : b = c) (q : Q (.bl c) H) : Q (.bl b) H := e ▸ q
theorem q_int {Q : VK} {H : Hp} {b c : Int} (e : b = c) (q : Q (.int c) H) : Q (.int b) H := e ▸ q
end K34
namespace K34
open PySem PySem.Spec PyProof.Rows L2 LamX
section
variable {σ : L2.St} {H : Hp} {te : TE} {t u : TT} {n : L2.St → Hp → Prop} {rt : VK} {bk ct : L2.St → Hp → Prop} {t1 t2 : TS} {R : Bool → Hp → Prop}
theorem r_ifH (h : t σ H fun b H1 => if b = true then t1 ⟨n, rt, bk, ct⟩ σ H1 else t2 ⟨n, rt, bk, ct⟩ σ H1) : tIfS t t1 t2 ⟨n, rt, bk, ct⟩ σ H := h
theorem e_not (h : t σ H fun c H1 => R (!c) H1) : tNot t σ H R := h
theorem e_b (h : te σ H fun x H1 => ∃ c, x = .bl c ∧ R c H1) : tB te σ H R := h
theorem e_test (h : te σ H fun x H1 => ∃ c, x = .bl c ∧ R c H1) : tTest te σ H R := h
end
end K34
namespace K34
open PySem PySem.Spec PyProof.Rows L2 LamX
theorem e_yes {σ : L2.St} {H : Hp} {R : Bool → Hp → Prop} (h : R true H) : tYes σ H R := h
end K34
namespace K34
open PySem PySem.Spec PyProof.Rows L2 LamX
section
variable {σ : L2.St} {H : Hp} {t : TT} {b : Bool} {n : L2.St → Hp → Prop} {rt : VK} {bk ct : L2.St → Hp → Prop} {t1 t2 : TS}
/-- both ways come to P -/
theorem r_fork (P : L2.St → Hp → Prop) (h : Ans t σ H b) (fin : ∀ σ' H', P σ' H' → n σ' H') (h1 : b = true → (∀ σ' H', P σ' H' → n σ' H') → t1 ⟨n, rt, bk, ct⟩ σ H) (h2 : b = false → (∀ σ' H', P σ' H' → n σ' H') → t2 ⟨n, rt, bk, ct⟩ σ H) : tIfS t t1 t2 ⟨n, rt, bk, ct⟩ σ H :=
  r_if h (fun q => h1 q fin) fun q => h2 q fin
end
theorem atI_of {xs : List V} {i : Int} {j : Nat} {v : V} (e : i = (j : Int)) (h : xs[j]? = some v) : atI xs i = some v := by
  rw [e]
  exact atI_nat h
theorem Pd.get2 {α β : Type} {F : α → β → Prop} : ∀ {xs : List α} {ys : List β} {i : Nat} {y : β}, Paired F xs ys → ys[i]? = some y → ∃ x, xs[i]? = some x ∧ F x y
  | _, _, _, _, .nil, e => by simp at e
  | _, _, 0, _, .cons r _, e => by
    cases e
    exact ⟨_, rfl, r⟩
  | _, _, i + 1, x, .cons _ t, e => Pd.get2 (i := i) t e
/-- the place of the clip that is there -/
def idxV (cs : List Clip) (f : Int) : V := match cs.findIdx? fun c => decide (at_ c f) with
  | none => .non
  | some i => .int i
end K34
end

section
set_option Elab.async false
set_option linter.all false
set_option maxRecDepth 100000
set_option maxHeartbeats 4000000
namespace K34
open PySem PySem.Spec PyProof.Rows L2 LamX
local macro_rules | `(tactic| walk_at "leaf") => `(tactic| first
  | exact fun Q q => ⟨_, _, rfl, rfl, q⟩
  | exact fun Q q => ⟨rfl, q⟩
  | exact ixt (by assumption) rfl
  | exact ixl (by assumption) rfl
  | exact isi_tt (by assumption)
  | exact isi_ii
  | exact isi_ib
  | exact len_t (by assumption)
  | exact len_l (by assumption)
  | exact isi_ll (by assumption)
  | exact isi_tl (by assumption)
  | exact fun Q q => ⟨_, _, rfl, rfl, by first | exact .inl ⟨by omega, by omega⟩ | exact .inr ⟨by omega, by omega⟩ | (refine ⟨?_, ?_⟩ <;> omega) | omega, q⟩)
local macro_rules | `(tactic| walk_at "val") => `(tactic| first
  | exact val_var rfl
  | exact val_c
  | ((with_reducible apply val_op); (walk_at "val"); (walk_at "val"); (walk_at "leaf"))
  | ((with_reducible apply val_cb1); (walk_at "val"); (walk_at "leaf"))
  | ((with_reducible apply val_cb2); (walk_at "val"); (walk_at "val"); (walk_at "leaf"))
  | ((with_reducible apply val_chain); (walk_at "val"); (walk_at "val"); (walk_at "leaf"); (walk_at "val"); (walk_at "leaf"))
  | ((with_reducible apply val_and); (walk_at "val"); (intro _); (walk_at "val"))
  | ((with_reducible apply val_or); (walk_at "val"); (intro _); (walk_at "val"))
  | ((with_reducible apply val_not); (walk_at "val"))
  | ((with_reducible apply val_un); (walk_at "val"); (walk_at "leaf"))
  | ((with_reducible apply val_call1); (walk_at "val"); (walk_at "spec"))
  | ((with_reducible apply val_call2); (walk_at "val"); (walk_at "val"); (walk_at "spec"))
  | ((with_reducible apply val_call3); (walk_at "val"); (walk_at "val"); (walk_at "val"); (walk_at "spec")))
local macro_rules | `(tactic| walk_at "ans") => `(tactic| first
  | ((with_reducible apply ans_t); (walk_at "val"))
  | ((with_reducible apply ans_val); (walk_at "val"))
  | ((with_reducible apply ans_not); (walk_at "ans"))
  | ((with_reducible apply ans_and3); (walk_at "ans"); (intro _); (walk_at "ans"))
  | ((with_reducible apply ans_or3); (walk_at "ans"); (intro _); (walk_at "ans")))
local macro_rules | `(tactic| walk_at "spec") => `(tactic| first
  | exact fun Q q => ⟨_, _, rfl, by assumption, q⟩
  | exact fun Q q => ⟨_, _, _, rfl, q⟩
  | exact fun Q q => ⟨_, _, rfl, by assumption, by assumption, q⟩
  | exact fun Q q => ⟨_, _, _, rfl, by assumption, by assumption, q⟩)

theorem cut51 (a b c d e : V) : cutV [a, b, c, d, e] (some 1) none = [b, c, d, e] := rfl
theorem nw51 : ¬ (HT.sIx 5 0 (some 1) = 0 ∧ HT.sIx 5 5 none = 5) := by decide
section
variable {P : Program} {w : World} {K : PySem.W.Frag} {mg : Str → Option Value} {base : Heap}
/-! ### end_of, is_number, later -/
def spEnd : Sp := fun vs H Q _ => ∃ v c, vs = [v] ∧ ClipAt H v c ∧ Q (.int c.e) H
theorem ok_end_of (T : Tx K mg) : FK P w K mg base CX0 1 "end_of" ["clip"] spEnd := by
  refine fk0 T.d_end_of T.g_end_of sc_end_of (fun vs H Q E h => ?_) (fun _ _ _ _ _ _ us hl => match us, hl with | [_], _ => rfl) (fun cdv A outer s H vs Q E hr h => ?_)
  · obtain ⟨v, c, rfl, _⟩ := h
    rfl
  · obtain ⟨v, c, rfl, ⟨a, u, rfl, ha, hp⟩, q⟩ := h
    refine ⟨_, (pss_one (ps_ret (pe_op op_add (pe_ix ix_tup (pv 0) pe_int (fun _ _ => rfl)) (pe_ix ix_tup (pv 0) pe_int (fun _ _ => rfl))))), ?_⟩
    apply r_retV; walk_at "val"
    exact q
def spNum : Sp := fun vs H Q _ => ∃ n a b : Int, vs = [.int n, .int a, .int b] ∧ Q (.bl (decide (a ≤ n) && decide (n ≤ b))) H
theorem ok_is_number (T : Tx K mg) : FK P w K mg base CX0 1 "is_number" ["value", "least", "most"] spNum := by
  refine fk0 T.d_is_number T.g_is_number sc_is_number (fun vs H Q E h => ?_) (fun _ _ _ _ _ _ us hl => match us, hl with | [_, _, _], _ => rfl) (fun cdv A outer s H vs Q E hr h => ?_)
  · obtain ⟨n, a, b, rfl, _⟩ := h
    rfl
  · obtain ⟨n, a, b, rfl, q⟩ := h
    refine ⟨_, (pss_one (ps_ret (pe_and (pe_callB call_isi (by rfl) T.z_isinstance (by decide +kernel) (pa_cons (pv 0) (pa_cons (pe_bty (T := "int") (by rfl) T.z_int (by decide +kernel)) pa_nil))) (pe_and (pe_not (pe_callB call_isi (by rfl) T.z_isinstance (by decide +kernel) (pa_cons (pv 0) (pa_cons (pe_bty (T := "bool") (by rfl) T.z_bool (by decide +kernel)) pa_nil)))) (pe_one (pe_chain op_le op_le (pv 1) (pv 0) (pv 2))))))), ?_⟩
    apply r_retV; walk_at "val"
    exact q
def spLater : Sp := fun vs H Q _ => ∃ v c k, vs = [v, .int k] ∧ ClipAt H v c ∧ ∀ H' u, Kp S0 H H' → ClipAt H' u (later c k) → Q u H'
theorem ok_later (T : Tx K mg) : FK P w K mg base CX0 1 "later" ["clip", "frames"] spLater := by
  refine fk0 T.d_later T.g_later sc_later (fun vs H Q E h => ?_) (fun _ _ _ _ _ _ us hl => match us, hl with | [_, _], _ => rfl) (fun cdv A outer s H vs Q E hr h => ?_)
  · obtain ⟨v, c, k, rfl, _⟩ := h
    rfl
  · obtain ⟨v, c, k, rfl, ⟨a, u, rfl, ha, hp⟩, q⟩ := h
    refine ⟨_, (pss_one (ps_ret (pe_op op_catA (pe_tup (pa_cons (pe_op op_add (pe_ix ix_tup (pv 0) pe_int (fun _ _ => rfl)) (pv 1)) pa_nil)) (pe_slice sl_tupA (pv 0) (po_some pe_int) po_none)))), ?_⟩
    apply r_ret
    apply e_op
    apply e_tup
    apply e_consV; walk_at "val"
    apply e_nil
    refine ⟨sz (by simp), fun p hp1 => ?_⟩
    have k1 : Kp S0 H (upd H p (.tup [.int (c.s + k)])) := .new hp1
    refine ⟨_, rfl, 1, rfl, a, _, rfl, k1.sqT ha, fun z => absurd z nw51, fun _ p2 hp2 => ?_⟩
    rw [cut51]
    refine ⟨p, p2, [.int (c.s + k)], [.int c.n, u, .int c.a, .int c.b], rfl, rfl, .of (by rw [upd_ne (ne_of_none upd_same hp2), upd_same]), .of upd_same, sz (by simp), (fun z => by cases z), (fun _ z => by cases z), fun _ _ p3 hp3 => ?_⟩
    have k2 := (k1.add hp2 (o := .tup [.int c.n, u, .int c.a, .int c.b])).add hp3 (o := .tup ([.int (c.s + k)] ++ [.int c.n, u, .int c.a, .int c.b]))
    exact q _ _ k2 ⟨p3, u, rfl, upd_same, hp.kp k2⟩
def spLevel : Sp := fun vs H Q _ => ∃ v c f, vs = [v, .int f] ∧ ClipAt H v c ∧ (0 ≤ c.a ∧ c.a ≤ 100000 ∧ 0 ≤ c.b ∧ c.b ≤ 100000) ∧ Q (.int (level c f)) H
theorem ok_level_at (T : Tx K mg) : FK P w K mg base CX0 2 "level_at" ["clip", "frame"] spLevel := by
  have F_end_of := ok_end_of (P := P) (w := w) (base := base) T
  refine fk0 T.d_level_at T.g_level_at sc_level_at (fun vs H Q E h => ?_) (fun _ _ _ _ _ _ us hl => match us, hl with | [_, _], _ => rfl) (fun cdv A outer s H vs Q E hr h => ?_)
  · obtain ⟨v, c, k, rfl, _⟩ := h
    rfl
  · obtain ⟨v, c, f, rfl, hc, ⟨a0, a1, b0, b1⟩, q⟩ := h
    obtain ⟨a, u, rfl, ha, hp⟩ := id hc
    refine ⟨_, (pss_cons (ps_set (i := 2) sc_level_at.nd rfl (Or.inl rfl) (pe_op op_sub (pv 1) (pe_ix ix_tup (pv 0) pe_int (fun _ _ => rfl))))
    (pss_cons (ps_set (i := 3) sc_level_at.nd rfl (Or.inl rfl) (pe_op op_sub (pe_op op_sub (pe_fk F_end_of (hr.mono (by decide)) (by rfl) pass0 (pa_cons (pv 0) pa_nil)) pe_int) (pv 1)))
    (pss_cons (ps_if (pt_cmpR op_lt (pv 2) (pe_ix ix_tup (pv 0) pe_int (fun _ _ => rfl)) (nomark _))
      (pss_one (ps_ret (pe_op op_fdivN (pe_op op_mul (pe_gint (by rfl) T.i_FULL) (pe_op op_add (pv 2) pe_int)) (pe_op op_add (pe_ix ix_tup (pv 0) pe_int (fun _ _ => rfl)) pe_int))))
      pss_nil)
    (pss_cons (ps_if (pt_cmpR op_lt (pv 3) (pe_ix ix_tup (pv 0) pe_int (fun _ _ => rfl)) (nomark _))
      (pss_one (ps_ret (pe_op op_fdivN (pe_op op_mul (pe_gint (by rfl) T.i_FULL) (pe_op op_add (pv 3) pe_int)) (pe_op op_add (pe_ix ix_tup (pv 0) pe_int (fun _ _ => rfl)) pe_int))))
      pss_nil)
    (pss_one (ps_ret (pe_gint (by rfl) T.i_FULL))))))), ?_⟩
    apply r_seq; apply r_setV; walk_at "val"
    apply r_seq; apply r_setV; walk_at "val"
    apply r_seq; apply r_if; walk_at "ans"
    · intro h1
      have h1 := of_decide_eq_true h1
      apply r_retV; walk_at "val"
      have e : level c f = (256 * (f - c.s + 1)).fdiv (c.a + 1) := if_pos h1
      rw [e] at q
      exact q
    · intro h1
      have h1 := of_decide_eq_false h1
      apply r_next
      apply r_seq; apply r_if; walk_at "ans"
      · intro h2
        have h2 := of_decide_eq_true h2
        apply r_retV; walk_at "val"
        have e : level c f = (256 * (c.e - 1 - f + 1)).fdiv (c.b + 1) := (if_neg h1).trans (if_pos h2)
        rw [e] at q
        exact q
      · intro h2
        have h2 := of_decide_eq_false h2
        apply r_next
        apply r_retV; walk_at "val"
        have e : level c f = 256 := (if_neg h1).trans (if_neg h2)
        rw [e] at q
        exact q
end
end K34
end

section
set_option Elab.async false
set_option linter.all false
set_option maxRecDepth 100000
set_option maxHeartbeats 4000000
namespace K34
open PySem PySem.Spec PyProof.Rows L2 LamX
local macro_rules | `(tactic| walk_at "leaf") => `(tactic| first
  | exact fun Q q => ⟨_, _, rfl, rfl, q⟩
  | exact fun Q q => ⟨rfl, q⟩
  | exact ixt (by assumption) rfl
  | exact ixl (by assumption) rfl
  | exact isi_tt (by assumption)
  | exact isi_ii
  | exact isi_ib
  | exact len_t (by assumption)
  | exact len_l (by assumption)
  | exact isi_ll (by assumption)
  | exact isi_tl (by assumption)
  | exact fun Q q => ⟨_, _, rfl, rfl, by first | exact .inl ⟨by omega, by omega⟩ | exact .inr ⟨by omega, by omega⟩ | (refine ⟨?_, ?_⟩ <;> omega) | omega, q⟩)
local macro_rules | `(tactic| walk_at "val") => `(tactic| first
  | exact val_var rfl
  | exact val_c
  | ((with_reducible apply val_op); (walk_at "val"); (walk_at "val"); (walk_at "leaf"))
  | ((with_reducible apply val_cb1); (walk_at "val"); (walk_at "leaf"))
  | ((with_reducible apply val_cb2); (walk_at "val"); (walk_at "val"); (walk_at "leaf"))
  | ((with_reducible apply val_chain); (walk_at "val"); (walk_at "val"); (walk_at "leaf"); (walk_at "val"); (walk_at "leaf"))
  | ((with_reducible apply val_and); (walk_at "val"); (intro _); (walk_at "val"))
  | ((with_reducible apply val_or); (walk_at "val"); (intro _); (walk_at "val"))
  | ((with_reducible apply val_not); (walk_at "val"))
  | ((with_reducible apply val_un); (walk_at "val"); (walk_at "leaf"))
  | ((with_reducible apply val_call1); (walk_at "val"); (walk_at "spec"))
  | ((with_reducible apply val_call2); (walk_at "val"); (walk_at "val"); (walk_at "spec"))
  | ((with_reducible apply val_call3); (walk_at "val"); (walk_at "val"); (walk_at "val"); (walk_at "spec")))
local macro_rules | `(tactic| walk_at "ans") => `(tactic| first
  | ((with_reducible apply ans_t); (walk_at "val"))
  | ((with_reducible apply ans_val); (walk_at "val"))
  | ((with_reducible apply ans_not); (walk_at "ans"))
  | ((with_reducible apply ans_and3); (walk_at "ans"); (intro _); (walk_at "ans"))
  | ((with_reducible apply ans_or3); (walk_at "ans"); (intro _); (walk_at "ans")))
local macro_rules | `(tactic| walk_at "spec") => `(tactic| first
  | exact fun Q q => ⟨_, _, rfl, by assumption, q⟩
  | exact fun Q q => ⟨_, _, _, rfl, q⟩
  | exact fun Q q => ⟨_, _, rfl, by assumption, by assumption, q⟩
  | exact fun Q q => ⟨_, _, _, rfl, by assumption, by assumption, q⟩)

section
variable {P : Program} {w : World} {K : PySem.W.Frag} {mg : Str → Option Value} {base : Heap}
/-! ### paints -/
def spForm : Sp := fun vs H Q _ => ∃ v p, vs = [v] ∧ PtAt H v (some p) ∧ PtOk p ∧ Q (.bl true) H
theorem ok_has_form (T : Tx K mg) : FK P w K mg base CX0 2 "has_form" ["paint"] spForm := by
  have F_is_number := ok_is_number (P := P) (w := w) (base := base) T
  refine fk0 T.d_has_form T.g_has_form sc_has_form (fun vs H Q E h => ?_) (fun _ _ _ _ _ _ us hl => match us, hl with | [_], _ => rfl) (fun cdv A outer s H vs Q E hr h => ?_)
  · obtain ⟨v, p, rfl, _⟩ := h
    rfl
  · obtain ⟨v, p, rfl, hp, ok, q⟩ := h
    refine ⟨_, (pss_cons (ps_if (pt_cmpR op_eq (pe_ix ix_tup (pv 0) pe_int (fun _ _ => rfl)) pe_str (nomark _))
      (pss_one (ps_ret (pe_and (pe_cmpR op_eq (pe_callB call_len_seq (by rfl) T.z_len (by decide +kernel) (pa_cons (pv 0) pa_nil)) pe_int (nomark _)) (pe_one (pe_fk F_is_number (hr.mono (by decide)) (by rfl) pass0 (pa_cons (pe_ix ix_tup (pv 0) pe_int (fun _ _ => rfl)) (pa_cons pe_int (pa_cons (pe_gint (by rfl) T.i_VALUE_MOST) pa_nil))))))))
      pss_nil)
    (pss_cons (ps_if (pt_cmpR op_eq (pe_ix ix_tup (pv 0) pe_int (fun _ _ => rfl)) pe_str (nomark _))
      (pss_one (ps_ret (pe_cmpR op_eq (pe_callB call_len_seq (by rfl) T.z_len (by decide +kernel) (pa_cons (pv 0) pa_nil)) pe_int (nomark _))))
      pss_nil)
    (pss_cons (ps_if (PW.pt (pw_or (pt_cmpR op_ne (pe_ix ix_tup (pv 0) pe_int (fun _ _ => rfl)) pe_str (nomark _)) (pw_or (pt_cmpR op_ne (pe_callB call_len_seq (by rfl) T.z_len (by decide +kernel) (pa_cons (pv 0) pa_nil)) pe_int (nomark _)) (pw_or1 (pt_not (pt_val (pe_fk F_is_number (hr.mono (by decide)) (by rfl) pass0 (pa_cons (pe_ix ix_tup (pv 0) pe_int (fun _ _ => rfl)) (pa_cons pe_int (pa_cons (pe_gint (by rfl) T.i_SIDE_MOST) pa_nil))))))))))
      (pss_one (ps_ret pe_bl))
      pss_nil)
    (pss_one (ps_ret (pe_and (pe_fk F_is_number (hr.mono (by decide)) (by rfl) pass0 (pa_cons (pe_ix ix_tup (pv 0) pe_int (fun _ _ => rfl)) (pa_cons pe_int (pa_cons (pe_gint (by rfl) T.i_VALUE_MOST) pa_nil)))) (pe_one (pe_fk F_is_number (hr.mono (by decide)) (by rfl) pass0 (pa_cons (pe_ix ix_tup (pv 0) pe_int (fun _ _ => rfl)) (pa_cons pe_int (pa_cons (pe_gint (by rfl) T.i_VALUE_MOST) pa_nil))))))))))), ?_⟩
    cases p with
    | solid n =>
      obtain ⟨a, rfl, ha⟩ := hp
      have ok : 0 ≤ n ∧ n ≤ 255 := ok
      apply r_seq; apply r_yes; walk_at "ans"
      · exact decide_eq_true rfl
      apply r_retV; walk_at "val"
      refine q_bl ?_ q
      simp [ok]
    | pic wd h vs cs =>
      obtain ⟨a, b, c, d, rfl, ha, _⟩ := hp
      apply r_seq; apply r_no; walk_at "ans"
      · decide +kernel
      apply r_next
      apply r_seq; apply r_yes; walk_at "ans"
      · exact decide_eq_true rfl
      apply r_retV; walk_at "val"
      refine q_bl ?_ q
      simp
    | steps x y n =>
      obtain ⟨a, rfl, ha⟩ := hp
      have ok : (0 ≤ x ∧ x ≤ 255) ∧ (0 ≤ y ∧ y ≤ 255) ∧ 1 ≤ n ∧ n ≤ 12 := ok
      apply r_seq; apply r_no; walk_at "ans"
      · decide +kernel
      apply r_next
      apply r_seq; apply r_no; walk_at "ans"
      · decide +kernel
      apply r_next
      apply r_seq; apply r_no; walk_at "ans"
      · simp [ok]
      apply r_next
      apply r_retV; walk_at "val"
      refine q_bl ?_ q
      simp [ok]
def spRow : Sp := fun vs H Q _ => ∃ (a : Addr) (ns : List Int) (n m : Int), vs = [.ref a, .int n, .int m] ∧ H a = some (.tup (ns.map V.int)) ∧ (ns.length : Int) = n ∧ ns.length ≤ 1000 ∧ (∀ x ∈ ns, 0 ≤ x ∧ x ≤ m) ∧ ∀ H', Kp S0 H H' → Q (.bl true) H'
theorem ok_is_row (T : Tx K mg) : FK P w K mg base CX0 2 "is_row" ["row", "count", "most"] spRow := by
  have F_is_number := ok_is_number (P := P) (w := w) (base := base) T
  refine fk0 T.d_is_row T.g_is_row sc_is_row (fun vs H Q E h => ?_) (fun _ _ _ _ _ _ us hl => match us, hl with | [_, _, _], _ => rfl) (fun cdv A outer s H vs Q E hr h => ?_)
  · obtain ⟨a, ns, n, m, rfl, _⟩ := h
    rfl
  · obtain ⟨a, ns, n, m, rfl, ha, hl, hz, hn, q⟩ := h
    refine ⟨_, (pss_cons (ps_if (PW.pt (pw_or (pt_not (pt_val (pe_callB call_isi (by rfl) T.z_isinstance (by decide +kernel) (pa_cons (pv 0) (pa_cons (pe_bty (T := "tuple") (by rfl) T.z_tuple (by decide +kernel)) pa_nil))))) (pw_or1 (pt_cmpR op_ne (pe_callB call_len_seq (by rfl) T.z_len (by decide +kernel) (pa_cons (pv 0) pa_nil)) (pv 1) (nomark _)))))
      (pss_one (ps_ret pe_bl))
      pss_nil)
    (pss_one (ps_ret (pe_callB (cr_all rfl) (by rfl) T.z_all (by decide +kernel) (pa_cons (pe_lc (own := [("item", 3)]) (g := gName 3) rfl sc_is_row.nd (pi_tup (pv 0)) (blkOk_by (N := ["row", "count", "most", "item"]) (sc := defScope s_is_row) (by decide +kernel)) (fun _ _ _ _ _ => pg_name (i := 3) sc_is_row.nd rfl (Or.inl rfl)) (fun _ _ _ _ _ => pts_nil) (fun _ _ _ _ _ => (pe_fk F_is_number (hr.mono (by decide)) (by rfl) pass0 (pa_cons (pv 3) (pa_cons pe_int (pa_cons (pv 2) pa_nil)))))) pa_nil))))), ?_⟩
    apply r_seq; apply r_no; walk_at "ans"
    · simp [hl]
    apply r_next
    apply r_ret
    apply e_cb
    apply e_cons
    refine ⟨_, rfl, a, rfl, ⟨_, .of ha⟩, fun D hD => lc_tup (xs := ns.map V.int) (fun i H' => Kp S0 H H' ∧ H' D = some (.lst (List.replicate i (.bl true)))) ⟨.new hD, upd_same⟩ (fun i H' _ h => h.1.sqT ha) (fun i x H' hx h => ?_) fun H' h => ?_⟩
    · obtain ⟨k1, hD1⟩ := h
      rw [List.getElem?_map] at hx
      obtain ⟨z, hz1, rfl⟩ := Option.map_eq_some_iff.mp hx
      have hb := hn z (List.mem_of_getElem? hz1)
      have hi : i < ns.length := (List.getElem?_eq_some_iff.mp hz1).1
      refine ⟨rfl, e_yes (iteT ?_)⟩
      apply e_val; walk_at "val"
      refine ⟨_, hD1, ?_, k1.own hD (lst_not_tup hD1), ?_⟩
      · rw [List.length_replicate]
        exact small1000 (by omega)
      · rw [upd_same]
        have e : (decide (0 ≤ z) && decide (z ≤ m)) = true := by simp [hb]
        rw [e, List.replicate_succ']
    · obtain ⟨k1, hD1⟩ := h
      rw [List.length_map] at hD1
      apply e_nil
      refine ⟨D, List.replicate ns.length true, rfl, .of (by rw [hD1, List.map_replicate]), ?_⟩
      refine q_bl ?_ (q H' k1)
      simp [List.all_replicate]
def spPicture : Sp := fun vs H Q _ => ∃ (a : Addr) (wd h : Int) (c d : Addr) (vs' cs' : List Int), vs = [.ref a] ∧ H a = some (.tup [.int wd, .int h, .ref c, .ref d]) ∧ H c = some (.tup (vs'.map V.int)) ∧ H d = some (.tup (cs'.map V.int)) ∧ PtOk (.pic wd h vs' cs') ∧ ∀ H', Kp S0 H H' → Q .non H'
theorem ok_check_picture (T : Tx K mg) : FK P w K mg base CX0 3 "check_picture" ["picture"] spPicture := by
  have F_is_number := ok_is_number (P := P) (w := w) (base := base) T
  have F_is_row := ok_is_row (P := P) (w := w) (base := base) T
  refine fk0 T.d_check_picture T.g_check_picture sc_check_picture (fun vs H Q E h => ?_) (fun _ _ _ _ _ _ us hl => match us, hl with | [_], _ => rfl) (fun cdv A outer s H vs Q E hr h => ?_)
  · obtain ⟨a, wd, h, c, d, vs', cs', rfl, _⟩ := h
    rfl
  · obtain ⟨a, wd, h, c, d, vs', cs', rfl, ha, hc, hd, ⟨⟨w1, w2⟩, ⟨h1, h2⟩, ⟨v1, v2⟩, c1, c2⟩, q⟩ := h
    have hlen : wd * h ≤ 144 := by
      have e1 : wd * h ≤ 12 * h := Int.mul_le_mul_of_nonneg_right w2 (by omega)
      omega
    refine ⟨_, (pss_cons (ps_if (PW.pt (pw_or (pt_not (pt_val (pe_callB call_isi (by rfl) T.z_isinstance (by decide +kernel) (pa_cons (pv 0) (pa_cons (pe_bty (T := "tuple") (by rfl) T.z_tuple (by decide +kernel)) pa_nil))))) (pw_or1 (pt_cmpR op_ne (pe_callB call_len_seq (by rfl) T.z_len (by decide +kernel) (pa_cons (pv 0) pa_nil)) pe_int (nomark _)))))
      pss_never
      pss_nil)
    (pss_cons (ps_for PassesOwn.never rfl (pi_tup (pe_tup (pa_cons pe_int (pa_cons pe_int pa_nil)))) (pg_name (i := 1) sc_check_picture.nd rfl (Or.inl rfl))
      (pss_one (ps_if (pt_not (pt_val (pe_fk F_is_number (hr.mono (by decide)) (by rfl) pass0 (pa_cons (pe_ix ix_tup (pv 0) (pv 1) (fun _ _ => rfl)) (pa_cons pe_int (pa_cons (pe_gint (by rfl) T.i_SIDE_MOST) pa_nil))))))
        pss_never
        pss_nil)))
    (pss_cons (ps_set (i := 2) sc_check_picture.nd rfl (Or.inl rfl) (pe_op op_mul (pe_ix ix_tup (pv 0) pe_int (fun _ _ => rfl)) (pe_ix ix_tup (pv 0) pe_int (fun _ _ => rfl))))
    (pss_cons (ps_if (pt_not (pt_val (pe_fk F_is_row (hr.mono (by decide)) (by rfl) pass0 (pa_cons (pe_ix ix_tup (pv 0) pe_int (fun _ _ => rfl)) (pa_cons (pv 2) (pa_cons (pe_gint (by rfl) T.i_VALUE_MOST) pa_nil))))))
      pss_never
      pss_nil)
    (pss_one (ps_if (pt_not (pt_val (pe_fk F_is_row (hr.mono (by decide)) (by rfl) pass0 (pa_cons (pe_ix ix_tup (pv 0) pe_int (fun _ _ => rfl)) (pa_cons (pv 2) (pa_cons (pe_gint (by rfl) T.i_COVER_MOST) pa_nil))))))
      pss_never
      pss_nil)))))), ?_⟩
    apply r_seq; apply r_no; walk_at "ans"
    · simp
    apply r_next
    apply r_seq; apply r_for
    apply e_tup
    apply e_consV; walk_at "val"
    apply e_consV; walk_at "val"
    apply e_nil
    refine ⟨sz (by simp), fun p hp => ⟨p, rfl, ⟨_, .of upd_same⟩, ?_⟩⟩
    refine for_tupR (xs := [.int 0, .int 1]) (fun i σ' H' => ∃ y, σ' = [some (.ref a), y, none] ∧ Kp S0 H H' ∧ H' p = some (.tup [.int 0, .int 1])) ⟨none, rfl, .new hp, upd_same⟩ (fun i σ' H' _ ⟨_, _, _, h⟩ => .of h) (fun i x σ' H' hx h => ?_) (fun σ' H' h => ?_)
    · obtain ⟨y, rfl, k1, hp1⟩ := h
      have ha1 := k1.tup _ _ ha
      have hi : i = 0 ∨ i = 1 := by
        have z := (List.getElem?_eq_some_iff.mp hx).1
        simp at z
        omega
      rcases hi with rfl | rfl
      · cases hx
        apply r_no; walk_at "ans"
        · simp [w1, w2]
        apply r_next
        exact ⟨_, rfl, k1, hp1⟩
      · cases hx
        apply r_no; walk_at "ans"
        · simp [h1, h2]
        apply r_next
        exact ⟨_, rfl, k1, hp1⟩
    · obtain ⟨y, rfl, k1, hp1⟩ := h
      have ha1 := k1.tup _ _ ha
      apply r_seq; apply r_setV; walk_at "val"
      apply r_seq
      apply r_ifH; apply e_not; apply e_b; apply e_call
      apply e_consV; walk_at "val"
      apply e_consV; walk_at "val"
      apply e_consV; walk_at "val"
      apply e_nil
      refine ⟨c, vs', wd * h, 255, rfl, k1.tup _ _ hc, v1, by omega, v2, fun H2 k2 => ⟨true, rfl, iteF ?_⟩⟩
      apply r_next
      have ha2 := k2.tup _ _ ha1
      apply r_ifH; apply e_not; apply e_b; apply e_call
      apply e_consV; walk_at "val"
      apply e_consV; walk_at "val"
      apply e_consV; walk_at "val"
      apply e_nil
      refine ⟨d, cs', wd * h, 256, rfl, k2.tup _ _ (k1.tup _ _ hd), c1, by omega, c2, fun H3 k3 => ⟨true, rfl, iteF ?_⟩⟩
      apply r_next
      exact q _ ((k1.trans k2).trans k3)
def spPaint : Sp := fun vs H Q _ => ∃ v p, vs = [v] ∧ PtAt H v (some p) ∧ PtOk p ∧ ∀ H', Kp S0 H H' → Q .non H'
theorem PtAt.tup {H : Hp} {v : V} {p : Pt} (h : PtAt H v (some p)) : ∃ a x xs, v = .ref a ∧ H a = some (.tup (x :: xs)) := by
  cases p with
  | solid n =>
    obtain ⟨a, e, h⟩ := h
    exact ⟨a, _, _, e, h⟩
  | steps i j n =>
    obtain ⟨a, e, h⟩ := h
    exact ⟨a, _, _, e, h⟩
  | pic w hh vs cs =>
    obtain ⟨a, b, c, d, e, h1, h2, h3, h4⟩ := h
    exact ⟨a, _, _, e, h1⟩
theorem ok_check_paint (T : Tx K mg) : FK P w K mg base CX0 4 "check_paint" ["paint"] spPaint := by
  have F_has_form := ok_has_form (P := P) (w := w) (base := base) T
  have F_check_picture := ok_check_picture (P := P) (w := w) (base := base) T
  refine fk0 T.d_check_paint T.g_check_paint sc_check_paint (fun vs H Q E h => ?_) (fun _ _ _ _ _ _ us hl => match us, hl with | [_], _ => rfl) (fun cdv A outer s H vs Q E hr h => ?_)
  · obtain ⟨v, p, rfl, _⟩ := h
    rfl
  · obtain ⟨v, p, rfl, hp, ok, q⟩ := h
    refine ⟨_, (pss_cons (ps_if (PW.pt (pw_or (pt_not (pt_val (pe_callB call_isi (by rfl) T.z_isinstance (by decide +kernel) (pa_cons (pv 0) (pa_cons (pe_bty (T := "tuple") (by rfl) T.z_tuple (by decide +kernel)) pa_nil))))) (pw_or (pt_cmpR op_eq (pe_callB call_len_seq (by rfl) T.z_len (by decide +kernel) (pa_cons (pv 0) pa_nil)) pe_int (nomark _)) (pw_or1 (pt_not (pt_val (pe_fk F_has_form (hr.mono (by decide)) (by rfl) pass0 (pa_cons (pv 0) pa_nil))))))))
      pss_never
      pss_nil)
    (pss_one (ps_if (pt_cmpR op_eq (pe_ix ix_tup (pv 0) pe_int (fun _ _ => rfl)) pe_str (nomark _))
      (pss_one (ps_expr (pe_fk F_check_picture (hr.mono (by decide)) (by rfl) pass0 (pa_cons (pe_ix ix_tup (pv 0) pe_int (fun _ _ => rfl)) pa_nil))))
      pss_nil))), ?_⟩
    obtain ⟨a, x, xs, rfl, ha⟩ := PtAt.tup hp
    apply r_seq; apply r_no; walk_at "ans"
    · simp
      omega
    apply r_next
    cases p with
    | solid n =>
      obtain ⟨a', e, ha'⟩ := hp
      cases e
      apply r_no; walk_at "ans"
      · rw [ha] at ha'
        cases ha'
        decide +kernel
      apply r_next
      exact q _ (.refl _ _)
    | steps i j n =>
      obtain ⟨a', e, ha'⟩ := hp
      cases e
      apply r_no; walk_at "ans"
      · rw [ha] at ha'
        cases ha'
        decide +kernel
      apply r_next
      exact q _ (.refl _ _)
    | pic wd h vs cs =>
      obtain ⟨a', b, c, d, e, ha', h2, h3, h4⟩ := hp
      cases e
      rw [ha] at ha'
      cases ha'
      apply r_yes; walk_at "ans"
      · exact decide_eq_true rfl
      apply r_drop
      apply e_call
      apply e_consV; walk_at "val"
      apply e_nil
      exact ⟨b, wd, h, c, d, vs, cs, rfl, h2, h3, h4, ok, fun H' k => q H' k⟩
end
end K34
end

section
set_option Elab.async false
set_option linter.all false
set_option maxRecDepth 100000
set_option maxHeartbeats 4000000
namespace K34
open PySem PySem.Spec PyProof.Rows L2 LamX
local macro_rules | `(tactic| walk_at "leaf") => `(tactic| first
  | exact fun Q q => ⟨_, _, rfl, rfl, q⟩
  | exact fun Q q => ⟨rfl, q⟩
  | exact ixt (by assumption) rfl
  | exact ixl (by assumption) rfl
  | exact isi_tt (by assumption)
  | exact isi_ii
  | exact isi_ib
  | exact len_t (by assumption)
  | exact len_l (by assumption)
  | exact isi_ll (by assumption)
  | exact isi_tl (by assumption)
  | exact fun Q q => ⟨_, _, rfl, rfl, by first | exact .inl ⟨by omega, by omega⟩ | exact .inr ⟨by omega, by omega⟩ | (refine ⟨?_, ?_⟩ <;> omega) | omega, q⟩)
local macro_rules | `(tactic| walk_at "val") => `(tactic| first
  | exact val_var rfl
  | exact val_c
  | ((with_reducible apply val_op); (walk_at "val"); (walk_at "val"); (walk_at "leaf"))
  | ((with_reducible apply val_cb1); (walk_at "val"); (walk_at "leaf"))
  | ((with_reducible apply val_cb2); (walk_at "val"); (walk_at "val"); (walk_at "leaf"))
  | ((with_reducible apply val_chain); (walk_at "val"); (walk_at "val"); (walk_at "leaf"); (walk_at "val"); (walk_at "leaf"))
  | ((with_reducible apply val_and); (walk_at "val"); (intro _); (walk_at "val"))
  | ((with_reducible apply val_or); (walk_at "val"); (intro _); (walk_at "val"))
  | ((with_reducible apply val_not); (walk_at "val"))
  | ((with_reducible apply val_un); (walk_at "val"); (walk_at "leaf"))
  | ((with_reducible apply val_call1); (walk_at "val"); (walk_at "spec"))
  | ((with_reducible apply val_call2); (walk_at "val"); (walk_at "val"); (walk_at "spec"))
  | ((with_reducible apply val_call3); (walk_at "val"); (walk_at "val"); (walk_at "val"); (walk_at "spec")))
local macro_rules | `(tactic| walk_at "ans") => `(tactic| first
  | ((with_reducible apply ans_t); (walk_at "val"))
  | ((with_reducible apply ans_val); (walk_at "val"))
  | ((with_reducible apply ans_not); (walk_at "ans"))
  | ((with_reducible apply ans_and3); (walk_at "ans"); (intro _); (walk_at "ans"))
  | ((with_reducible apply ans_or3); (walk_at "ans"); (intro _); (walk_at "ans")))
local macro_rules | `(tactic| walk_at "spec") => `(tactic| first
  | exact fun Q q => ⟨_, _, rfl, by assumption, q⟩
  | exact fun Q q => ⟨_, _, _, rfl, q⟩
  | exact fun Q q => ⟨_, _, rfl, by assumption, by assumption, q⟩
  | exact fun Q q => ⟨_, _, _, rfl, by assumption, by assumption, q⟩)

section
variable {P : Program} {w : World} {K : PySem.W.Frag} {mg : Str → Option Value} {base : Heap}
/-! ### clips.py -/
def spIsClip : Sp := fun vs H Q _ => ∃ v c adj, vs = [v] ∧ ClipAt H v c ∧ COk adj 10000 c ∧ Q (.bl true) H
theorem ok_is_clip (T : Tx K mg) : FK P w K mg base CX0 2 "is_clip" ["clip"] spIsClip := by
  have F_is_number := ok_is_number (P := P) (w := w) (base := base) T
  refine fk0 T.d_is_clip T.g_is_clip sc_is_clip (fun vs H Q E h => ?_) (fun _ _ _ _ _ _ us hl => match us, hl with | [_], _ => rfl) (fun cdv A outer s H vs Q E hr h => ?_)
  · obtain ⟨v, c, adj, rfl, _⟩ := h
    rfl
  · obtain ⟨v, c, adj, rfl, ⟨a, u, rfl, ha, hp⟩, ⟨s0, n1, eB, a0, b0, ab, _, _⟩, q⟩ := h
    have e0 : c.e = c.s + c.n := rfl
    refine ⟨_, (pss_cons (ps_if (PW.pt (pw_or (pt_not (pt_val (pe_callB call_isi (by rfl) T.z_isinstance (by decide +kernel) (pa_cons (pv 0) (pa_cons (pe_bty (T := "tuple") (by rfl) T.z_tuple (by decide +kernel)) pa_nil))))) (pw_or1 (pt_cmpR op_ne (pe_callB call_len_seq (by rfl) T.z_len (by decide +kernel) (pa_cons (pv 0) pa_nil)) pe_int (nomark _)))))
      (pss_one (ps_ret pe_bl))
      pss_nil)
    (pss_cons (ps_if (PW.pt (pw_or (pt_not (pt_val (pe_fk F_is_number (hr.mono (by decide)) (by rfl) pass0 (pa_cons (pe_ix ix_tup (pv 0) pe_int (fun _ _ => rfl)) (pa_cons pe_int (pa_cons (pe_gint (by rfl) T.i_START_MOST) pa_nil)))))) (pw_or1 (pt_not (pt_val (pe_fk F_is_number (hr.mono (by decide)) (by rfl) pass0 (pa_cons (pe_ix ix_tup (pv 0) pe_int (fun _ _ => rfl)) (pa_cons pe_int (pa_cons (pe_gint (by rfl) T.i_START_MOST) pa_nil)))))))))
      (pss_one (ps_ret pe_bl))
      pss_nil)
    (pss_cons (ps_if (PW.pt (pw_or (pt_not (pt_val (pe_fk F_is_number (hr.mono (by decide)) (by rfl) pass0 (pa_cons (pe_ix ix_tup (pv 0) pe_int (fun _ _ => rfl)) (pa_cons pe_int (pa_cons (pe_ix ix_tup (pv 0) pe_int (fun _ _ => rfl)) pa_nil)))))) (pw_or1 (pt_not (pt_val (pe_fk F_is_number (hr.mono (by decide)) (by rfl) pass0 (pa_cons (pe_ix ix_tup (pv 0) pe_int (fun _ _ => rfl)) (pa_cons pe_int (pa_cons (pe_ix ix_tup (pv 0) pe_int (fun _ _ => rfl)) pa_nil)))))))))
      (pss_one (ps_ret pe_bl))
      pss_nil)
    (pss_one (ps_ret (pe_cmpR op_le (pe_op op_add (pe_ix ix_tup (pv 0) pe_int (fun _ _ => rfl)) (pe_ix ix_tup (pv 0) pe_int (fun _ _ => rfl))) (pe_ix ix_tup (pv 0) pe_int (fun _ _ => rfl)) (nomark _))))))), ?_⟩
    apply r_seq; apply r_no; walk_at "ans"
    · simp
    apply r_next
    apply r_seq; apply r_no; walk_at "ans"
    · simp
      omega
    apply r_next
    apply r_seq; apply r_no; walk_at "ans"
    · simp
      omega
    apply r_next
    apply r_retV; walk_at "val"
    refine q_bl ?_ q
    simp [ab]
def spCheck : Sp := fun vs H Q _ => ∃ a cs adj, vs = [.ref a, .bl adj] ∧ ClipsAt H a cs ∧ Wf adj 10000 64 cs ∧ ∀ H', Kp S0 H H' → Q .non H'
theorem ok_check_clips (T : Tx K mg) : FK P w K mg base CX0 5 "check_clips" ["clips", "adjusts"] spCheck := by
  have F_is_clip := ok_is_clip (P := P) (w := w) (base := base) T
  have F_check_paint := ok_check_paint (P := P) (w := w) (base := base) T
  have F_end_of := ok_end_of (P := P) (w := w) (base := base) T
  refine fk0 T.d_check_clips T.g_check_clips sc_check_clips (fun vs H Q E h => ?_) (fun _ _ _ _ _ _ us hl => match us, hl with | [_, _], _ => rfl) (fun cdv A outer s H vs Q E hr h => ?_)
  · obtain ⟨a, cs, adj, rfl, _⟩ := h
    rfl
  · obtain ⟨a, cs, adj, rfl, ⟨xs, ha, hx⟩, wf, q⟩ := h
    have hlen : xs.length = cs.length := Paired.length hx
    have h64 := wf.len
    refine ⟨_, (pss_cons (ps_if (PW.pt (pw_or (pt_not (pt_val (pe_callB call_isi (by rfl) T.z_isinstance (by decide +kernel) (pa_cons (pv 0) (pa_cons (pe_bty (T := "tuple") (by rfl) T.z_tuple (by decide +kernel)) pa_nil))))) (pw_or1 (pt_cmpR op_gt (pe_callB call_len_seq (by rfl) T.z_len (by decide +kernel) (pa_cons (pv 0) pa_nil)) (pe_gint (by rfl) T.i_CLIPS_MOST) (nomark _)))))
      pss_never
      pss_nil)
    (pss_one (ps_for PassesOwn.never rfl (pi_enumT (by rfl) T.z_enumerate (pa_cons (pv 0) pa_nil)) (pg_tup rfl (pgs_cons (pg_name (i := 2) sc_check_clips.nd rfl (Or.inl rfl)) (pgs_cons (pg_name (i := 3) sc_check_clips.nd rfl (Or.inl rfl)) pgs_nil)))
      (pss_cons (ps_if (pt_not (pt_val (pe_fk F_is_clip (hr.mono (by decide)) (by rfl) pass0 (pa_cons (pv 3) pa_nil))))
        pss_never
        pss_nil)
      (pss_cons (ps_if (PW.pt (pw_and (pt_val (pv 1)) (pw_and1 (PW.pt (pw_or (pt_cmpR op_notN (pe_ix ix_tup (pv 3) pe_int (fun _ _ => rfl)) pe_non (nomark _)) (pw_or1 (pt_cmpR op_gt (pe_op op_add (pe_ix ix_tup (pv 3) pe_int (fun _ _ => rfl)) (pe_ix ix_tup (pv 3) pe_int (fun _ _ => rfl))) pe_int (nomark _))))))))
        pss_never
        pss_nil)
      (pss_cons (ps_if (pt_not (pt_val (pv 1)))
        (pss_one (ps_expr (pe_fk F_check_paint (hr.mono (by decide)) (by rfl) pass0 (pa_cons (pe_ix ix_tup (pv 3) pe_int (fun _ _ => rfl)) pa_nil))))
        pss_nil)
      (pss_one (ps_if (PW.pt (pw_and (pt_cmpR op_gt (pv 2) pe_int (nomark _)) (pw_and1 (pt_cmpR op_lt (pe_ix ix_tup (pv 3) pe_int (fun _ _ => rfl)) (pe_fk F_end_of (hr.mono (by decide)) (by rfl) pass0 (pa_cons (pe_ix ix_tup (pv 0) (pe_op op_sub (pv 2) pe_int) (fun _ _ => rfl)) pa_nil)) (nomark _)))))
        pss_never
        pss_nil)))))))), ?_⟩
    apply r_seq; apply r_no; walk_at "ans"
    · simp
      omega
    apply r_next
    apply r_for
    apply e_consV; walk_at "val"
    apply e_nil
    refine ⟨a, xs, rfl, .of ha, ?_⟩
    refine for_enumR (xs := xs) (fun i σ' H' => ∃ y2 y3, σ' = [some (.ref a), some (.bl adj), y2, y3] ∧ Kp S0 H H') ⟨none, none, rfl, .refl _ _⟩ (fun i σ' H' _ ⟨_, _, _, k⟩ => k.tup _ _ ha) (fun i x σ' H' p hxi h hp => ?_) (fun σ' H' ⟨_, _, _, k⟩ => q _ k)
    obtain ⟨y2, y3, rfl, k1⟩ := h
    obtain ⟨c, hc, hxc⟩ := Pd.get hx hxi
    have okc := wf.ok c (List.mem_of_getElem? hc)
    refine ⟨p, _, rfl, .of upd_same, rfl, _, _, rfl, _, _, rfl, rfl, ?_⟩
    have k2 : Kp S0 H (upd H' p (.tup [.int (i : Nat), x])) := k1.add hp
    have hcl := hxc.kp k2
    obtain ⟨ac, u, rfl, hac, hpu⟩ := id hcl
    have hA := k2.tup _ _ ha
    apply r_seq; apply r_no; walk_at "ans"
    · rfl
    apply r_next
    apply r_seq; apply r_no; walk_at "ans"
    · cases adj with
      | false => rfl
      | true =>
        obtain ⟨e1, e2, e3⟩ := okc.yes rfl
        rw [e1] at hpu
        have e4 : u = .non := hpu
        rw [e2, e3, e4]
        decide
    apply r_next
    apply r_seq
    apply r_fork (fun σ'' H'' => σ'' = [some (.ref a), some (.bl adj), some (.int (i : Nat)), some (.ref ac)] ∧ Kp S0 H H''); walk_at "ans"
    · rintro σ'' H'' ⟨rfl, k3⟩
      have hA3 := k3.tup _ _ ha
      have hcl3 := hxc.kp k3
      obtain ⟨ac', u', e, hac3, hpu3⟩ := id hcl3
      cases e
      apply r_no (b := (decide ((0 : Int) < (i : Nat)) && false))
      · apply ans_and3
        · walk_at "ans"
        · intro hi
          have hi : (0 : Int) < (i : Nat) := of_decide_eq_true hi
          obtain ⟨j, rfl⟩ : ∃ j, i = j + 1 := ⟨i - 1, by omega⟩
          have hj : j < xs.length := by
            have := (List.getElem?_eq_some_iff.mp hxi).1
            omega
          obtain ⟨c', hc', hxc'⟩ := Pd.get hx (List.getElem?_eq_getElem hj)
          have hcl' := hxc'.kp k3
          have key : decide (c.s < c'.e) = false := by
            have hs := (List.pairwise_iff_getElem.mp wf.sep) j (j + 1) (List.getElem?_eq_some_iff.mp hc').1 (List.getElem?_eq_some_iff.mp hc).1 (Nat.lt_succ_self j)
            rw [(List.getElem?_eq_some_iff.mp hc').2, (List.getElem?_eq_some_iff.mp hc).2] at hs
            unfold Sep at hs
            exact decide_eq_false (by omega)
          apply ans_t
          refine val_to (x := .bl (decide (c.s < c'.e))) ?_ ?_
          · apply val_op
            · walk_at "val"
            · apply val_call1
              · apply val_op
                · walk_at "val"
                · walk_at "val"
                · exact ixt hA3 (atI_of (j := j) (by show ((j + 1 : Nat) : Int) - 1 = (j : Int); omega) (List.getElem?_eq_getElem hj))
              · walk_at "spec"
            · walk_at "leaf"
          · rw [key]
      · cases decide (0 < (i : Int)) <;> rfl
      · apply r_next
        exact ⟨_, _, rfl, k3⟩
    · intro hb fin
      have hadj : adj = false := by
        cases adj with
        | false => rfl
        | true => cases hb
      obtain ⟨pt, ep, okp⟩ := okc.no hadj
      rw [ep] at hpu
      apply r_drop
      apply e_call
      apply e_consV; walk_at "val"
      apply e_nil
      exact ⟨u, pt, rfl, hpu, okp, fun H3 k3 => fin _ _ ⟨rfl, k2.trans k3⟩⟩
    · intro _ fin
      apply r_next
      exact fin _ _ ⟨rfl, k2⟩
def spClipAt : Sp := fun vs H Q _ => ∃ a cs f, vs = [.ref a, .int f] ∧ ClipsAt H a cs ∧ ∀ H', Kp S0 H H' → Q (idxV cs f) H'
theorem ok_clip_at (T : Tx K mg) : FK P w K mg base CX0 2 "clip_at" ["clips", "frame"] spClipAt := by
  have F_end_of := ok_end_of (P := P) (w := w) (base := base) T
  refine fk0 T.d_clip_at T.g_clip_at sc_clip_at (fun vs H Q E h => ?_) (fun _ _ _ _ _ _ us hl => match us, hl with | [_, _], _ => rfl) (fun cdv A outer s H vs Q E hr h => ?_)
  · obtain ⟨a, cs, f, rfl, _⟩ := h
    rfl
  · obtain ⟨a, cs, f, rfl, ⟨xs, ha, hx⟩, q⟩ := h
    have hlen : xs.length = cs.length := Paired.length hx
    refine ⟨_, (pss_cons (ps_for PassesOwn.never rfl (pi_enumT (by rfl) T.z_enumerate (pa_cons (pv 0) pa_nil)) (pg_tup rfl (pgs_cons (pg_name (i := 2) sc_clip_at.nd rfl (Or.inl rfl)) (pgs_cons (pg_name (i := 3) sc_clip_at.nd rfl (Or.inl rfl)) pgs_nil)))
      (pss_one (ps_if (pt_chain op_le op_lt (pe_ix ix_tup (pv 3) pe_int (fun _ _ => rfl)) (pv 1) (pe_fk F_end_of (hr.mono (by decide)) (by rfl) pass0 (pa_cons (pv 3) pa_nil)))
        (pss_one (ps_ret (pv 2)))
        pss_nil)))
    (pss_one (ps_ret pe_non))), ?_⟩
    apply r_seq; apply r_for
    apply e_consV; walk_at "val"
    apply e_nil
    refine ⟨a, xs, rfl, .of ha, ?_⟩
    refine for_enumR (xs := xs) (fun i σ' H' => ∃ y2 y3, σ' = [some (.ref a), some (.int f), y2, y3] ∧ Kp S0 H H' ∧ ∀ (j : Nat) c, j < i → cs[j]? = some c → ¬ at_ c f) ⟨none, none, rfl, .refl _ _, fun j c hj => absurd hj (Nat.not_lt_zero _)⟩ (fun i σ' H' _ ⟨_, _, _, k, _⟩ => k.tup _ _ ha) (fun i x σ' H' p hxi h hp => ?_) (fun σ' H' h => ?_)
    · obtain ⟨y2, y3, rfl, k1, no⟩ := h
      obtain ⟨c, hc, hxc⟩ := Pd.get hx hxi
      refine ⟨p, _, rfl, .of upd_same, rfl, _, _, rfl, _, _, rfl, rfl, ?_⟩
      have k2 : Kp S0 H (upd H' p (.tup [.int (i : Nat), x])) := k1.add hp
      have hcl := hxc.kp k2
      obtain ⟨ac, u, rfl, hac, hpu⟩ := id hcl
      apply r_if; walk_at "ans"
      · intro hb
        have hb : c.s ≤ f ∧ f < c.e := split_tests hb
        apply r_retV; walk_at "val"
        have e : idxV cs f = .int (i : Nat) := by
          unfold idxV
          rw [findIdx_take (i := i) (x := c) hc (decide_eq_true hb) fun j y hj hy => decide_eq_false (no j y hj hy)]
        have q2 := q _ k2
        rw [e] at q2
        exact q2
      · intro hb
        apply r_next
        refine ⟨_, _, rfl, k2, fun j d hj hd hat => ?_⟩
        by_cases e : j = i
        · subst e
          rw [hc] at hd
          cases hd
          have z : (decide (c.s ≤ f) && decide (f < c.e)) = true := by simp [hat.1, hat.2]
          rw [z] at hb
          cases hb
        · exact no j d (by omega) hd hat
    · obtain ⟨y2, y3, rfl, k1, no⟩ := h
      apply r_retV; walk_at "val"
      have e : idxV cs f = .non := by
        unfold idxV
        rw [findIdx_no fun j y hy => decide_eq_false (no j y (by rw [hlen]; exact (List.getElem?_eq_some_iff.mp hy).1) hy)]
      have q2 := q _ k1
      rw [e] at q2
      exact q2
def spLane : Sp := fun vs H Q _ => ∃ a cs f, vs = [.ref a, .int f] ∧ ClipsAt H a cs ∧ (∀ c ∈ cs, 0 ≤ c.a ∧ c.a ≤ 100000 ∧ 0 ≤ c.b ∧ c.b ≤ 100000) ∧ ∀ H' v, Kp S0 H H' → LaneAt H' v (lane cs f) → Q v H'
theorem ok_lane (T : Tx K mg) : FK P w K mg base CX0 3 "lane" ["clips", "frame"] spLane := by
  have F_clip_at := ok_clip_at (P := P) (w := w) (base := base) T
  have F_level_at := ok_level_at (P := P) (w := w) (base := base) T
  refine fk0 T.d_lane T.g_lane sc_lane (fun vs H Q E h => ?_) (fun _ _ _ _ _ _ us hl => match us, hl with | [_, _], _ => rfl) (fun cdv A outer s H vs Q E hr h => ?_)
  · obtain ⟨a, cs, f, rfl, _⟩ := h
    rfl
  · obtain ⟨a, cs, f, rfl, hcs, hb, q⟩ := h
    refine ⟨_, (pss_cons (ps_set (i := 2) sc_lane.nd rfl (Or.inl rfl) (pe_fk F_clip_at (hr.mono (by decide)) (by rfl) pass0 (pa_cons (pv 0) (pa_cons (pv 1) pa_nil))))
    (pss_cons (ps_if (pt_cmpR op_isN (pv 2) pe_non (nomark _))
      (pss_one (ps_ret pe_non))
      pss_nil)
    (pss_one (ps_ret (pe_tup (pa_cons (pe_ix ix_tup (pe_ix ix_tup (pv 0) (pv 2) (fun _ _ => rfl)) pe_int (fun _ _ => rfl)) (pa_cons (pe_fk F_level_at (hr.mono (by decide)) (by rfl) pass0 (pa_cons (pe_ix ix_tup (pv 0) (pv 2) (fun _ _ => rfl)) (pa_cons (pv 1) pa_nil))) pa_nil))))))), ?_⟩
    apply r_seq; apply r_set
    apply e_call
    apply e_consV; walk_at "val"
    apply e_consV; walk_at "val"
    apply e_nil
    refine ⟨a, cs, f, rfl, hcs, fun H1 k1 => ?_⟩
    obtain ⟨xs, ha, hx⟩ := hcs
    have ha1 := k1.tup _ _ ha
    have e0 := lane_findIdx cs f
    cases hi : cs.findIdx? fun c => decide (at_ c f) with
    | none =>
      have ei : idxV cs f = .non := by
        unfold idxV
        rw [hi]
      rw [hi] at e0
      rw [ei]
      apply r_seq; apply r_yes; walk_at "ans"
      · rfl
      apply r_retV; walk_at "val"
      exact q _ _ k1 (by rw [e0]; rfl)
    | some i =>
      have ei : idxV cs f = .int (i : Nat) := by
        unfold idxV
        rw [hi]
      rw [hi] at e0
      have hil : i < cs.length := by
        obtain ⟨z, _⟩ := List.findIdx?_eq_some_iff_getElem.mp hi
        exact z
      have hc : cs[i]? = some cs[i] := List.getElem?_eq_getElem hil
      obtain ⟨x, hxi, hxc⟩ := Pd.get2 hx hc
      have hcl := hxc.kp k1
      obtain ⟨ac, u, rfl, hac, hpu⟩ := id hcl
      have hbc := hb _ (List.mem_of_getElem? hc)
      rw [ei]
      apply r_seq; apply r_no; walk_at "ans"
      · rfl
      apply r_next
      apply r_ret
      apply e_tup
      apply e_consV
      · apply val_op
        · apply val_op
          · walk_at "val"
          · walk_at "val"
          · exact ixt ha1 (atI_nat hxi)
        · walk_at "val"
        · walk_at "leaf"
      apply e_consV
      · apply val_call2
        · apply val_op
          · walk_at "val"
          · walk_at "val"
          · exact ixt ha1 (atI_nat hxi)
        · walk_at "val"
        · exact fun Q q => ⟨_, _, _, rfl, hcl, hbc, q⟩
      apply e_nil
      refine ⟨sz (by simp), fun p hp => ?_⟩
      have k2 : Kp S0 H (upd H1 p (.tup [u, .int (level cs[i] f)])) := k1.add hp
      refine q _ _ k2 ?_
      rw [e0]
      show LaneAt _ _ (cs[i]?.map _)
      rw [hc]
      exact ⟨p, u, rfl, upd_same, hpu.kp (.new hp : Kp S0 H1 _)⟩
end
end K34
end

section
set_option Elab.async false
set_option linter.all false
set_option maxRecDepth 100000
set_option maxHeartbeats 4000000
namespace K34
open PySem PySem.Spec PyProof.Rows L2 LamX
local macro_rules | `(tactic| walk_at "leaf") => `(tactic| first
  | exact fun Q q => ⟨_, _, rfl, rfl, q⟩
  | exact fun Q q => ⟨rfl, q⟩
  | exact ixt (by assumption) rfl
  | exact ixl (by assumption) rfl
  | exact isi_tt (by assumption)
  | exact isi_ii
  | exact isi_ib
  | exact len_t (by assumption)
  | exact len_l (by assumption)
  | exact isi_ll (by assumption)
  | exact isi_tl (by assumption)
  | exact fun Q q => ⟨_, _, rfl, rfl, by first | exact .inl ⟨by omega, by omega⟩ | exact .inr ⟨by omega, by omega⟩ | (refine ⟨?_, ?_⟩ <;> omega) | omega, q⟩)
local macro_rules | `(tactic| walk_at "val") => `(tactic| first
  | exact val_var rfl
  | exact val_c
  | ((with_reducible apply val_op); (walk_at "val"); (walk_at "val"); (walk_at "leaf"))
  | ((with_reducible apply val_cb1); (walk_at "val"); (walk_at "leaf"))
  | ((with_reducible apply val_cb2); (walk_at "val"); (walk_at "val"); (walk_at "leaf"))
  | ((with_reducible apply val_chain); (walk_at "val"); (walk_at "val"); (walk_at "leaf"); (walk_at "val"); (walk_at "leaf"))
  | ((with_reducible apply val_and); (walk_at "val"); (intro _); (walk_at "val"))
  | ((with_reducible apply val_or); (walk_at "val"); (intro _); (walk_at "val"))
  | ((with_reducible apply val_not); (walk_at "val"))
  | ((with_reducible apply val_un); (walk_at "val"); (walk_at "leaf"))
  | ((with_reducible apply val_call1); (walk_at "val"); (walk_at "spec"))
  | ((with_reducible apply val_call2); (walk_at "val"); (walk_at "val"); (walk_at "spec"))
  | ((with_reducible apply val_call3); (walk_at "val"); (walk_at "val"); (walk_at "val"); (walk_at "spec")))
local macro_rules | `(tactic| walk_at "ans") => `(tactic| first
  | ((with_reducible apply ans_t); (walk_at "val"))
  | ((with_reducible apply ans_val); (walk_at "val"))
  | ((with_reducible apply ans_not); (walk_at "ans"))
  | ((with_reducible apply ans_and3); (walk_at "ans"); (intro _); (walk_at "ans"))
  | ((with_reducible apply ans_or3); (walk_at "ans"); (intro _); (walk_at "ans")))
local macro_rules | `(tactic| walk_at "spec") => `(tactic| first
  | exact fun Q q => ⟨_, _, rfl, by assumption, q⟩
  | exact fun Q q => ⟨_, _, _, rfl, q⟩
  | exact fun Q q => ⟨_, _, rfl, by assumption, by assumption, q⟩
  | exact fun Q q => ⟨_, _, _, rfl, by assumption, by assumption, q⟩)

section
variable {P : Program} {w : World} {K : PySem.W.Frag} {mg : Str → Option Value} {base : Heap}
/-! ### BadCut -/
theorem oex_of {C : Addr} (h : oexB K C = true) : ∃ nm q N bs bm sn sub ab col dd k0 k1 k2 k3 k5, K.lookup C = some (excClassObj nm q C N bs bm true sn sub ab col dd k0 k1 k2 k3 k5 "ValueError.__new__") ∧ PySem.HandSPX.refsVE bm = true := by
  unfold oexB at h
  split at h
  · rename_i dd cd sl ho
    split at h
    · rename_i C' bm k0 k1 k2 k3 n k5 hm hs
      simp only [Bool.and_eq_true, beq_iff_eq, Bool.not_eq_true'] at h
      obtain ⟨⟨⟨⟨rfl, rfl⟩, hdel⟩, hdict⟩, hb⟩ := h
      obtain ⟨nm, bs, mro, ns, qn, hd, sn, sub, ab, col, del⟩ := cd
      dsimp only at hm hdel hdict
      subst hm hdel hdict
      have hsl : sl = #[k0, k1, k2, k3, some (.builtin "ValueError.__new__"), k5] := by
        obtain ⟨l⟩ := sl
        simp only at hs
        rw [hs]
      subst hsl
      exact ⟨nm, qn, ns, bs, bm, sn, sub, ab, col, dd, k0, k1, k2, k3, k5, ho, hb⟩
    · cases h
  · cases h
structure CutX (K : PySem.W.Frag) : Prop where
  o : OexC K (He.ga K "BadCut")
  x : XfC K (He.ga K "BadCut")
  i : PySem.W.findIn K (.ref (He.ga K "BadCut")) "__init__" = some (some (.ref (He.ma K (He.ga K "BadCut") "__init__")))
  t : PySem.W.typeIn K (.ref (He.ma K (He.ga K "BadCut") "__init__")) = some (.type "function")
  r : ClX.CRead K (He.ga K "FilmError") (.type "type")
  f : PySem.W.findCls K (.ref (He.ga K "FilmError")) (.type "type") "__init__" = some (.val (.ref (He.ma K (He.ga K "FilmError") "__init__")))
theorem cutx_of (T : Tx K mg) : CutX K := by
  have h := T.ex
  unfold ex at h
  obtain ⟨h1, h⟩ := He.ba h
  obtain ⟨h2, h⟩ := He.ba h
  obtain ⟨h3, h⟩ := He.ba h
  obtain ⟨h4, h⟩ := He.ba h
  obtain ⟨h5, h⟩ := He.ba h
  obtain ⟨h6, h⟩ := He.ba h
  obtain ⟨h7, h⟩ := He.ba h
  obtain ⟨h8, h⟩ := He.ba h
  obtain ⟨h9, h⟩ := He.ba h
  refine ⟨⟨oex_of h1, He.eqO_ok h2, of_decide_eq_true h3, of_decide_eq_true h4, T.k_BadCut⟩, xfB_ok h5, He.eqO_ok h6, of_decide_eq_true h7, ⟨h8, of_decide_eq_true h9⟩, ?_⟩
  split at h
  · rename_i a e
    have e2 : a = He.ma K (He.ga K "FilmError") "__init__" := by simpa using h
    rw [e, e2]
  · cases h
/-- what an __init__ leaves of a fresh BadCut at a -/
def cutH (H : Hp) (a C dx : Addr) (wv pv : V) : Hp := upd (upd (upd H dx (exd dx [("word", wv)])) a (exo a C (some dx))) dx (exd dx [("place", pv), ("word", wv)])
def spFE (K : PySem.W.Frag) : Sp := fun vs H Q _ => ∃ (a : Addr) (wv pw : V), vs = [.ref a, wv, pw] ∧ H a = some (exo a (He.ga K "BadCut") none) ∧ ∀ dx, H dx = none → dx ≠ a → Q .non (cutH H a (He.ga K "BadCut") dx wv pw)
theorem ok_FE (T : Tx K mg) : ∃ fd, FnOk P w K mg base CX0 1 (He.ma K (He.ga K "FilmError") "__init__") fd ["self", "word", "place"] (spFE K) ∧ Binds K fd ["self", "word", "place"] [] ∧ PySem.W.keepIn K (.ref (He.ma K (He.ga K "FilmError") "__init__")) = true := by
  have X := cutx_of T
  obtain ⟨fd, F⟩ := T.d_FilmErrorI
  obtain ⟨ds, rd, b⟩ := F.binds1 (ps := ["self", "word", "place"]) 3 1 (by simp) rfl (fun Tt kV doc pm an cdv ct us its h1 h2 => match us, its, h1, h2 with | [_, _, _], [_], _, _ => ⟨_, rfl, rfl⟩)
  cases rd
  refine ⟨fd, F.ok sc_FilmErrorI (fun vs H Q E h => ?_) (fun cdv A outer s H vs Q E hr h => ?_), b, F.kp⟩
  · obtain ⟨a, wv, pw, rfl, _⟩ := h
    rfl
  · obtain ⟨a, wv, pw, rfl, ha, q⟩ := h
    refine ⟨_, pss_cons (ps_ost (pv 0) (pv 1)) (pss_one (ps_ost (pv 0) (pv 2))), ?_⟩
    refine ⟨wv, rfl, .ref a, rfl, a, _, rfl, X.o, T.n_word, .inl ⟨ha, fun dx hdx ne => ?_⟩⟩
    refine ⟨pw, rfl, .ref a, rfl, a, _, rfl, X.o, T.n_place, .inr ⟨dx, [("word", wv)], upd_same, by rw [upd_ne ne, upd_same], by simp, ?_⟩⟩
    exact q dx hdx ne
def spCI (K : PySem.W.Frag) : Sp := fun vs H Q _ => ∃ (a : Addr) (pw : V), vs = [.ref a, pw] ∧ H a = some (exo a (He.ga K "BadCut") none) ∧ ∀ dx, H dx = none → dx ≠ a → Q .non (cutH H a (He.ga K "BadCut") dx (.str "BadCut") pw)
theorem ok_CI (T : Tx K mg) : ∃ fd, FnOk P w K mg base CX0 2 (He.ma K (He.ga K "BadCut") "__init__") fd ["self", "place"] (spCI K) ∧ Binds K fd ["self", "place"] [] := by
  have X := cutx_of T
  obtain ⟨fE, GE, bE, kE⟩ := ok_FE (P := P) (w := w) (base := base) T
  obtain ⟨fd, F⟩ := T.d_BadCutI
  obtain ⟨ds, rd, b⟩ := F.binds1 (ps := ["self", "place"]) 2 1 (by simp) rfl (fun Tt kV doc pm an cdv ct us its h1 h2 => match us, its, h1, h2 with | [_, _], [_], _, _ => ⟨_, rfl, rfl⟩)
  cases rd
  refine ⟨fd, F.ok sc_BadCutI (fun vs H Q E h => ?_) (fun cdv A outer s H vs Q E hr h => ?_), b⟩
  · obtain ⟨a, pw, rfl, _⟩ := h
    rfl
  · obtain ⟨a, pw, rfl, ha, q⟩ := h
    refine ⟨_, pss_one (ps_expr (pe_clsfn GE (hr.mono (by decide)) (by rfl) T.g_FilmError X.r X.f kE bE .nil pass0 (pa_cons (pv 0) (pa_cons pe_str (pa_cons (pv 1) pa_nil))))), ?_⟩
    refine ⟨.ref a, rfl, pw, rfl, a, .str "BadCut", pw, rfl, ha, fun dx hdx ne => ?_⟩
    exact q dx hdx ne
/-- the error of a cut at m is let out -/
def Cut (K : PySem.W.Frag) (H : Hp) (E : XK) (m : Int) : Prop := ∀ H' d fs, Kp S0 H H' → H' d = some (.xd fs) → fs.lookup ("place" : Str) = some (.int m) → E (.ref (He.ga K "BadCut")) (some d) H'
theorem Cut.kp {H H1 : Hp} {E : XK} {m : Int} (k : Kp S0 H H1) (c : Cut K H E m) : Cut K H1 E m := fun H' d fs k2 => c H' d fs (k.trans k2)
/-- raise BadCut(m) -/
theorem cut_raise {H : Hp} {E : XK} {m : Int} (c : Cut K H E m) {σ : L2.St} {ta : TA} (h : ∀ R : List V → Hp → Prop, R [.int m] H → ta σ H R) : tMkO (He.ga K "BadCut") (spCI K) [] ta σ H (fun cls d H' => E cls d H') := by
  refine h _ ⟨by simp, fun a ha => ⟨a, .int m, rfl, upd_same, fun dx hdx ne => ⟨rfl, dx, [("place", .int m), ("word", .str "BadCut")], ?_, upd_same, ?_, ?_⟩⟩⟩
  · unfold cutH
    rw [upd_ne ne.symm, upd_same]
  · rw [upd_ne ne] at hdx
    exact hdx
  · rw [upd_ne ne] at hdx
    refine c _ dx _ (.of fun b o e => ?_) upd_same rfl
    have nb : b ≠ dx := ne_of_none e hdx
    have na : b ≠ a := ne_of_none e ha
    unfold cutH
    rw [upd_ne nb, del_ne na, upd_ne nb, upd_ne na, upd_ne nb, upd_ne na]
    exact e
/-! ### timeline.py -/
def spHalves (K : PySem.W.Frag) : Sp := fun vs H Q E => ∃ v c m, vs = [v, .int m] ∧ ClipAt H v c ∧ (cutOk c m → ∀ H' p l r, Kp S0 H H' → H' p = some (.tup [l, r]) → ClipAt H' l (left c m) → ClipAt H' r (right c m) → Q (.ref p) H') ∧ (¬ cutOk c m → Cut K H E m)
theorem ok_halves (T : Tx K mg) : FK P w K mg base (L2.CX P w) 4 "halves" ["clip", "frame"] (spHalves K) := by
  have F_end_of := ok_end_of (P := P) (w := w) (base := base) T
  have X := cutx_of T
  obtain ⟨fdC, XF, XB⟩ := ok_CI (P := P) (w := w) (base := base) T
  have XO := X.o
  have XI := X.i
  have XT := X.t
  have XG := T.g_BadCut
  have XV : Vals [] [] := .nil
  refine fk_of T.d_halves T.g_halves sc_halves (fun vs H Q E h => ?_) (fun _ _ _ _ _ _ us hl => match us, hl with | [_, _], _ => rfl) (fun cdv A outer s H vs Q E hr h => ?_)
  · obtain ⟨v, c, m, rfl, _⟩ := h
    rfl
  · obtain ⟨v, c, m, rfl, hc, q1, q2⟩ := h
    obtain ⟨a, u, rfl, ha, hp⟩ := id hc
    refine ⟨_, (pss_cons (ps_if (pt_not (pt_chain op_le op_le (pe_op op_add (pe_ix ix_tup (pv 0) pe_int (fun _ _ => rfl)) (pe_ix ix_tup (pv 0) pe_int (fun _ _ => rfl))) (pv 1) (pe_op op_sub (pe_fk F_end_of (hr.mono (by decide)) (by rfl) pass0 (pa_cons (pv 0) pa_nil)) (pe_ix ix_tup (pv 0) pe_int (fun _ _ => rfl)))))
      (pss_one (ps_raise rfl (takes_of rfl rfl rfl rfl) (pmk_oex XO XI XT XF (hr.mono (by decide)) XB XV pass0 (by rfl) XG (pa_cons (pv 1) pa_nil))))
      pss_nil)
    (pss_cons (ps_set (i := 2) sc_halves.nd rfl (Or.inl rfl) (pe_tup (pa_cons (pe_ix ix_tup (pv 0) pe_int (fun _ _ => rfl)) (pa_cons (pe_op op_sub (pv 1) (pe_ix ix_tup (pv 0) pe_int (fun _ _ => rfl))) (pa_cons (pe_ix ix_tup (pv 0) pe_int (fun _ _ => rfl)) (pa_cons (pe_ix ix_tup (pv 0) pe_int (fun _ _ => rfl)) (pa_cons pe_int pa_nil)))))))
    (pss_one (ps_ret (pe_tup (pa_cons (pv 2) (pa_cons (pe_tup (pa_cons (pv 1) (pa_cons (pe_op op_sub (pe_fk F_end_of (hr.mono (by decide)) (by rfl) pass0 (pa_cons (pv 0) pa_nil)) (pv 1)) (pa_cons (pe_ix ix_tup (pv 0) pe_int (fun _ _ => rfl)) (pa_cons pe_int (pa_cons (pe_ix ix_tup (pv 0) pe_int (fun _ _ => rfl)) pa_nil)))))) pa_nil))))))), ?_⟩
    apply r_seq; apply r_if; walk_at "ans"
    · intro hb
      have no : ¬ cutOk c m := fun z => by
        obtain ⟨z1, z2⟩ := z
        simp [z1, z2] at hb
      exact cut_raise (q2 no) fun R r => ⟨_, rfl, r⟩
    · intro hb
      have yes : cutOk c m := by
        have z : (decide (c.s + c.a ≤ m) && decide (m ≤ c.e - c.b)) = true := by simpa using hb
        exact split_tests z
      apply r_next
      apply r_seq; apply r_set
      apply e_tup
      apply e_consV; walk_at "val"
      apply e_consV; walk_at "val"
      apply e_consV; walk_at "val"
      apply e_consV; walk_at "val"
      apply e_consV; walk_at "val"
      apply e_nil
      refine ⟨sz (by simp), fun p1 h1 => ?_⟩
      have k1 : Kp S0 H (upd H p1 (.tup [.int c.s, .int (m - c.s), u, .int c.a, .int 0])) := .new h1
      have ha1 := k1.tup _ _ ha
      have hc1 := hc.kp k1
      apply r_ret
      apply e_tup
      apply e_consV; walk_at "val"
      apply e_cons
      apply e_tup
      apply e_consV; walk_at "val"
      apply e_consV; walk_at "val"
      apply e_consV; walk_at "val"
      apply e_consV; walk_at "val"
      apply e_consV; walk_at "val"
      apply e_nil
      refine ⟨sz (by simp), fun p2 h2 => ?_⟩
      apply e_nil
      refine ⟨sz (by simp), fun p3 h3 => ?_⟩
      have n12 : p1 ≠ p2 := ne_of_none upd_same h2
      have k2 := k1.add h2 (o := .tup [.int m, .int (c.e - m), u, .int 0, .int c.b])
      have k3 := k2.add h3 (o := .tup [.ref p1, .ref p2])
      refine q1 yes _ p3 (.ref p1) (.ref p2) k3 upd_same ⟨p1, u, rfl, ?_, hp.kp k3⟩ ⟨p2, u, rfl, ?_, hp.kp k3⟩
      · rw [upd_ne (ne_of_none (o := .tup [.int c.s, .int (m - c.s), u, .int c.a, .int 0]) (by rw [upd_ne n12, upd_same]) h3), upd_ne n12, upd_same]
        rfl
      · rw [upd_ne (ne_of_none upd_same h3), upd_same]
        rfl
end
end K34
end

section
set_option Elab.async false
set_option linter.all false
set_option maxRecDepth 100000
set_option maxHeartbeats 4000000
namespace K34
open PySem PySem.Spec PyProof.Rows L2 LamX
local macro_rules | `(tactic| walk_at "leaf") => `(tactic| first
  | exact fun Q q => ⟨_, _, rfl, rfl, q⟩
  | exact fun Q q => ⟨rfl, q⟩
  | exact ixt (by assumption) rfl
  | exact ixl (by assumption) rfl
  | exact isi_tt (by assumption)
  | exact isi_ii
  | exact isi_ib
  | exact len_t (by assumption)
  | exact len_l (by assumption)
  | exact isi_ll (by assumption)
  | exact isi_tl (by assumption)
  | exact fun Q q => ⟨_, _, rfl, rfl, by first | exact .inl ⟨by omega, by omega⟩ | exact .inr ⟨by omega, by omega⟩ | (refine ⟨?_, ?_⟩ <;> omega) | omega, q⟩)
local macro_rules | `(tactic| walk_at "val") => `(tactic| first
  | exact val_var rfl
  | exact val_c
  | ((with_reducible apply val_op); (walk_at "val"); (walk_at "val"); (walk_at "leaf"))
  | ((with_reducible apply val_cb1); (walk_at "val"); (walk_at "leaf"))
  | ((with_reducible apply val_cb2); (walk_at "val"); (walk_at "val"); (walk_at "leaf"))
  | ((with_reducible apply val_chain); (walk_at "val"); (walk_at "val"); (walk_at "leaf"); (walk_at "val"); (walk_at "leaf"))
  | ((with_reducible apply val_and); (walk_at "val"); (intro _); (walk_at "val"))
  | ((with_reducible apply val_or); (walk_at "val"); (intro _); (walk_at "val"))
  | ((with_reducible apply val_not); (walk_at "val"))
  | ((with_reducible apply val_un); (walk_at "val"); (walk_at "leaf"))
  | ((with_reducible apply val_call1); (walk_at "val"); (walk_at "spec"))
  | ((with_reducible apply val_call2); (walk_at "val"); (walk_at "val"); (walk_at "spec"))
  | ((with_reducible apply val_call3); (walk_at "val"); (walk_at "val"); (walk_at "val"); (walk_at "spec")))
local macro_rules | `(tactic| walk_at "ans") => `(tactic| first
  | ((with_reducible apply ans_t); (walk_at "val"))
  | ((with_reducible apply ans_val); (walk_at "val"))
  | ((with_reducible apply ans_not); (walk_at "ans"))
  | ((with_reducible apply ans_and3); (walk_at "ans"); (intro _); (walk_at "ans"))
  | ((with_reducible apply ans_or3); (walk_at "ans"); (intro _); (walk_at "ans")))
local macro_rules | `(tactic| walk_at "spec") => `(tactic| first
  | exact fun Q q => ⟨_, _, rfl, by assumption, q⟩
  | exact fun Q q => ⟨_, _, _, rfl, q⟩
  | exact fun Q q => ⟨_, _, rfl, by assumption, by assumption, q⟩
  | exact fun Q q => ⟨_, _, _, rfl, by assumption, by assumption, q⟩)

theorem split_drop {cs : List Clip} {m : Int} {i : Nat} {c : Clip} (h : cs[i]? = some c) : split (cs.drop i) m = match split1 c m with
    | none => none
    | some x => match split (cs.drop (i + 1)) m with
      | none => none
      | some y => some (x ++ y) := by
  obtain ⟨hi, e⟩ := List.getElem?_eq_some_iff.mp h
  rw [List.drop_eq_getElem_cons hi, e]
  rfl
section
variable {P : Program} {w : World} {K : PySem.W.Frag} {mg : Str → Option Value} {base : Heap}
def spSplit (K : PySem.W.Frag) : Sp := fun vs H Q E => ∃ a cs m, vs = [.ref a, .int m] ∧ ClipsAt H a cs ∧ cs.length ≤ 200 ∧ (∀ ds, split cs m = some ds → ∀ H' p, Kp S0 H H' → ClipsAt H' p ds → Q (.ref p) H') ∧ (split cs m = none → Cut K H E m)
theorem ok_split (T : Tx K mg) : FK P w K mg base (L2.CX P w) 5 "split" ["clips", "frame"] (spSplit K) := by
  have F_end_of := ok_end_of (P := P) (w := w) (base := base) T
  have F_halves := ok_halves (P := P) (w := w) (base := base) T
  refine fk_of T.d_split T.g_split sc_split (fun vs H Q E h => ?_) (fun _ _ _ _ _ _ us hl => match us, hl with | [_, _], _ => rfl) (fun cdv A outer s H vs Q E hr h => ?_)
  · obtain ⟨v, c, m, rfl, _⟩ := h
    rfl
  · obtain ⟨a, cs, m, rfl, ⟨xs, ha, hx⟩, h200, q1, q2⟩ := h
    have hlen : xs.length = cs.length := Paired.length hx
    refine ⟨_, (pss_cons (ps_set (i := 2) sc_split.nd rfl (Or.inl rfl) (pe_lst pa_nil))
    (pss_cons (ps_for (passes_of rfl) rfl (pi_tup (pv 0)) (pg_name (i := 3) sc_split.nd rfl (Or.inl rfl))
      (pss_one (ps_if (pt_chain op_lt op_lt (pe_ix (r := rIxT K) ix_tup (pv 3) pe_int (fun _ _ => rfl)) (pv 1) (pe_fk F_end_of (hr.mono (by decide)) (by rfl) pass0 (pa_cons (pv 3) pa_nil)))
        (pss_one (ps_expr (pe_bm PySem.F.plainAttrs_list PySem.F.slot_list_extend PySem.F.type_list_extend mt_extT (pv 2) (pa_cons (pe_fk F_halves (hr.mono (by decide)) (by rfl) (passes_call (takes_of rfl rfl rfl rfl) (fun _ _ _ _ z => z)) (pa_cons (pv 3) (pa_cons (pv 1) pa_nil))) pa_nil))))
        (pss_one (ps_expr (pe_bm PySem.F.plainAttrs_list PySem.F.slot_list_append PySem.F.type_list_append mt_append (pv 2) (pa_cons (pv 3) pa_nil)))))))
    (pss_one (ps_ret (pe_callTy call_tuple_of (by rfl) T.z_tuple (by decide +kernel) (pa_cons (pv 2) pa_nil)))))), ?_⟩
    apply r_seq; apply r_set
    apply e_lst
    apply e_nil
    refine ⟨sz (by simp), fun l hl => ?_⟩
    apply r_seq; apply r_for
    refine ⟨_, rfl, a, rfl, ⟨xs, ?_⟩, ?_⟩
    · exact (Kp.new hl : Kp S0 H _).sqT ha
    refine for_tupR (xs := xs) (fun i σ' H' => ∃ y3 acc ds, σ' = [some (.ref a), some (.int m), some (.ref l), y3] ∧ Kp S0 H H' ∧ H' l = some (.lst acc) ∧ Paired (ClipAt H') acc ds ∧ acc.length ≤ 2 * i ∧ split cs m = (split (cs.drop i) m).map (ds ++ ·))
      ⟨none, [], [], rfl, .new hl, upd_same, .nil, Nat.le_refl _, by rw [List.drop_zero]; cases split cs m <;> rfl⟩ (fun i σ' H' _ ⟨_, _, _, _, k, _⟩ => k.sqT ha) (fun i x σ' H' hxi h => ?_) (fun σ' H' h => ?_)
    · obtain ⟨y3, acc, ds, rfl, k1, hl1, hac, hal, he⟩ := h
      obtain ⟨c, hc, hxc⟩ := Pd.get hx hxi
      have hcl := hxc.kp k1
      obtain ⟨ac, u, rfl, hac1, hpu⟩ := id hcl
      have hi := (List.getElem?_eq_some_iff.mp hxi).1
      have hsd := split_drop (m := m) hc
      apply r_if; walk_at "ans"
      · intro hb
        have hb : inside c m := split_tests hb
        apply r_drop
        refine ⟨_, rfl, .inl ⟨rfl, _, .of hl1⟩, ?_⟩
        apply e_cons
        apply e_call
        apply e_consV; walk_at "val"
        apply e_consV; walk_at "val"
        apply e_nil
        refine ⟨_, c, m, rfl, hcl, fun ok H2 p lf rg k2 hp2 hlf hrg => ?_, fun no => ?_⟩
        · apply e_nil
          have hl2 := k2.all l _ (fun z => z) hl1
          refine ⟨l, p, acc, [lf, rg], rfl, rfl, hl2, .of hp2, ?_, ?_⟩
          · refine sz ?_
            simp
            omega
          have k3 : Kp (SA l) H2 (upd H2 l (.lst (acc ++ [lf, rg]))) := .put rfl (lst_not_tup hl2)
          refine ⟨_, _, ds ++ [left c m, right c m], rfl, (k1.trans k2).own hl (lst_not_tup hl2), upd_same, Pd.append (Paired.kp k3 (Paired.kp k2 hac)) (.cons (hlf.kp k3) (.cons (hrg.kp k3) .nil)), ?_, ?_⟩
          · simp
            omega
          · have e1 : split1 c m = some [left c m, right c m] := by
              unfold split1
              rw [if_pos hb, if_pos ok]
            rw [he, hsd, e1]
            cases split (cs.drop (i + 1)) m <;> simp
        · refine Cut.kp k1 (q2 ?_)
          have e1 : split1 c m = none := by
            unfold split1
            rw [if_pos hb, if_neg no]
          rw [he, hsd, e1]
          rfl
      · intro hb
        have hb : ¬ inside c m := fun z => by
          obtain ⟨z1, z2⟩ := z
          simp [z1, z2] at hb
        apply r_drop
        refine ⟨_, rfl, .inl ⟨rfl, _, .of hl1⟩, ?_⟩
        apply e_consV; walk_at "val"
        apply e_nil
        refine ⟨l, acc, .ref ac, rfl, rfl, hl1, ?_, ?_⟩
        · exact small1000 (by omega)
        have k3 : Kp (SA l) H' (upd H' l (.lst (acc ++ [.ref ac]))) := .put rfl (lst_not_tup hl1)
        refine ⟨_, _, ds ++ [c], rfl, k1.own hl (lst_not_tup hl1), upd_same, Pd.append (Paired.kp k3 hac) (.cons (hcl.kp k3) .nil), ?_, ?_⟩
        · simp
          omega
        · have e1 : split1 c m = some [c] := by
            unfold split1
            rw [if_neg hb]
          rw [he, hsd, e1]
          cases split (cs.drop (i + 1)) m <;> simp
    · obtain ⟨y3, acc, ds, rfl, k1, hl1, hac, hal, he⟩ := h
      have e2 : split cs m = some ds := by
        rw [he, List.drop_of_length_le (by omega)]
        simp [split]
      apply r_ret
      apply e_cb
      apply e_consV; walk_at "val"
      apply e_nil
      refine ⟨l, acc, rfl, .inl ⟨.of hl1, fun p hp => ?_⟩⟩
      have k2 := k1.add hp (o := .tup acc)
      exact q1 ds e2 _ p k2 ⟨acc, upd_same, Paired.kp (.new hp : Kp S0 H' _) hac⟩
end
end K34
end

section
set_option Elab.async false
set_option linter.all false
set_option maxRecDepth 100000
set_option maxHeartbeats 4000000
namespace K34
open PySem PySem.Spec PyProof.Rows L2 LamX
local macro_rules | `(tactic| walk_at "leaf") => `(tactic| first
  | exact fun Q q => ⟨_, _, rfl, rfl, q⟩
  | exact fun Q q => ⟨rfl, q⟩
  | exact ixt (by assumption) rfl
  | exact ixl (by assumption) rfl
  | exact isi_tt (by assumption)
  | exact isi_ii
  | exact isi_ib
  | exact len_t (by assumption)
  | exact len_l (by assumption)
  | exact isi_ll (by assumption)
  | exact isi_tl (by assumption)
  | exact fun Q q => ⟨_, _, rfl, rfl, by first | exact .inl ⟨by omega, by omega⟩ | exact .inr ⟨by omega, by omega⟩ | (refine ⟨?_, ?_⟩ <;> omega) | omega, q⟩)
local macro_rules | `(tactic| walk_at "val") => `(tactic| first
  | exact val_var rfl
  | exact val_c
  | ((with_reducible apply val_op); (walk_at "val"); (walk_at "val"); (walk_at "leaf"))
  | ((with_reducible apply val_cb1); (walk_at "val"); (walk_at "leaf"))
  | ((with_reducible apply val_cb2); (walk_at "val"); (walk_at "val"); (walk_at "leaf"))
  | ((with_reducible apply val_chain); (walk_at "val"); (walk_at "val"); (walk_at "leaf"); (walk_at "val"); (walk_at "leaf"))
  | ((with_reducible apply val_and); (walk_at "val"); (intro _); (walk_at "val"))
  | ((with_reducible apply val_or); (walk_at "val"); (intro _); (walk_at "val"))
  | ((with_reducible apply val_not); (walk_at "val"))
  | ((with_reducible apply val_un); (walk_at "val"); (walk_at "leaf"))
  | ((with_reducible apply val_call1); (walk_at "val"); (walk_at "spec"))
  | ((with_reducible apply val_call2); (walk_at "val"); (walk_at "val"); (walk_at "spec"))
  | ((with_reducible apply val_call3); (walk_at "val"); (walk_at "val"); (walk_at "val"); (walk_at "spec")))
local macro_rules | `(tactic| walk_at "ans") => `(tactic| first
  | ((with_reducible apply ans_t); (walk_at "val"))
  | ((with_reducible apply ans_val); (walk_at "val"))
  | ((with_reducible apply ans_not); (walk_at "ans"))
  | ((with_reducible apply ans_and3); (walk_at "ans"); (intro _); (walk_at "ans"))
  | ((with_reducible apply ans_or3); (walk_at "ans"); (intro _); (walk_at "ans")))
local macro_rules | `(tactic| walk_at "spec") => `(tactic| first
  | exact fun Q q => ⟨_, _, rfl, by assumption, q⟩
  | exact fun Q q => ⟨_, _, _, rfl, q⟩
  | exact fun Q q => ⟨_, _, rfl, by assumption, by assumption, q⟩
  | exact fun Q q => ⟨_, _, _, rfl, by assumption, by assumption, q⟩)

theorem i_tup {te : TE} {K : PySem.W.Frag} {σ : L2.St} {H : Hp} {R : It → Hp → Prop} (h : te σ H fun x H1 => ∃ a, x = .ref a ∧ (∃ xs, SqT K H1 a xs) ∧ R (Itt K a) H1) : iTup K te σ H R := h
theorem e_ans {σ : L2.St} {H : Hp} {t : TT} {b : Bool} {R : Bool → Hp → Prop} (h : Ans t σ H b) (q : R b H) : t σ H R := h _ q
section
variable {P : Program} {w : World} {K : PySem.W.Frag} {mg : Str → Option Value} {base : Heap}
def spLifted (K : PySem.W.Frag) : Sp := fun vs H Q E => ∃ a cs m n, vs = [.ref a, .int m, .int n] ∧ ClipsAt H a cs ∧ (∃ adj B, Wf adj B 100 cs) ∧ (∀ ds, lifted cs m n = some ds → ∀ H' p, Kp S0 H H' → ClipsAt H' p ds → Q (.ref p) H') ∧ (lifted cs m n = none → ∀ z, Cut K H E z)
theorem ok_lifted (T : Tx K mg) : FK P w K mg base (L2.CX P w) 6 "lifted" ["clips", "first", "last"] (spLifted K) := by
  have F_end_of := ok_end_of (P := P) (w := w) (base := base) T
  have F_split := ok_split (P := P) (w := w) (base := base) T
  refine fk_of T.d_lifted T.g_lifted sc_lifted (fun vs H Q E h => ?_) (fun _ _ _ _ _ _ us hl => match us, hl with | [_, _, _], _ => rfl) (fun cdv A outer s H vs Q E hr h => ?_)
  · obtain ⟨v, c, m, n, rfl, _⟩ := h
    rfl
  · obtain ⟨a, cs, m, n, rfl, hcs, ⟨adj, B, wf⟩, q1, q2⟩ := h
    refine ⟨_, (pss_one (ps_ret (pe_callTy call_tuple_of (by rfl) T.z_tuple (by decide +kernel) (pa_cons (pe_lc (own := [("clip", 3)]) (g := gName 3) rfl sc_lifted.nd (pi_tup (pe_fk F_split (hr.mono (by decide)) (by rfl) (passes_call (takes_of rfl rfl rfl rfl) (fun _ _ _ _ z => z)) (pa_cons (pe_fk F_split (hr.mono (by decide)) (by rfl) (passes_call (takes_of rfl rfl rfl rfl) (fun _ _ _ _ z => z)) (pa_cons (pv 0) (pa_cons (pv 1) pa_nil))) (pa_cons (pv 2) pa_nil)))) (blkOk_by (N := ["clips", "first", "last", "clip"]) (sc := defScope s_lifted) (by decide +kernel)) (fun _ _ _ _ _ => pg_name (i := 3) sc_lifted.nd rfl (Or.inl rfl)) (fun _ _ _ _ _ => (pts_one (PW.pt (pw_or (pt_cmpR op_le (pe_fk F_end_of (hr.mono (by decide)) (by rfl) pass0 (pa_cons (pv 3) pa_nil)) (pv 1) (nomark _)) (pw_or1 (pt_cmpR op_ge (pe_ix (r := rIxT K) ix_tup (pv 3) pe_int (fun _ _ => rfl)) (pv 2) (nomark _))))))) (fun _ _ _ _ _ => (pv 3))) pa_nil)))), ?_⟩
    apply r_ret
    apply e_cb
    apply e_cons
    apply i_tup
    apply e_call
    apply e_cons
    apply e_call
    apply e_consV; walk_at "val"
    apply e_consV; walk_at "val"
    apply e_nil
    refine ⟨a, cs, m, rfl, hcs, Nat.le_trans wf.len (by decide), fun ds1 e1 H1 p1 k1 hp1 => ?_, fun e1 => ?_⟩
    · obtain ⟨w1, _⟩ := split_wf e1 wf
      apply e_consV; walk_at "val"
      apply e_nil
      refine ⟨p1, ds1, n, rfl, hp1, Nat.le_trans w1.len (by decide), fun ds2 e2 H2 p2 k2 hp2 => ?_, fun e2 => ?_⟩
      · obtain ⟨w2, _⟩ := split_wf e2 w1
        obtain ⟨xs, ha, hx⟩ := hp2
        have hlen : xs.length = ds2.length := Paired.length hx
        refine ⟨p2, rfl, ⟨xs, .of ha⟩, fun D hD => ?_⟩
        have eL : lifted cs m n = some (ds2.filter fun c => decide (outside m n c)) := by
          unfold lifted
          rw [e1]
          simp only
          rw [e2]
        have k12 := k1.trans k2
        refine lc_tup (xs := xs) (fun i H' => Kp S0 H2 H' ∧ ∃ acc, H' D = some (.lst acc) ∧ acc.length ≤ i ∧ Paired (ClipAt H') acc ((ds2.take i).filter fun c => decide (outside m n c)))
          ⟨.new hD, [], upd_same, Nat.le_refl _, .nil⟩ (fun i H' _ h => h.1.sqT ha) (fun i x H' hxi h => ?_) (fun H' h => ?_)
        · obtain ⟨k3, acc, hl, hal, hac⟩ := h
          obtain ⟨c, hc, hxc⟩ := Pd.get hx hxi
          have hcl := hxc.kp k3
          obtain ⟨ac, u, rfl, hac1, hpu⟩ := id hcl
          have hi := (List.getElem?_eq_some_iff.mp hxi).1
          have et : ds2.take (i + 1) = ds2.take i ++ [c] := by
            rw [List.take_add_one, hc]
            rfl
          refine ⟨rfl, ?_⟩
          apply e_ans (b := (decide (c.e ≤ m) || decide (n ≤ c.s))); walk_at "ans"
          have eo : (decide (c.e ≤ m) || decide (n ≤ c.s)) = decide (outside m n c) := by
            rw [← Bool.decide_or]
            exact decide_eq_decide.mpr Iff.rfl
          rw [eo, et, List.filter_append]
          by_cases ho : outside m n c
          · rw [decide_eq_true ho]
            apply iteT
            apply e_val; walk_at "val"
            refine ⟨acc, hl, small1000 ?_, ?_⟩
            · have := w2.len
              omega
            have hD0 := k3.all
            have k4 : Kp (SA D) H' (upd H' D (.lst (acc ++ [.ref ac]))) := .put rfl (lst_not_tup hl)
            refine ⟨k3.own hD (lst_not_tup hl), _, upd_same, ?_, ?_⟩
            · simp
              omega
            · refine Pd.append (Paired.kp k4 hac) ?_
              rw [List.filter_cons_of_pos (by simpa using ho)]
              exact .cons (hcl.kp k4) .nil
          · rw [decide_eq_false ho]
            apply iteF
            refine ⟨k3, acc, hl, by omega, ?_⟩
            rw [List.filter_cons_of_neg (by simpa using ho), List.filter_nil, List.append_nil]
            exact hac
        · obtain ⟨k3, acc, hl, hal, hac⟩ := h
          rw [hlen, List.take_length] at hac
          apply e_nil
          refine ⟨D, acc, rfl, .inl ⟨.of hl, fun p hp => ?_⟩⟩
          exact q1 _ eL _ p ((k12.trans k3).add hp) ⟨acc, upd_same, Paired.kp (.new hp : Kp S0 H' _) hac⟩
      · refine Cut.kp k1 (q2 ?_ _)
        unfold lifted
        rw [e1]
        simp only
        rw [e2]
    · refine q2 ?_ _
      unfold lifted
      rw [e1]
def shiftF (d m k : Int) (ds : List Clip) : List Clip := ds.map (shift m k)
theorem ripple_turn {K : PySem.W.Frag} {H H' : Hp} {l : Addr} {acc : List V} {ds : List Clip} {v : V} {c : Clip} {S : Addr → Prop} (k : Kp S0 H H') (hl0 : H l = none) (hl : H' l = some (.lst acc)) (hac : Paired (ClipAt H') acc ds) (hc : ClipAt H' v c) :
    Kp S0 H (upd H' l (.lst (acc ++ [v]))) ∧ (upd H' l (.lst (acc ++ [v]))) l = some (.lst (acc ++ [v])) ∧ Paired (ClipAt (upd H' l (.lst (acc ++ [v])))) (acc ++ [v]) (ds ++ [c]) := by
  have k4 : Kp (SA l) H' (upd H' l (.lst (acc ++ [v]))) := .put rfl (lst_not_tup hl)
  exact ⟨k.own hl0 (lst_not_tup hl), upd_same, Pd.append (Paired.kp k4 hac) (.cons (hc.kp k4) .nil)⟩
def spRippledIn (K : PySem.W.Frag) : Sp := fun vs H Q E => ∃ a cs m n, vs = [.ref a, .int m, .int n] ∧ ClipsAt H a cs ∧ (∃ adj B, Wf adj B 100 cs) ∧ (∀ ds, rippledIn cs m n = some ds → ∀ H' p, Kp S0 H H' → ClipsAt H' p ds → Q (.ref p) H') ∧ (rippledIn cs m n = none → ∀ z, Cut K H E z)
theorem ok_rippled_in (T : Tx K mg) : FK P w K mg base (L2.CX P w) 6 "rippled_in" ["clips", "frame", "count"] (spRippledIn K) := by
  have F_later := ok_later (P := P) (w := w) (base := base) T
  have F_split := ok_split (P := P) (w := w) (base := base) T
  refine fk_of T.d_rippled_in T.g_rippled_in sc_rippled_in (fun vs H Q E h => ?_) (fun _ _ _ _ _ _ us hl => match us, hl with | [_, _, _], _ => rfl) (fun cdv A outer s H vs Q E hr h => ?_)
  · obtain ⟨v, c, m, n, rfl, _⟩ := h
    rfl
  · obtain ⟨a, cs, m, n, rfl, hcs, ⟨adj, B, wf⟩, q1, q2⟩ := h
    refine ⟨_, (pss_cons (ps_set (i := 3) sc_rippled_in.nd rfl (Or.inl rfl) (pe_lst pa_nil))
    (pss_cons (ps_for (passes_of rfl) rfl (pi_tup (pe_fk F_split (hr.mono (by decide)) (by rfl) (passes_call (takes_of rfl rfl rfl rfl) (fun _ _ _ _ z => z)) (pa_cons (pv 0) (pa_cons (pv 1) pa_nil)))) (pg_name (i := 4) sc_rippled_in.nd rfl (Or.inl rfl))
      (pss_cons (ps_if (pt_cmpR op_ge (pe_ix (r := rIxT K) ix_tup (pv 4) pe_int (fun _ _ => rfl)) (pv 1) (nomark _))
        (pss_one (ps_set (i := 4) sc_rippled_in.nd rfl (Or.inl rfl) (pe_fk F_later (hr.mono (by decide)) (by rfl) pass0 (pa_cons (pv 4) (pa_cons (pv 2) pa_nil)))))
        pss_nil)
      (pss_one (ps_expr (pe_bm PySem.F.plainAttrs_list PySem.F.slot_list_append PySem.F.type_list_append mt_append (pv 3) (pa_cons (pv 4) pa_nil))))))
    (pss_one (ps_ret (pe_callTy call_tuple_of (by rfl) T.z_tuple (by decide +kernel) (pa_cons (pv 3) pa_nil)))))), ?_⟩
    apply r_seq; apply r_set
    apply e_lst
    apply e_nil
    refine ⟨sz (by simp), fun l hl0 => ?_⟩
    have k0 : Kp S0 H (upd H l (.lst [])) := .new hl0
    have h64 := wf.len
    apply r_seq; apply r_for
    apply i_tup
    apply e_call
    apply e_consV; walk_at "val"
    apply e_consV; walk_at "val"
    apply e_nil
    refine ⟨a, cs, m, rfl, hcs.kp k0, by omega, fun ds1 e1 H1 p1 k1 hp1 => ?_, fun e1 => ?_⟩
    · obtain ⟨w1, _⟩ := split_wf e1 wf
      have h65 := w1.len
      obtain ⟨xs, ha, hx⟩ := hp1
      have hlen : xs.length = ds1.length := Paired.length hx
      have eL : rippledIn cs m n = some (ds1.map (shift m n)) := by
        unfold rippledIn
        rw [e1]
      have k01 := k0.trans k1
      refine ⟨p1, rfl, ⟨xs, .of ha⟩, ?_⟩
      refine for_tupR (xs := xs) (fun i σ' H' => ∃ y acc, σ' = [some (.ref a), some (.int m), some (.int n), some (.ref l), y] ∧ Kp S0 H H' ∧ Kp (SA l) H1 H' ∧ H' l = some (.lst acc) ∧ acc.length ≤ i ∧ Paired (ClipAt H') acc ((ds1.take i).map (shift m n)))
        ⟨none, [], rfl, k01, .refl _ _, k1.all _ _ (fun z => z) upd_same, Nat.le_refl _, .nil⟩ (fun i σ' H' _ ⟨_, _, _, _, k, _⟩ => k.sqT ha) (fun i x σ' H' hxi h => ?_) (fun σ' H' h => ?_)
      · obtain ⟨y, acc, rfl, k2, k3, hl, hal, hac⟩ := h
        obtain ⟨c, hc, hxc⟩ := Pd.get hx hxi
        have hcl := hxc.kp k3
        obtain ⟨ac, u, rfl, hac1, hpu⟩ := id hcl
        have hi := (List.getElem?_eq_some_iff.mp hxi).1
        have et : (ds1.take (i + 1)).map (shift m n) = (ds1.take i).map (shift m n) ++ [shift m n c] := by
          rw [List.take_add_one, hc, List.map_append]
          rfl
        rw [et]
        apply r_seq
        apply r_fork (fun σ'' H'' => ∃ v, σ'' = [some (.ref a), some (.int m), some (.int n), some (.ref l), some v] ∧ Kp S0 H' H'' ∧ ClipAt H'' v (shift m n c)); walk_at "ans"
        · rintro σ'' H'' ⟨v, rfl, k4, hv⟩
          apply r_drop
          refine ⟨_, rfl, .inl ⟨rfl, _, .of (k4.all _ _ (fun z => z) hl)⟩, ?_⟩
          apply e_consV; walk_at "val"
          apply e_nil
          have hl2 := k4.all _ _ (fun z => z) hl
          refine ⟨l, acc, v, rfl, rfl, hl2, small1000 (by omega), ?_⟩
          have k5 : Kp (SA l) H'' (upd H'' l (.lst (acc ++ [v]))) := .put rfl (lst_not_tup hl2)
          refine ⟨_, _, rfl, (k2.trans k4).own hl0 (lst_not_tup hl2), (k3.trans k4.ofS0).trans k5, upd_same, ?_, Pd.append (Paired.kp k5 (Paired.kp k4 hac)) (.cons (hv.kp k5) .nil)⟩
          simp
          omega
        · intro hb fin
          have hb : m ≤ c.s := of_decide_eq_true hb
          apply r_set
          apply e_call
          apply e_consV; walk_at "val"
          apply e_consV; walk_at "val"
          apply e_nil
          refine ⟨_, _, _, rfl, hcl, fun H4 v4 k4 hv4 => fin _ _ ⟨_, rfl, k4, ?_⟩⟩
          unfold shift
          rw [if_pos hb]
          exact hv4
        · intro hb fin
          have hb : ¬ m ≤ c.s := of_decide_eq_false hb
          apply r_next
          refine fin _ _ ⟨_, rfl, .refl _ _, ?_⟩
          unfold shift
          rw [if_neg hb]
          exact hcl
      · obtain ⟨y, acc, rfl, k2, k3, hl, hal, hac⟩ := h
        rw [hlen, List.take_length] at hac
        apply r_ret
        apply e_cb
        apply e_consV; walk_at "val"
        apply e_nil
        refine ⟨l, acc, rfl, .inl ⟨.of hl, fun p hp => ?_⟩⟩
        exact q1 _ eL _ p (k2.add hp) ⟨acc, upd_same, Paired.kp (.new hp : Kp S0 H' _) hac⟩
    · refine Cut.kp k0 (q2 ?_ _)
      unfold rippledIn
      rw [e1]
def spRippledOut (K : PySem.W.Frag) : Sp := fun vs H Q E => ∃ a cs m n, vs = [.ref a, .int m, .int n] ∧ ClipsAt H a cs ∧ (∃ adj B, Wf adj B 100 cs) ∧ (∀ ds, rippledOut cs m n = some ds → ∀ H' p, Kp S0 H H' → ClipsAt H' p ds → Q (.ref p) H') ∧ (rippledOut cs m n = none → ∀ z, Cut K H E z)
theorem ok_rippled_out (T : Tx K mg) : FK P w K mg base (L2.CX P w) 7 "rippled_out" ["clips", "first", "last"] (spRippledOut K) := by
  have F_later := ok_later (P := P) (w := w) (base := base) T
  have F_lifted := ok_lifted (P := P) (w := w) (base := base) T
  refine fk_of T.d_rippled_out T.g_rippled_out sc_rippled_out (fun vs H Q E h => ?_) (fun _ _ _ _ _ _ us hl => match us, hl with | [_, _, _], _ => rfl) (fun cdv A outer s H vs Q E hr h => ?_)
  · obtain ⟨v, c, m, n, rfl, _⟩ := h
    rfl
  · obtain ⟨a, cs, m, n, rfl, hcs, ⟨adj, B, wf⟩, q1, q2⟩ := h
    refine ⟨_, (pss_cons (ps_set (i := 3) sc_rippled_out.nd rfl (Or.inl rfl) (pe_lst pa_nil))
    (pss_cons (ps_for (passes_of rfl) rfl (pi_tup (pe_fk F_lifted (hr.mono (by decide)) (by rfl) (passes_call (takes_of rfl rfl rfl rfl) (fun _ _ _ _ z => z)) (pa_cons (pv 0) (pa_cons (pv 1) (pa_cons (pv 2) pa_nil))))) (pg_name (i := 4) sc_rippled_out.nd rfl (Or.inl rfl))
      (pss_cons (ps_if (pt_cmpR op_ge (pe_ix (r := rIxT K) ix_tup (pv 4) pe_int (fun _ _ => rfl)) (pv 2) (nomark _))
        (pss_one (ps_set (i := 4) sc_rippled_out.nd rfl (Or.inl rfl) (pe_fk F_later (hr.mono (by decide)) (by rfl) pass0 (pa_cons (pv 4) (pa_cons (pe_op op_sub (pv 1) (pv 2)) pa_nil)))))
        pss_nil)
      (pss_one (ps_expr (pe_bm PySem.F.plainAttrs_list PySem.F.slot_list_append PySem.F.type_list_append mt_append (pv 3) (pa_cons (pv 4) pa_nil))))))
    (pss_one (ps_ret (pe_callTy call_tuple_of (by rfl) T.z_tuple (by decide +kernel) (pa_cons (pv 3) pa_nil)))))), ?_⟩
    apply r_seq; apply r_set
    apply e_lst
    apply e_nil
    refine ⟨sz (by simp), fun l hl0 => ?_⟩
    have k0 : Kp S0 H (upd H l (.lst [])) := .new hl0
    have h64 := wf.len
    apply r_seq; apply r_for
    apply i_tup
    apply e_call
    apply e_consV; walk_at "val"
    apply e_consV; walk_at "val"
    apply e_consV; walk_at "val"
    apply e_nil
    refine ⟨a, cs, m, n, rfl, hcs.kp k0, ⟨adj, B, wf⟩, fun ds1 e1 H1 p1 k1 hp1 => ?_, fun e1 z => ?_⟩
    · obtain ⟨w1, _⟩ := lifted_wf e1 wf
      have h65 := w1.len
      obtain ⟨xs, ha, hx⟩ := hp1
      have hlen : xs.length = ds1.length := Paired.length hx
      have eL : rippledOut cs m n = some (ds1.map (shift n (m - n))) := by
        unfold rippledOut
        rw [e1]
      have k01 := k0.trans k1
      refine ⟨p1, rfl, ⟨xs, .of ha⟩, ?_⟩
      refine for_tupR (xs := xs) (fun i σ' H' => ∃ y acc, σ' = [some (.ref a), some (.int m), some (.int n), some (.ref l), y] ∧ Kp S0 H H' ∧ Kp (SA l) H1 H' ∧ H' l = some (.lst acc) ∧ acc.length ≤ i ∧ Paired (ClipAt H') acc ((ds1.take i).map (shift n (m - n))))
        ⟨none, [], rfl, k01, .refl _ _, k1.all _ _ (fun z => z) upd_same, Nat.le_refl _, .nil⟩ (fun i σ' H' _ ⟨_, _, _, _, k, _⟩ => k.sqT ha) (fun i x σ' H' hxi h => ?_) (fun σ' H' h => ?_)
      · obtain ⟨y, acc, rfl, k2, k3, hl, hal, hac⟩ := h
        obtain ⟨c, hc, hxc⟩ := Pd.get hx hxi
        have hcl := hxc.kp k3
        obtain ⟨ac, u, rfl, hac1, hpu⟩ := id hcl
        have hi := (List.getElem?_eq_some_iff.mp hxi).1
        have et : (ds1.take (i + 1)).map (shift n (m - n)) = (ds1.take i).map (shift n (m - n)) ++ [shift n (m - n) c] := by
          rw [List.take_add_one, hc, List.map_append]
          rfl
        rw [et]
        apply r_seq
        apply r_fork (fun σ'' H'' => ∃ v, σ'' = [some (.ref a), some (.int m), some (.int n), some (.ref l), some v] ∧ Kp S0 H' H'' ∧ ClipAt H'' v (shift n (m - n) c)); walk_at "ans"
        · rintro σ'' H'' ⟨v, rfl, k4, hv⟩
          apply r_drop
          refine ⟨_, rfl, .inl ⟨rfl, _, .of (k4.all _ _ (fun z => z) hl)⟩, ?_⟩
          apply e_consV; walk_at "val"
          apply e_nil
          have hl2 := k4.all _ _ (fun z => z) hl
          refine ⟨l, acc, v, rfl, rfl, hl2, small1000 (by omega), ?_⟩
          have k5 : Kp (SA l) H'' (upd H'' l (.lst (acc ++ [v]))) := .put rfl (lst_not_tup hl2)
          refine ⟨_, _, rfl, (k2.trans k4).own hl0 (lst_not_tup hl2), (k3.trans k4.ofS0).trans k5, upd_same, ?_, Pd.append (Paired.kp k5 (Paired.kp k4 hac)) (.cons (hv.kp k5) .nil)⟩
          simp
          omega
        · intro hb fin
          have hb : n ≤ c.s := of_decide_eq_true hb
          apply r_set
          apply e_call
          apply e_consV; walk_at "val"
          apply e_consV; walk_at "val"
          apply e_nil
          refine ⟨_, _, _, rfl, hcl, fun H4 v4 k4 hv4 => fin _ _ ⟨_, rfl, k4, ?_⟩⟩
          unfold shift
          rw [if_pos hb]
          exact hv4
        · intro hb fin
          have hb : ¬ n ≤ c.s := of_decide_eq_false hb
          apply r_next
          refine fin _ _ ⟨_, rfl, .refl _ _, ?_⟩
          unfold shift
          rw [if_neg hb]
          exact hcl
      · obtain ⟨y, acc, rfl, k2, k3, hl, hal, hac⟩ := h
        rw [hlen, List.take_length] at hac
        apply r_ret
        apply e_cb
        apply e_consV; walk_at "val"
        apply e_nil
        refine ⟨l, acc, rfl, .inl ⟨.of hl, fun p hp => ?_⟩⟩
        exact q1 _ eL _ p (k2.add hp) ⟨acc, upd_same, Paired.kp (.new hp : Kp S0 H' _) hac⟩
    · refine Cut.kp k0 (q2 ?_ _)
      unfold rippledOut
      rw [e1]
end
end K34
end

section
set_option Elab.async false
set_option linter.all false
set_option maxRecDepth 100000
set_option maxHeartbeats 4000000
namespace K34
open PySem PySem.Spec PyProof.Rows L2 LamX
local macro_rules | `(tactic| walk_at "leaf") => `(tactic| first
  | exact fun Q q => ⟨_, _, rfl, rfl, q⟩
  | exact fun Q q => ⟨rfl, q⟩
  | exact ixt (by assumption) rfl
  | exact ixl (by assumption) rfl
  | exact isi_tt (by assumption)
  | exact isi_ii
  | exact isi_ib
  | exact len_t (by assumption)
  | exact len_l (by assumption)
  | exact isi_ll (by assumption)
  | exact isi_tl (by assumption)
  | exact fun Q q => ⟨_, _, rfl, rfl, by first | exact .inl ⟨by omega, by omega⟩ | exact .inr ⟨by omega, by omega⟩ | (refine ⟨?_, ?_⟩ <;> omega) | omega, q⟩)
local macro_rules | `(tactic| walk_at "val") => `(tactic| first
  | exact val_var rfl
  | exact val_c
  | ((with_reducible apply val_op); (walk_at "val"); (walk_at "val"); (walk_at "leaf"))
  | ((with_reducible apply val_cb1); (walk_at "val"); (walk_at "leaf"))
  | ((with_reducible apply val_cb2); (walk_at "val"); (walk_at "val"); (walk_at "leaf"))
  | ((with_reducible apply val_chain); (walk_at "val"); (walk_at "val"); (walk_at "leaf"); (walk_at "val"); (walk_at "leaf"))
  | ((with_reducible apply val_and); (walk_at "val"); (intro _); (walk_at "val"))
  | ((with_reducible apply val_or); (walk_at "val"); (intro _); (walk_at "val"))
  | ((with_reducible apply val_not); (walk_at "val"))
  | ((with_reducible apply val_un); (walk_at "val"); (walk_at "leaf"))
  | ((with_reducible apply val_call1); (walk_at "val"); (walk_at "spec"))
  | ((with_reducible apply val_call2); (walk_at "val"); (walk_at "val"); (walk_at "spec"))
  | ((with_reducible apply val_call3); (walk_at "val"); (walk_at "val"); (walk_at "val"); (walk_at "spec")))
local macro_rules | `(tactic| walk_at "ans") => `(tactic| first
  | ((with_reducible apply ans_t); (walk_at "val"))
  | ((with_reducible apply ans_val); (walk_at "val"))
  | ((with_reducible apply ans_not); (walk_at "ans"))
  | ((with_reducible apply ans_and3); (walk_at "ans"); (intro _); (walk_at "ans"))
  | ((with_reducible apply ans_or3); (walk_at "ans"); (intro _); (walk_at "ans")))
local macro_rules | `(tactic| walk_at "spec") => `(tactic| first
  | exact fun Q q => ⟨_, _, rfl, by assumption, q⟩
  | exact fun Q q => ⟨_, _, _, rfl, q⟩
  | exact fun Q q => ⟨_, _, rfl, by assumption, by assumption, q⟩
  | exact fun Q q => ⟨_, _, _, rfl, by assumption, by assumption, q⟩)

/-! ### put -/
/-- what the making of a lambda keeps -/
theorem _root_.K34.Kp.en {H H' : Hp} (k : Kp S0 H H') : ExtN H H' := .of k.same
def ST (H : Hp) : Addr → Prop := fun b => ∃ ps, H b = some (.tbl ps)
theorem extN_kp {H H' : Hp} (e : ExtN H H') : Kp (ST H) H H' := ⟨fun b o n h => e b o h fun ps z => n ⟨ps, by rw [h, z]⟩, fun b xs h => e b _ h fun ps z => by cases z⟩
theorem pd_perm {α β : Type} {F : α → β → Prop} {xs xs' : List α} (p : xs'.Perm xs) : ∀ {ys : List β}, Paired F xs ys → ∃ ys', ys'.Perm ys ∧ Paired F xs' ys' := by
  induction p with
  | nil => exact fun h => ⟨_, .refl _, h⟩
  | cons x p ih =>
    intro ys h
    cases h with
    | cons r t =>
      obtain ⟨ys', p', h'⟩ := ih t
      exact ⟨_ :: ys', p'.cons _, .cons r h'⟩
  | swap x y l =>
    intro ys h
    cases h with
    | cons r t =>
      cases t with
      | cons r' t => exact ⟨_, .swap _ _ _, .cons r' (.cons r t)⟩
  | trans p q ih1 ih2 =>
    intro ys h
    obtain ⟨y1, p1, h1⟩ := ih2 h
    obtain ⟨y2, p2, h2⟩ := ih1 h1
    exact ⟨y2, p2.trans p1, h2⟩
theorem pd_pairwise {α β : Type} {F : α → β → Prop} {R : α → α → Prop} {R' : β → β → Prop} (h : ∀ x x' y y', F x y → F x' y' → R x x' → R' y y') : ∀ {xs : List α} {ys : List β}, Paired F xs ys → xs.Pairwise R → ys.Pairwise R'
  | _, _, .nil, _ => .nil
  | _, _, .cons r t, p => by
    rw [List.pairwise_cons] at p
    refine List.pairwise_cons.mpr ⟨fun y' hy => ?_, pd_pairwise h t p.2⟩
    obtain ⟨i, hi⟩ := List.getElem?_of_mem hy
    obtain ⟨x', hx', r'⟩ := Pd.get2 t hi
    exact h _ _ _ _ r r' (p.1 x' (List.mem_of_getElem? hx'))
/-- the sort key of a value -/
def keyV (H : Hp) (v : V) : Int := match v with
  | .ref a => match H a with
    | some (.tup (.int n :: _)) => n
    | _ => 0
  | _ => 0
theorem ClipAt.key {H : Hp} {v : V} {c : Clip} (h : ClipAt H v c) : keyV H v = c.s ∧ ∃ a r, v = .ref a ∧ H a = some (.tup (.int (keyV H v) :: r)) := by
  obtain ⟨a, u, rfl, ha, _⟩ := h
  have e : keyV H (.ref a) = c.s := by
    unfold keyV
    simp only [ha]
  exact ⟨e, a, _, rfl, by rw [e]; exact ha⟩
theorem sort_put {H H' : Hp} {xs : List V} {ms : List Clip} {c : Clip} (h : Paired (ClipAt H) xs (ms ++ [c])) (k : Kp (ST H) H H') :
    ∃ ds, PutIn ms c ds ∧ Paired (ClipAt H') (xs.mergeSort fun x y => decide (keyV H x ≤ keyV H y)) ds := by
  obtain ⟨ds, p, hp⟩ := pd_perm (List.mergeSort_perm xs fun x y => decide (keyV H x ≤ keyV H y)) h
  refine ⟨ds, ⟨p, ?_⟩, Paired.kp k hp⟩
  refine pd_pairwise (R := fun x y => decide (keyV H x ≤ keyV H y) = true) (fun x x' y y' r r' q => ?_) hp (List.pairwise_mergeSort (fun a b c h1 h2 => ?_) (fun a b => ?_) xs)
  · rw [← r.key.1, ← r'.key.1]
    exact of_decide_eq_true q
  · have h1 := of_decide_eq_true h1
    have h2 := of_decide_eq_true h2
    exact decide_eq_true (Int.le_trans h1 h2)
  · rcases Int.le_total (keyV H a) (keyV H b) with z | z <;> simp [z]
theorem e_sortL {K : PySem.W.Frag} {T : List (Addr × Str)} {ta : TA} {σ : L2.St} {H : Hp} {Q : VK} (h : ta σ H fun vs H1 => Tabs T H1 ∧ ∃ (t : Addr) (xs : List V) (k : V → Int), vs = [.ref t] ∧ SqT K H1 t xs ∧ (∀ y ∈ xs, ∃ a r, y = .ref a ∧ SqT K H1 a (.int (k y) :: r)) ∧
  ∀ H2, ExtN H1 H2 → Tabs T H2 → ∀ p, H2 p = none → Q (.ref p) (upd H2 p (.lst (xs.mergeSort fun x y => decide (k x ≤ k y))))) : tSortL K T ta σ H Q := h
theorem cat1 {K : PySem.W.Frag} {H : Hp} {a b : Addr} {xs ys : List V} {Q : VK} (ha : H a = some (.tup xs)) (hb : H b = some (.tup ys)) (hz : xs.length + ys.length ≤ 1000) (hy : ys ≠ []) (q : ∀ H' p, Kp S0 H H' → H' p = some (.tup (xs ++ ys)) → Q (.ref p) H') : rCatA K (.ref a) (.ref b) H Q := by
  refine ⟨a, b, xs, ys, rfl, rfl, .of ha, .of hb, sz hz, fun e => ?_, fun _ e => absurd e hy, fun _ _ p hp => q _ p (.new hp) upd_same⟩
  refine q H b (.refl _ _) ?_
  rw [e]
  exact hb
def tbl (K : PySem.W.Frag) : List (Addr × Str) := [((He.cT K ("put", none)).2, "put.<locals>.<lambda>")]
section
variable {P : Program} {w : World} {K : PySem.W.Frag} {mg : Str → Option Value} {base : Heap}
theorem fk_ofC {CX : CXT} {x : Str} {params : Arguments} {body : List Stmt} {scope : Scope} {N ps : List Str} {k : Nat} {sp : Sp} (D : ∃ fd, FunD K x x params body scope [] [] (He.ga K x) fd) (g : mg x = some (.ref (He.ga K x))) (S : FnScope N ps scope) (len : ∀ vs H Q E, sp vs H Q E → vs.length = ps.length)
    (hb : ∀ (kV doc pm : Value) (an : Option Addr) (cdv ct : Value) (us : List Value), us.length = ps.length → bindArgs (PySem.W.fnOf x x params body scope .none kV doc pm an cdv ct) ⟨us, []⟩ = pure (ps.zip us))
    (hbody : ∀ (cdv : Value) (A : Around) (outer : List Env) (s : Shared) (H : Hp) (vs : List V) (Q : VK) (E : XK), cdv = .ref (He.codeOf K (x, none)) → Room k (A.deeper (envOfC x scope s.heap.objs.size (He.ga K x) cdv)) → sp vs H Q E →
      ∃ t, PSs (cxOf CX P w K mg base N x scope (He.ga K x) cdv A outer s H E) body t ∧ t { nx := fun _ H' => Q .non H', rt := Q } (start N vs) H) : FK P w K mg base CX (k + 1) x ps sp := by
  obtain ⟨fd, F⟩ := D
  obtain ⟨oc, od, dV, kV, doc, pm, an, cdv, ct, osl, rfl, lk, hcd, _, _⟩ := F.ex
  obtain ⟨c, rfl⟩ := He.codeIn_ref hcd
  have ec : He.codeOf K (x, none) = c := He.codeOf_eq lk rfl
  exact ⟨g, F.kp, _, fn_of lk hcd S len fun A outer s H vs Q E hr hsp => hbody _ A outer s H vs Q E (by rw [ec]) hr hsp, F.bindsN hb⟩
def spPut (K : PySem.W.Frag) : Sp := fun vs H Q E => ∃ a v ms c, vs = [.ref a, v, .non] ∧ ClipsAt H a ms ∧ ClipAt H v c ∧ ms.length ≤ 200 ∧ (∀ d ∈ ms, ¬ (d.s < c.e ∧ c.s < d.e)) ∧ Tabs (tbl K) H ∧ ∀ H' p ds, ExtN H H' → Tabs (tbl K) H' → ClipsAt H' p ds → PutIn ms c ds → Q (.ref p) H'
theorem ok_put (T : Tx K mg) (TB : TabB base mg (He.cT K ("put", none)).1 (He.cT K ("put", none)).2) : FK P w K mg base (L2.CX P w) 4 "put" ["clips", "clip", "place"] (spPut K) := by
  have F_end_of := ok_end_of (P := P) (w := w) (base := base) T
  refine fk_ofC T.d_put T.g_put sc_put (fun vs H Q E h => ?_) (fun _ _ _ _ _ _ us hl => match us, hl with | [_, _, _], _ => rfl) (fun cdv A outer s H vs Q E hcdv hr h => ?_)
  · obtain ⟨a, v, ms, c, rfl, _⟩ := h
    rfl
  · obtain ⟨a, v, ms, c, rfl, ⟨xs, ha, hx⟩, hv, h200, hfree, hT, q⟩ := h
    have hlen : xs.length = ms.length := Paired.length hx
    have hcode : (cxOf (L2.CX P w) P w K mg base ["clips", "clip", "place", "other"] "put" (defScope s_put) (He.ga K "put") cdv A outer s H E).env.code = .ref (He.cT K ("put", none)).1 := hcdv
    have hmT : ((He.cT K ("put", none)).2, (cxOf (L2.CX P w) P w K mg base ["clips", "clip", "place", "other"] "put" (defScope s_put) (He.ga K "put") cdv A outer s H E).env.qual ++ "<lambda>") ∈ tbl K := List.mem_singleton.mpr rfl
    have huT : ∀ p ∈ tbl K, p.1 = (He.cT K ("put", none)).2 → p.2 = (cxOf (L2.CX P w) P w K mg base ["clips", "clip", "place", "other"] "put" (defScope s_put) (He.ga K "put") cdv A outer s H E).env.qual ++ "<lambda>" := fun p hp _ => by
      rw [List.mem_singleton.mp hp]
      rfl
    refine ⟨_, (pss_cons (ps_for (passes_of rfl) rfl (pi_tup (pv 0)) (pg_name (i := 3) sc_put.nd rfl (Or.inl rfl))
      (pss_one (ps_if (PW.pt (pw_and (pt_cmpR op_lt (pe_ix (r := rIxT K) ix_tup (pv 3) pe_int (fun _ _ => rfl)) (pe_fk F_end_of (hr.mono (by decide)) (by rfl) pass0 (pa_cons (pv 1) pa_nil)) (nomark _)) (pw_and1 (pt_cmpR op_lt (pe_ix (r := rIxT K) ix_tup (pv 1) pe_int (fun _ _ => rfl)) (pe_fk F_end_of (hr.mono (by decide)) (by rfl) pass0 (pa_cons (pv 3) pa_nil)) (nomark _)))))
        pss_never
        pss_nil)))
    (pss_one (ps_ret (pe_callTy call_tuple_of (by rfl) T.z_tuple (by decide +kernel) (pa_cons (pe_sortLam (j := 0) (by rfl) T.z_sorted (pa_cons (pe_op op_catA (pv 0) (pe_tup (pa_cons (pv 1) pa_nil))) pa_nil) TB hcode hmT huT (hr.mono (by decide)) rfl rfl (fun _ _ _ _ _ _ => rfl)) pa_nil))))), ?_⟩
    obtain ⟨av, u, rfl, hav, hpu⟩ := id hv
    apply r_seq; apply r_for
    apply i_tup
    apply e_val; walk_at "val"
    refine ⟨a, rfl, ⟨xs, .of ha⟩, ?_⟩
    refine for_tupR (xs := xs) (fun i σ' H' => ∃ y, σ' = [some (.ref a), some (.ref av), some .non, y] ∧ H' = H) ⟨none, rfl, rfl⟩ (fun i σ' H' _ ⟨_, _, e⟩ => by rw [e]; exact .of ha) (fun i x σ' H' hxi h => ?_) (fun σ' H' h => ?_)
    · obtain ⟨y, rfl, rfl⟩ := h
      obtain ⟨d, hd, hxd⟩ := Pd.get hx hxi
      have hdm := hfree d (List.mem_of_getElem? hd)
      obtain ⟨ac, u', rfl, hac1, hpu'⟩ := id hxd
      apply r_no; walk_at "ans"
      · rw [← Bool.decide_and]
        exact decide_eq_false hdm
      · apply r_next
        exact ⟨_, rfl, rfl⟩
    · obtain ⟨y, rfl, rfl⟩ := h
      apply r_ret
      apply e_cb
      apply e_cons
      apply e_sortL
      apply e_cons
      apply e_op
      refine val_var (i := 0) rfl _ ?_
      apply e_tup
      apply e_consV; walk_at "val"
      apply e_nil
      refine ⟨sz (by simp), fun p1 hp1 => ?_⟩
      have k1 : Kp S0 H' (upd H' p1 (.tup [.ref av])) := .new hp1
      refine cat1 (k1.tup _ _ ha) upd_same (by simp; omega) (by simp) fun H2 p2 k2 hp2 => ?_
      have k12 := k1.trans k2
      apply e_nil
      have hall : Paired (ClipAt H2) (xs ++ [.ref av]) (ms ++ [c]) := Pd.append (Paired.kp k12 hx) (.cons (hv.kp k12) .nil)
      refine ⟨hT.ext k12.same, p2, _, keyV H2, rfl, .of hp2, fun y hy => ?_, fun H3 en3 T3 p3 hp3 => ?_⟩
      · obtain ⟨d, _, hd⟩ := Pd.mem hall hy
        obtain ⟨_, b, r, e, hb⟩ := hd.key
        exact ⟨b, r, e, .of hb⟩
      · obtain ⟨ds, pi, hds⟩ := sort_put hall (extN_kp en3)
        have k4 : Kp S0 H3 (upd H3 p3 (.lst ((xs ++ [V.ref av]).mergeSort fun x y => decide (keyV H2 x ≤ keyV H2 y)))) := .new hp3
        apply e_nil
        refine ⟨p3, _, rfl, .inl ⟨.of upd_same, fun p5 hp5 => ?_⟩⟩
        have k5 := k4.add hp5 (o := .tup ((xs ++ [V.ref av]).mergeSort fun x y => decide (keyV H2 x ≤ keyV H2 y)))
        exact q _ p5 ds ((k12.en.trans en3).trans k5.en) (T3.ext k5.same) ⟨_, upd_same, Paired.kp k5 hds⟩ pi
def spPlaced (K : PySem.W.Frag) : Sp := fun vs H Q E => ∃ a v cs c, vs = [.ref a, v] ∧ ClipsAt H a cs ∧ ClipAt H v c ∧ (∃ adj B, Wf adj B 100 cs) ∧ Tabs (tbl K) H ∧ (∀ ms ds, lifted cs c.s c.e = some ms → PutIn ms c ds → ∀ H' p, ExtN H H' → Tabs (tbl K) H' → ClipsAt H' p ds → Q (.ref p) H') ∧ (∀ z, Cut K H E z)
theorem ok_placed (T : Tx K mg) (TB : TabB base mg (He.cT K ("put", none)).1 (He.cT K ("put", none)).2) : FK P w K mg base (L2.CX P w) 7 "placed" ["clips", "clip"] (spPlaced K) := by
  have F_end_of := ok_end_of (P := P) (w := w) (base := base) T
  have F_lifted := ok_lifted (P := P) (w := w) (base := base) T
  have F_put := ok_put (P := P) (w := w) (base := base) T TB
  refine fk_of T.d_placed T.g_placed sc_placed (fun vs H Q E h => ?_) (fun _ _ _ _ _ _ us hl => match us, hl with | [_, _], _ => rfl) (fun cdv A outer s H vs Q E hr h => ?_)
  · obtain ⟨a, v, ms, c, rfl, _⟩ := h
    rfl
  · obtain ⟨a, v, cs, c, rfl, hcs, hv, ⟨adj, B, wf⟩, hT, q1, q2⟩ := h
    refine ⟨_, (pss_one (ps_ret (pe_fk F_put (hr.mono (by decide)) (by rfl) (passes_call (takes_of rfl rfl rfl rfl) (fun _ _ _ _ z => z)) (pa_cons (pe_fk F_lifted (hr.mono (by decide)) (by rfl) (passes_call (takes_of rfl rfl rfl rfl) (fun _ _ _ _ z => z)) (pa_cons (pv 0) (pa_cons (pe_ix (r := rIxT K) ix_tup (pv 1) pe_int (fun _ _ => rfl)) (pa_cons (pe_fk F_end_of (hr.mono (by decide)) (by rfl) pass0 (pa_cons (pv 1) pa_nil)) pa_nil)))) (pa_cons (pv 1) (pa_cons pe_non pa_nil)))))), ?_⟩
    obtain ⟨av, u, rfl, hav, hpu⟩ := id hv
    have h100 := wf.len
    apply r_ret
    apply e_call
    apply e_cons
    apply e_call
    apply e_consV; walk_at "val"
    apply e_consV; walk_at "val"
    apply e_consV; walk_at "val"
    apply e_nil
    refine ⟨a, cs, _, _, rfl, hcs, ⟨adj, B, wf⟩, fun ms e1 H1 p1 k1 hp1 => ?_, fun _ z => q2 z⟩
    have w1 := (lifted_wf e1 wf).1.len
    apply e_consV; walk_at "val"
    apply e_consV; walk_at "val"
    apply e_nil
    exact ⟨p1, _, ms, c, rfl, hp1, hv.kp k1, by omega, lifted_free e1 wf, hT.ext k1.same, fun H2 p2 ds en T2 h2 pi => q1 ms ds e1 pi H2 p2 (k1.en.trans en) T2 h2⟩
end
end K34
end

section
set_option Elab.async false
set_option linter.all false
set_option maxRecDepth 100000
set_option maxHeartbeats 4000000
namespace K34
open PySem PySem.Spec PyProof.Rows L2 LamX
local macro_rules | `(tactic| walk_at "leaf") => `(tactic| first
  | exact fun Q q => ⟨_, _, rfl, rfl, q⟩
  | exact fun Q q => ⟨rfl, q⟩
  | exact fun Q q => .inl ⟨_, rfl, q⟩
  | exact fun Q q => ⟨_, rfl, q⟩
  | exact ixt (by assumption) rfl
  | exact ixl (by assumption) rfl
  | exact isi_tt (by assumption)
  | exact isi_ii
  | exact isi_ib
  | exact len_t (by assumption)
  | exact len_l (by assumption)
  | exact isi_ll (by assumption)
  | exact isi_tl (by assumption)
  | exact fun Q q => ⟨_, _, rfl, rfl, by first | exact .inl ⟨by omega, by omega⟩ | exact .inr ⟨by omega, by omega⟩ | (refine ⟨?_, ?_⟩ <;> omega) | omega, q⟩)
local macro_rules | `(tactic| walk_at "val") => `(tactic| first
  | exact val_var rfl
  | exact val_c
  | ((with_reducible apply val_op); (walk_at "val"); (walk_at "val"); (walk_at "leaf"))
  | ((with_reducible apply val_cb1); (walk_at "val"); (walk_at "leaf"))
  | ((with_reducible apply val_cb2); (walk_at "val"); (walk_at "val"); (walk_at "leaf"))
  | ((with_reducible apply val_chain); (walk_at "val"); (walk_at "val"); (walk_at "leaf"); (walk_at "val"); (walk_at "leaf"))
  | ((with_reducible apply val_and); (walk_at "val"); (intro _); (walk_at "val"))
  | ((with_reducible apply val_or); (walk_at "val"); (intro _); (walk_at "val"))
  | ((with_reducible apply val_not); (walk_at "val"))
  | ((with_reducible apply val_un); (walk_at "val"); (walk_at "leaf"))
  | ((with_reducible apply val_call1); (walk_at "val"); (walk_at "spec"))
  | ((with_reducible apply val_call2); (walk_at "val"); (walk_at "val"); (walk_at "spec"))
  | ((with_reducible apply val_call3); (walk_at "val"); (walk_at "val"); (walk_at "val"); (walk_at "spec")))
local macro_rules | `(tactic| walk_at "ans") => `(tactic| first
  | ((with_reducible apply ans_t); (walk_at "val"))
  | ((with_reducible apply ans_val); (walk_at "val"))
  | ((with_reducible apply ans_not); (walk_at "ans"))
  | ((with_reducible apply ans_and3); (walk_at "ans"); (intro _); (walk_at "ans"))
  | ((with_reducible apply ans_or3); (walk_at "ans"); (intro _); (walk_at "ans")))
local macro_rules | `(tactic| walk_at "spec") => `(tactic| first
  | exact fun Q q => ⟨_, _, rfl, by assumption, q⟩
  | exact fun Q q => ⟨_, _, _, rfl, q⟩
  | exact fun Q q => ⟨_, _, rfl, by assumption, by assumption, q⟩
  | exact fun Q q => ⟨_, _, _, rfl, by assumption, by assumption, q⟩)

/-! ### the deck -/
def Deck (H : Hp) (d s : Addr) : Prop := ∃ (x0 x1 x2 k : Int) (ns : List Int), H d = some (.lst [.int x0, .int x1, .int x2, .ref s, .int k]) ∧ 0 ≤ x0 ∧ 0 ≤ x1 ∧ H s = some (.lst (ns.map V.int))
theorem deck_ne {H : Hp} {d s : Addr} {ns : List Int} {x0 x1 x2 k : V} {t : Addr} (h : H d = some (.lst [x0, x1, x2, .ref t, k])) (hs : H s = some (.lst (ns.map V.int))) : s ≠ d := fun e => by
  rw [e, h] at hs
  have z := HO.lst.inj (Option.some.inj hs)
  have : V.ref t ∈ ns.map V.int := by
    rw [← z]
    simp
  obtain ⟨n, _, e⟩ := List.mem_map.mp this
  cases e
theorem Deck.kp {H H' : Hp} {d s : Addr} (h : Deck H d s) (k : Kp S0 H H') : Deck H' d s := by
  obtain ⟨x0, x1, x2, kk, ns, h1, h2, h3, h4⟩ := h
  exact ⟨x0, x1, x2, kk, ns, k.all _ _ (fun z => z) h1, h2, h3, k.all _ _ (fun z => z) h4⟩
theorem deck_put {H : Hp} {d s : Addr} {ns : List Int} {y0 y1 y2 y4 : V} {t : Addr} {x0 x1 x2 k : Int} (h : H d = some (.lst [y0, y1, y2, .ref t, y4])) (hs : H s = some (.lst (ns.map V.int))) (h0 : 0 ≤ x0) (h1 : 0 ≤ x1) : Deck (upd H d (.lst [.int x0, .int x1, .int x2, .ref s, .int k])) d s :=
  ⟨x0, x1, x2, k, ns, upd_same, h0, h1, by rw [upd_ne (deck_ne h hs)]; exact hs⟩
theorem tabs_kp {T : List (Addr × Str)} {H H' : Hp} {d : Addr} {xs : List V} (h : H d = some (.lst xs)) (k : Kp (SA d) H H') (t : Tabs T H) : Tabs T H' := fun p hp => by
  obtain ⟨ps, h1, h2, h3⟩ := t p hp
  refine ⟨ps, k.all _ _ (fun z => ?_) h1, h2, fun pos cv hc => ?_⟩
  · have z : p.1 = d := z
    rw [z, h] at h1
    cases h1
  · obtain ⟨c, e1, e2⟩ := h3 pos cv hc
    refine ⟨c, e1, k.all _ _ (fun z => ?_) e2⟩
    have z : c = d := z
    rw [z, h] at e2
    cases e2
theorem Deck.ne {H : Hp} {d s D : Addr} (h : Deck H d s) (e : H D = none) : d ≠ D ∧ s ≠ D := by
  obtain ⟨x0, x1, x2, kk, ns, h1, h2, h3, h4⟩ := h
  exact ⟨ne_of_none h1 e, ne_of_none h4 e⟩
theorem Deck.add {H : Hp} {d s D : Addr} {o : HO} (h : Deck H d s) (e : d ≠ D ∧ s ≠ D) : Deck (upd H D o) d s := by
  obtain ⟨x0, x1, x2, kk, ns, h1, h2, h3, h4⟩ := h
  exact ⟨x0, x1, x2, kk, ns, by rw [upd_ne e.1]; exact h1, h2, h3, by rw [upd_ne e.2]; exact h4⟩
theorem Deck.new {H : Hp} {d s D : Addr} {o : HO} (h : Deck H d s) (e : H D = none) : Deck (upd H D o) d s := h.add (h.ne e)
theorem Deck.tabs {T : List (Addr × Str)} {H H' : Hp} {d s : Addr} (h : Deck H d s) (k : Kp (SA d) H H') (t : Tabs T H) : Tabs T H' := by
  obtain ⟨x0, x1, x2, kk, ns, h1, _⟩ := h
  exact tabs_kp h1 k t
theorem r_put {te : TE} {σ : L2.St} {H : Hp} {k : Int} {j : Nat} {n : L2.St → Hp → Prop} {rt : VK} {bk ct : L2.St → Hp → Prop} {to ti : TE} {d : Addr} {xs : List V} {v : V} (h : Val te σ H v) (ho : Val to σ H (.ref d)) (hi : Val ti σ H (.int k)) (hd : H d = some (.lst xs)) (hj : ixN xs.length k = some j) (q : n σ (upd H d (.lst (xs.set j v)))) : tAsg te (gSub to ti rSetL) ⟨n, rt, bk, ct⟩ σ H :=
  h _ (ho _ (hi _ ⟨d, xs, k, j, rfl, rfl, hd, hj, q⟩))
theorem r_setB {C : Int → Prop} {te : TE} {σ : L2.St} {H : Hp} {i : Nat} {m : Int} {n : L2.St → Hp → Prop} {rt : VK} {bk ct : L2.St → Hp → Prop} (h : Val te σ H (.int m)) (p : C m) (q : ∀ m, C m → n (σ.set i (some (.int m))) H) : tAsg te (gName i) ⟨n, rt, bk, ct⟩ σ H := h _ (q m p)
theorem fmod_b (i : Int) {b : Int} (h : 0 < b) : 0 ≤ i.fmod b ∧ i.fmod b < b := by
  rw [Int.fmod_eq_emod_of_nonneg _ (Int.le_of_lt h)]
  exact ⟨Int.emod_nonneg _ (by omega), Int.emod_lt_of_pos _ h⟩
theorem fdiv_b {i b : Int} (h : 0 < b) (h0 : 0 ≤ i) : 0 ≤ i.fdiv b := Int.fdiv_nonneg h0 (Int.le_of_lt h)
theorem scal_ii (i j : Int) : decide (V.int i = V.int j) = decide (i = j) := decide_eq_decide.mpr ⟨fun e => by cases e; rfl, fun e => by rw [e]⟩
def spDraw : Sp := fun vs H Q _ => ∃ d sA b, vs = [.ref d, .int b] ∧ Deck H d sA ∧ 0 < b ∧ b < 1000000 ∧ ∀ H' v, Kp (SA d) H H' → Deck H' d sA → 0 ≤ v → v < b → Q (.int v) H'
theorem e_draw {σ : L2.St} {H : Hp} {Q : VK} {E : XK} {td tb : TE} {d s : Addr} {b : Int} (hd : Val td σ H (.ref d)) (hb : Val tb σ H (.int b)) (D : Deck H d s) (h0 : 0 < b) (h1 : b < 1000000) (q : ∀ H' v, Kp (SA d) H H' → Deck H' d s → 0 ≤ v → v < b → Q (.int v) H') : tCall spDraw [] E (tCons td (tCons tb tNil)) σ H Q :=
  hd _ (hb _ ⟨d, s, b, rfl, D, h0, h1, q⟩)
section
variable {P : Program} {w : World} {K : PySem.W.Frag} {mg : Str → Option Value} {base : Heap}
theorem ok_draw (T : Tx K mg) : FK P w K mg base CX0 1 "_law_draw" ["_law_deck_here", "_law_bound"] spDraw := by
  refine fk0 T.d_L_draw T.g_L_draw sc_L_draw (fun vs H Q E h => ?_) (fun _ _ _ _ _ _ us hl => match us, hl with | [_, _], _ => rfl) (fun cdv A outer s H vs Q E hr h => ?_)
  · obtain ⟨d, sA, b, rfl, _⟩ := h
    rfl
  · obtain ⟨d, sA, b, rfl, ⟨x0, x1, x2, kk, ns, hd, h0, h1, hs⟩, hb0, hb1, q⟩ := h
    refine ⟨_, (pss_cons (ps_if (PW.pt (pw_and (pt_cmpR op_eq (pe_ix (r := rIxL K) ix_list (pv 0) pe_int (fun _ _ => rfl)) pe_int (nomark _)) (pw_and1 (pt_cmpR op_lt (pe_ix (r := rIxL K) ix_list (pv 0) pe_int (fun _ _ => rfl)) (pe_callB call_len_seq (by rfl) T.z_len (by decide +kernel) (pa_cons (pe_ix (r := rIxL K) ix_list (pv 0) pe_int (fun _ _ => rfl)) pa_nil)) (nomark _)))))
      (pss_cons (ps_asg (pe_callB call_abs (by rfl) T.z_abs (by decide +kernel) (pa_cons (pe_ix (r := rIxL K) ix_list (pe_ix (r := rIxL K) ix_list (pv 0) pe_int (fun _ _ => rfl)) (pe_ix (r := rIxL K) ix_list (pv 0) pe_int (fun _ _ => rfl)) (fun _ _ => rfl)) pa_nil)) (pg_sub (pv 0) pe_int set_list))
      (pss_one (ps_asg (pe_op op_add (pe_ix (r := rIxL K) ix_list (pv 0) pe_int (fun _ _ => rfl)) pe_int) (pg_sub (pv 0) pe_int set_list))))
      (pss_one (ps_if (pt_cmpR op_eq (pe_ix (r := rIxL K) ix_list (pv 0) pe_int (fun _ _ => rfl)) pe_int (nomark _))
        (pss_cons (ps_asg (pe_op op_add (pe_ix (r := rIxL K) ix_list (pv 0) pe_int (fun _ _ => rfl)) pe_int) (pg_sub (pv 0) pe_int set_list))
        (pss_cons (ps_set (i := 2) sc_L_draw.nd rfl (Or.inl rfl) (pe_op op_modN (pe_callTy call_int1 (by rfl) T.z_int (by decide +kernel) (pa_cons (pe_op op_add (pe_op op_add (pe_op op_mul (pe_ix (r := rIxL K) ix_list (pv 0) pe_int (fun _ _ => rfl)) pe_int) (pe_op op_mul (pe_ix (r := rIxL K) ix_list (pv 0) pe_int (fun _ _ => rfl)) pe_int)) pe_int) pa_nil)) pe_int))
        (pss_cons (ps_set (i := 2) sc_L_draw.nd rfl (Or.inl rfl) (pe_op op_modN (pe_callTy call_int1 (by rfl) T.z_int (by decide +kernel) (pa_cons (pe_op op_add (pe_op op_add (pe_op op_mul (pv 2) (pv 2)) (pe_op op_mul pe_int (pe_ix (r := rIxL K) ix_list (pv 0) pe_int (fun _ _ => rfl)))) pe_int) pa_nil)) pe_int))
        (pss_cons (ps_set (i := 2) sc_L_draw.nd rfl (Or.inl rfl) (pe_op op_modN (pe_callTy call_int1 (by rfl) T.z_int (by decide +kernel) (pa_cons (pe_op op_add (pe_op op_add (pe_op op_mul (pv 2) (pv 2)) (pe_op op_mul pe_int (pe_ix (r := rIxL K) ix_list (pv 0) pe_int (fun _ _ => rfl)))) (pe_ix (r := rIxL K) ix_list (pv 0) pe_int (fun _ _ => rfl))) pa_nil)) pe_int))
        (pss_one (ps_asg (pe_op op_fdivN (pv 2) pe_int) (pg_sub (pv 0) pe_int set_list)))))))
        pss_nil)))
    (pss_cons (ps_set (i := 3) sc_L_draw.nd rfl (Or.inl rfl) (pe_op op_modN (pe_callTy call_int1 (by rfl) T.z_int (by decide +kernel) (pa_cons (pe_ix (r := rIxL K) ix_list (pv 0) pe_int (fun _ _ => rfl)) pa_nil)) (pv 1)))
    (pss_cons (ps_asg (pe_op op_fdivN (pe_ix (r := rIxL K) ix_list (pv 0) pe_int (fun _ _ => rfl)) (pv 1)) (pg_sub (pv 0) pe_int set_list))
    (pss_one (ps_ret (pv 3)))))), ?_⟩
    apply r_seq
    apply r_fork (fun σ'' H'' => ∃ y0 y1 y2 k', (∃ z2 z3, σ'' = [some (.ref d), some (.int b), z2, z3]) ∧ H'' = upd H d (.lst [.int y0, .int y1, .int y2, .ref sA, .int k']) ∧ 0 ≤ y0 ∧ 0 ≤ y1); walk_at "ans"
    · rintro σ'' H'' ⟨y0, y1, y2, k', ⟨z2, z3, rfl⟩, rfl, hy0, hy1⟩
      have hd2 : (upd H d (.lst [.int y0, .int y1, .int y2, .ref sA, .int k'])) d = some (.lst [.int y0, .int y1, .int y2, .ref sA, .int k']) := upd_same
      apply r_seq; apply r_setV; walk_at "val"
      apply r_seq; apply r_put
      · apply val_op
        · apply val_op
          · walk_at "val"
          · walk_at "val"
          · exact ixl hd2 rfl
        · walk_at "val"
        · exact fun Q q => ⟨_, _, rfl, rfl, ⟨by omega, by omega⟩, q⟩
      · walk_at "val"
      · walk_at "val"
      · exact hd2
      · rfl
      apply r_retV; walk_at "val"
      have kA : Kp (SA d) H (upd (upd H d (.lst [.int y0, .int y1, .int y2, .ref sA, .int k'])) d (.lst [.int (y0.fdiv b), .int y1, .int y2, .ref sA, .int k'])) := Kp.trans (.put rfl (lst_not_tup hd)) (.put rfl (lst_not_tup hd2))
      refine q _ _ kA ?_ (fmod_b y0 hb0).1 (fmod_b y0 hb0).2
      refine deck_put (ns := ns) hd2 ?_ (fdiv_b hb0 hy0) hy1
      · rw [upd_ne (deck_ne hd hs)]
        exact hs
    · intro hb fin
      have hb2 : x0 = 0 ∧ x1 < (ns.map V.int).length := by
        rw [scal_ii] at hb
        exact split_tests hb
      obtain ⟨rfl, hlt⟩ := hb2
      have hi : x1.toNat < ns.length := by
        rw [List.length_map] at hlt
        omega
      have hix : atI (ns.map V.int) x1 = some (.int ns[x1.toNat]) := atI_of (j := x1.toNat) (by omega) (by rw [List.getElem?_map, List.getElem?_eq_getElem hi]; rfl)
      apply r_seq; apply r_put
      · apply val_cb1
        · apply val_op
          · apply val_op
            · walk_at "val"
            · walk_at "val"
            · exact ixl hd rfl
          · apply val_op
            · walk_at "val"
            · walk_at "val"
            · exact ixl hd rfl
          · exact ixl hs hix
        · walk_at "leaf"
      · walk_at "val"
      · walk_at "val"
      · exact hd
      · rfl
      have hd2 := @upd_same H d (.lst [.int (if ns[x1.toNat] < 0 then -ns[x1.toNat] else ns[x1.toNat]), .int x1, .int x2, .ref sA, .int kk])
      apply r_put
      · walk_at "val"
      · walk_at "val"
      · walk_at "val"
      · exact hd2
      · rfl
      refine fin _ _ ⟨_, _, _, _, ⟨_, _, rfl⟩, upd_upd, ?_, ?_⟩
      · split <;> omega
      · show 0 ≤ x1 + 1
        omega
    · intro hb fin
      apply r_fork (fun σ'' H'' => ∃ y0 y1 y2 k', (∃ z2 z3, σ'' = [some (.ref d), some (.int b), z2, z3]) ∧ H'' = upd H d (.lst [.int y0, .int y1, .int y2, .ref sA, .int k']) ∧ 0 ≤ y0 ∧ 0 ≤ y1); walk_at "ans"
      · exact fin
      · intro hb2 fin
        apply r_seq; apply r_put
        · walk_at "val"
        · walk_at "val"
        · walk_at "val"
        · exact hd
        · rfl
        have hd2 := @upd_same H d (.lst [.int x0, .int x1, .int x2, .ref sA, .int (kk + 1)])
        apply r_seq; apply r_setB (C := fun m => 0 ≤ m ∧ m < 2147483647)
        · walk_at "val"
        · exact fmod_b _ (by omega)
        rintro n1 ⟨n11, n12⟩
        apply r_seq; apply r_setB (C := fun m => 0 ≤ m ∧ m < 998244353)
        · walk_at "val"
        · exact fmod_b _ (by omega)
        rintro n2 ⟨n21, n22⟩
        apply r_seq; apply r_setB (C := fun m => 0 ≤ m)
        · walk_at "val"
        · exact (fmod_b _ (by omega)).1
        intro n3 n31
        apply r_put
        · walk_at "val"
        · walk_at "val"
        · walk_at "val"
        · exact hd2
        · rfl
        refine fin _ _ ⟨_, _, _, _, ⟨_, _, rfl⟩, upd_upd, ?_, h1⟩
        exact fdiv_b (by omega) n31
      · intro hb2 fin
        apply r_next
        refine fin _ _ ⟨x0, x1, x2, kk, ⟨_, _, rfl⟩, ?_, h0, h1⟩
        funext y
        unfold upd
        split
        · rename_i e
          rw [e]
          exact hd
        · rfl
end
end K34
end

section
set_option Elab.async false
set_option linter.all false
set_option maxRecDepth 100000
set_option maxHeartbeats 4000000
namespace K34
open PySem PySem.Spec PyProof.Rows L2 LamX
local macro_rules | `(tactic| walk_at "leaf") => `(tactic| first
  | exact fun Q q => ⟨_, _, rfl, rfl, q⟩
  | exact fun Q q => ⟨rfl, q⟩
  | exact fun Q q => .inl ⟨_, rfl, q⟩
  | exact fun Q q => ⟨_, rfl, q⟩
  | exact fun Q q => ⟨_, _, rfl, q⟩
  | exact ixt (by assumption) rfl
  | exact ixl (by assumption) rfl
  | exact isi_tt (by assumption)
  | exact isi_ii
  | exact isi_ib
  | exact len_t (by assumption)
  | exact len_l (by assumption)
  | exact isi_ll (by assumption)
  | exact isi_tl (by assumption)
  | exact fun Q q => ⟨_, _, rfl, rfl, by first | exact .inl ⟨by omega, by omega⟩ | exact .inr ⟨by omega, by omega⟩ | (refine ⟨?_, ?_⟩ <;> omega) | omega, q⟩)
local macro_rules | `(tactic| walk_at "val") => `(tactic| first
  | exact val_var rfl
  | exact val_c
  | ((with_reducible apply val_op); (walk_at "val"); (walk_at "val"); (walk_at "leaf"))
  | ((with_reducible apply val_cb1); (walk_at "val"); (walk_at "leaf"))
  | ((with_reducible apply val_cb2); (walk_at "val"); (walk_at "val"); (walk_at "leaf"))
  | ((with_reducible apply val_chain); (walk_at "val"); (walk_at "val"); (walk_at "leaf"); (walk_at "val"); (walk_at "leaf"))
  | ((with_reducible apply val_and); (walk_at "val"); (intro _); (walk_at "val"))
  | ((with_reducible apply val_or); (walk_at "val"); (intro _); (walk_at "val"))
  | ((with_reducible apply val_not); (walk_at "val"))
  | ((with_reducible apply val_un); (walk_at "val"); (walk_at "leaf"))
  | ((with_reducible apply val_call1); (walk_at "val"); (walk_at "spec"))
  | ((with_reducible apply val_call2); (walk_at "val"); (walk_at "val"); (walk_at "spec"))
  | ((with_reducible apply val_call3); (walk_at "val"); (walk_at "val"); (walk_at "val"); (walk_at "spec")))
local macro_rules | `(tactic| walk_at "ans") => `(tactic| first
  | ((with_reducible apply ans_t); (walk_at "val"))
  | ((with_reducible apply ans_val); (walk_at "val"))
  | ((with_reducible apply ans_not); (walk_at "ans"))
  | ((with_reducible apply ans_and3); (walk_at "ans"); (intro _); (walk_at "ans"))
  | ((with_reducible apply ans_or3); (walk_at "ans"); (intro _); (walk_at "ans")))
local macro_rules | `(tactic| walk_at "spec") => `(tactic| first
  | exact fun Q q => ⟨_, _, rfl, by assumption, q⟩
  | exact fun Q q => ⟨_, _, _, rfl, q⟩
  | exact fun Q q => ⟨_, _, rfl, by assumption, by assumption, q⟩
  | exact fun Q q => ⟨_, _, _, rfl, by assumption, by assumption, q⟩)

theorem i_list {te : TE} {K : PySem.W.Frag} {σ : L2.St} {H : Hp} {R : It → Hp → Prop} (h : te σ H fun x H1 => ∃ a, x = .ref a ∧ (∃ xs, SqL K H1 a xs) ∧ R (Itl K a) H1) : iList K te σ H R := h
theorem i_rng1 {ta : TA} {σ : L2.St} {H : Hp} {R : It → Hp → Prop} (h : ta σ H fun vs H1 => ∃ j : Int, vs = [.int j] ∧ -(2 ^ 62) ≤ j ∧ j < 2 ^ 62 ∧ R (Itr 0 j.toNat) H1) : iRng1 ta σ H R := h
theorem e_lc {wi : TI} {g : TG} {tt : TT} {te : TE} {vs : List Nat} {σ : L2.St} {H : Hp} {Q : VK} (h : wi σ H fun J H1 => ∀ D, H1 D = none → ∃ W : Nat → Nat → Hp → Prop, (∃ m, W 0 m (upd H1 D (.lst []))) ∧ ∀ i m H, W i m H →
  (J.stop i H ∧ Q (.ref D) H) ∨ (J.go i H ∧ ∃ Nx : Hp → Prop, (∀ H', Nx H' → ∃ m', m' < m ∧ W (i + 1) m' H') ∧ ∀ x H', J.yld i H x H' → g x (wipe σ vs) H' fun σ2 H2 => wipe σ2 vs = wipe σ vs ∧ tt σ2 H2 fun b H3 =>
    if b = true then te σ2 H3 fun y H4 => ∃ acc, H4 D = some (.lst acc) ∧ acc.length < sizeLine ∧ Nx (upd H4 D (.lst (acc ++ [y]))) else Nx H3)) : tLc wi g tt te vs σ H Q := h
section
variable {P : Program} {w : World} {K : PySem.W.Frag} {mg : Str → Option Value} {base : Heap}
def spDeck (K : PySem.W.Frag) : Sp := fun vs H Q _ => ∃ (a : Addr) (ns : List Int), vs = [.ref a] ∧ SqL K H a (ns.map V.int) ∧ ∀ H' d s, Kp S0 H H' → Deck H' d s → Q (.ref d) H'
theorem ok_deck (T : Tx K mg) : FK P w K mg base CX0 1 "_law_deck" ["_law_script"] (spDeck K) := by
  refine fk0 T.d_L_deck T.g_L_deck sc_L_deck (fun vs H Q E h => ?_) (fun _ _ _ _ _ _ us hl => match us, hl with | [_], _ => rfl) (fun cdv A outer s H vs Q E hr h => ?_)
  · obtain ⟨a, ns, rfl, _⟩ := h
    rfl
  · obtain ⟨a, ns, rfl, ha, q⟩ := h
    refine ⟨_, (pss_cons (ps_set (i := 1) sc_L_deck.nd rfl (Or.inl rfl) pe_int)
    (pss_cons (ps_for PassesOwn.never rfl (pi_list (pv 0)) (pg_name (i := 2) sc_L_deck.nd rfl (Or.inl rfl))
      (pss_one (ps_set (i := 1) sc_L_deck.nd rfl (Or.inl rfl) (pe_op op_modN (pe_callTy call_int1 (by rfl) T.z_int (by decide +kernel) (pa_cons (pe_op op_add (pe_op op_mul (pv 1) pe_int) (pv 2)) pa_nil)) pe_int))))
    (pss_one (ps_ret (pe_lst (pa_cons pe_int (pa_cons pe_int (pa_cons (pv 1) (pa_cons (pe_callTy call_list_of (by rfl) T.z_list (by decide +kernel) (pa_cons (pv 0) pa_nil)) (pa_cons pe_int pa_nil)))))))))), ?_⟩
    apply r_seq; apply r_setV; walk_at "val"
    apply r_seq; apply r_for
    apply i_list
    apply e_val; walk_at "val"
    refine ⟨a, rfl, ⟨_, ha⟩, ?_⟩
    refine for_listR (xs := ns.map V.int) (fun i σ' H' => ∃ m y, σ' = [some (.ref a), some (.int m), y] ∧ 0 ≤ m ∧ m < 2147483647 ∧ H' = H) ⟨_, _, rfl, by decide, by decide, rfl⟩ (fun i σ' H' _ ⟨_, _, _, _, _, e⟩ => by rw [e]; exact ha) (fun i x σ' H' hxi h => ?_) (fun σ' H' h => ?_)
    · obtain ⟨m, y, rfl, m0, m1, rfl⟩ := h
      have hxm := List.mem_of_getElem? hxi
      obtain ⟨n, _, rfl⟩ := List.mem_map.mp hxm
      apply r_setB (C := fun m => 0 ≤ m ∧ m < 2147483647)
      · walk_at "val"
      · exact fmod_b _ (by omega)
      rintro n1 ⟨n11, n12⟩
      exact ⟨_, _, rfl, n11, n12, rfl⟩
    · obtain ⟨m, y, rfl, m0, m1, rfl⟩ := h
      apply r_ret
      apply e_lst
      apply e_consV; walk_at "val"
      apply e_consV; walk_at "val"
      apply e_consV; walk_at "val"
      apply e_cons
      apply e_cb
      apply e_consV; walk_at "val"
      apply e_nil
      refine ⟨a, _, rfl, .inl ha, fun l hl => ?_⟩
      apply e_consV; walk_at "val"
      apply e_nil
      refine ⟨sz (by simp), fun p hp => ?_⟩
      refine q _ p l ((Kp.new hl).add hp) ⟨0, 0, m, 0, ns, upd_same, Int.le_refl _, Int.le_refl _, ?_⟩
      rw [upd_ne (ne_of_none upd_same hp), upd_same]
def spLPaint : Sp := fun vs H Q _ => ∃ d s, vs = [.ref d] ∧ Deck H d s ∧ ∀ H' v p, Kp (SA d) H H' → Deck H' d s → PtAt H' v (some p) → PtOk p → Q v H'
theorem draws_lc {d s D : Addr} {H1 H4 : Hp} {v : Int} {acc : List Int} (hD : H1 D = none) (D1 : Deck H1 d s) (k : Kp (SA d) H1 H4) (D4 : Deck H4 d s) (h : H4 D = some (.lst (acc.map V.int))) : Kp (SA d) H1 (upd H4 D (.lst (acc.map V.int ++ [.int v]))) ∧ Deck (upd H4 D (.lst (acc.map V.int ++ [.int v]))) d s ∧ (upd H4 D (.lst (acc.map V.int ++ [.int v]))) D = some (.lst ((acc ++ [v]).map V.int)) :=
  ⟨k.own hD (lst_not_tup h), D4.add (D1.ne hD), by rw [upd_same, List.map_append]; rfl⟩
theorem ok_Lpaint (T : Tx K mg) : FK P w K mg base CX0 2 "_law_paint" ["_law_deck_here"] spLPaint := by
  have F_L_draw := ok_draw (P := P) (w := w) (base := base) T
  refine fk0 T.d_L_paint T.g_L_paint sc_L_paint (fun vs H Q E h => ?_) (fun _ _ _ _ _ _ us hl => match us, hl with | [_], _ => rfl) (fun cdv A outer s H vs Q E hr h => ?_)
  · obtain ⟨a, ns, rfl, _⟩ := h
    rfl
  · obtain ⟨d, sA, rfl, D0, q⟩ := h
    refine ⟨_, (pss_cons (ps_set (i := 1) sc_L_paint.nd rfl (Or.inl rfl) (pe_fk F_L_draw (hr.mono (by decide)) (by rfl) pass0 (pa_cons (pv 0) (pa_cons pe_int pa_nil))))
    (pss_cons (ps_if (pt_cmpR op_eq (pv 1) pe_int (nomark _))
      (pss_one (ps_ret (pe_tup (pa_cons pe_str (pa_cons (pe_fk F_L_draw (hr.mono (by decide)) (by rfl) pass0 (pa_cons (pv 0) (pa_cons pe_int pa_nil))) (pa_cons (pe_fk F_L_draw (hr.mono (by decide)) (by rfl) pass0 (pa_cons (pv 0) (pa_cons pe_int pa_nil))) (pa_cons (pe_op op_add pe_int (pe_fk F_L_draw (hr.mono (by decide)) (by rfl) pass0 (pa_cons (pv 0) (pa_cons pe_int pa_nil)))) pa_nil)))))))
      pss_nil)
    (pss_cons (ps_if (pt_cmpR op_eq (pv 1) pe_int (nomark _))
      (pss_cons (ps_set (i := 2) sc_L_paint.nd rfl (Or.inl rfl) (pe_op op_add pe_int (pe_fk F_L_draw (hr.mono (by decide)) (by rfl) pass0 (pa_cons (pv 0) (pa_cons pe_int pa_nil)))))
      (pss_cons (ps_set (i := 3) sc_L_paint.nd rfl (Or.inl rfl) (pe_op op_add pe_int (pe_fk F_L_draw (hr.mono (by decide)) (by rfl) pass0 (pa_cons (pv 0) (pa_cons pe_int pa_nil)))))
      (pss_cons (ps_set (i := 4) sc_L_paint.nd rfl (Or.inl rfl) (pe_callTy call_tuple_of (by rfl) T.z_tuple (by decide +kernel) (pa_cons (pe_lc (own := [("_law_k", 5)]) (g := gName 5) rfl sc_L_paint.nd (pi_range1 (by rfl) T.z_range (pa_cons (pe_op op_mul (pv 2) (pv 3)) pa_nil)) (blkOk_by (N := ["_law_deck_here", "_law_kind", "_law_width", "_law_height", "_law_values", "_law_k", "_law_value"]) (sc := defScope s_L_paint) (by decide +kernel)) (fun _ _ _ _ _ => pg_name (i := 5) sc_L_paint.nd rfl (Or.inl rfl)) (fun _ _ _ _ _ => pts_nil) (fun _ _ _ _ _ => (pe_fk F_L_draw (hr.mono (by decide)) (by rfl) pass0 (pa_cons (pv 0) (pa_cons pe_int pa_nil))))) pa_nil)))
      (pss_one (ps_ret (pe_tup (pa_cons pe_str (pa_cons (pe_tup (pa_cons (pv 2) (pa_cons (pv 3) (pa_cons (pv 4) (pa_cons (pe_callTy call_tuple_of (by rfl) T.z_tuple (by decide +kernel) (pa_cons (pe_lc (own := [("_law_value", 6)]) (g := gName 6) rfl sc_L_paint.nd (pi_tup (pv 4)) (blkOk_by (N := ["_law_deck_here", "_law_kind", "_law_width", "_law_height", "_law_values", "_law_k", "_law_value"]) (sc := defScope s_L_paint) (by decide +kernel)) (fun _ _ _ _ _ => pg_name (i := 6) sc_L_paint.nd rfl (Or.inl rfl)) (fun _ _ _ _ _ => pts_nil) (fun _ _ _ _ _ => (pe_fk F_L_draw (hr.mono (by decide)) (by rfl) pass0 (pa_cons (pv 0) (pa_cons pe_int pa_nil))))) pa_nil)) pa_nil))))) pa_nil))))))))
      pss_nil)
    (pss_one (ps_ret (pe_tup (pa_cons pe_str (pa_cons (pe_op op_add (pe_op op_mul (pe_fk F_L_draw (hr.mono (by decide)) (by rfl) pass0 (pa_cons (pv 0) (pa_cons pe_int pa_nil))) pe_int) (pe_fk F_L_draw (hr.mono (by decide)) (by rfl) pass0 (pa_cons (pv 0) (pa_cons pe_int pa_nil)))) pa_nil)))))))), ?_⟩
    apply r_seq; apply r_set
    refine e_draw (val_var rfl) val_c D0 (by omega) (by omega) fun H1 kd k1 D1 b0 b1 => ?_
    apply r_seq; apply r_if; walk_at "ans"
    · intro _
      apply r_ret
      apply e_tup
      apply e_consV; walk_at "val"
      apply e_cons
      refine e_draw (val_var rfl) val_c D1 (by omega) (by omega) fun H2 v2 k2 D2 c0 c1 => ?_
      apply e_cons
      refine e_draw (val_var rfl) val_c D2 (by omega) (by omega) fun H3 v3 k3 D3 d0 d1 => ?_
      apply e_cons
      apply e_op
      apply e_val; walk_at "val"
      refine e_draw (val_var rfl) val_c D3 (by omega) (by omega) fun H4 v4 k4 D4 e0 e1 => ?_
      refine ⟨_, _, rfl, rfl, ?_⟩
      apply e_nil
      refine ⟨sz (by simp), fun p hp => ?_⟩
      exact q _ _ (.steps v2 v3 (1 + v4)) ((((k1.trans k2).trans k3).trans k4).trans (.new hp)) (D4.new hp) ⟨p, rfl, upd_same⟩ ⟨⟨c0, by omega⟩, ⟨d0, by omega⟩, by omega, by omega⟩
    · intro _
      apply r_next
      apply r_seq; apply r_if; walk_at "ans"
      · intro _
        apply r_seq; apply r_set
        apply e_op
        apply e_val; walk_at "val"
        refine e_draw (val_var rfl) val_c D1 (by omega) (by omega) fun H2 v2 k2 D2 c0 c1 => ?_
        refine ⟨_, _, rfl, rfl, ?_⟩
        apply r_seq; apply r_set
        apply e_op
        apply e_val; walk_at "val"
        refine e_draw (val_var rfl) val_c D2 (by omega) (by omega) fun H3 v3 k3 D3 d0 d1 => ?_
        refine ⟨_, _, rfl, rfl, ?_⟩
        have k03 := (k1.trans k2).trans k3
        have hwh : 1 ≤ (1 + v2) * (1 + v3) ∧ (1 + v2) * (1 + v3) ≤ 6 := by
          have a1 : v2 = 0 ∨ v2 = 1 ∨ v2 = 2 := by omega
          have a2 : v3 = 0 ∨ v3 = 1 := by omega
          rcases a1 with rfl | rfl | rfl <;> rcases a2 with rfl | rfl <;> decide
        apply r_seq; apply r_set
        apply e_cb
        apply e_cons
        apply e_lc
        apply i_rng1
        apply e_consV; walk_at "val"
        apply e_nil
        obtain ⟨N, hN⟩ : ∃ N : Int, N = (1 + v2) * (1 + v3) := ⟨_, rfl⟩
        rw [← hN] at hwh
        refine ⟨N, by rw [hN], by omega, by omega, fun D hD => ?_⟩
        refine lc_range (fun i H' => Kp (SA d) H3 H' ∧ Deck H' d sA ∧ ∃ acc : List Int, H' D = some (.lst (acc.map V.int)) ∧ acc.length = i ∧ ∀ v ∈ acc, 0 ≤ v ∧ v ≤ 255) ⟨.new hD, D3.new hD, [], upd_same, rfl, fun v hv => by cases hv⟩ (fun i H' hi h => ?_) (fun H' h => ?_)
        · obtain ⟨kk, Dk, acc, hl, hal, hav⟩ := h
          refine ⟨rfl, ?_⟩
          apply e_yes
          apply iteT
          refine e_draw (val_var rfl) val_c Dk (by omega) (by omega) fun H5 v5 k5 D5 f0 f1 => ?_
          have hl5 := k5.all _ _ (fun z => (D3.ne hD).1 z.symm) hl
          obtain ⟨z1, z2, z3⟩ := draws_lc (v := v5) hD D3 (kk.trans k5) D5 hl5
          refine ⟨_, hl5, small1000 (by rw [List.length_map]; omega), z1, z2, _, z3, by simp [hal], fun v hv => ?_⟩
          rcases List.mem_append.mp hv with hv | hv
          · exact hav v hv
          · rw [List.mem_singleton.mp hv]
            omega
        · obtain ⟨kk, Dk, acc, hl, hal, hav⟩ := h
          apply e_nil
          refine ⟨D, _, rfl, .inl ⟨.of hl, fun pv hpv => ?_⟩⟩
          have k6 := k03.trans (kk.trans (.new hpv (o := .tup (acc.map V.int))))
          have D6 := Dk.new hpv (o := .tup (acc.map V.int))
          have hv6 := @upd_same H' pv (.tup (acc.map V.int))
          revert hv6 D6 k6
          generalize upd H' pv (.tup (acc.map V.int)) = H6
          intro k6 D6 hv6
          apply r_ret
          apply e_tup
          apply e_consV; walk_at "val"
          apply e_cons
          apply e_tup
          apply e_consV; walk_at "val"
          apply e_consV; walk_at "val"
          apply e_consV; walk_at "val"
          apply e_cons
          apply e_cb
          apply e_cons
          apply e_lc
          apply i_tup
          apply e_val; walk_at "val"
          refine ⟨pv, rfl, ⟨_, .of hv6⟩, fun D' hD' => ?_⟩
          refine lc_tup (xs := acc.map V.int) (fun i H' => Kp (SA d) H6 H' ∧ Deck H' d sA ∧ ∃ bcc : List Int, H' D' = some (.lst (bcc.map V.int)) ∧ bcc.length = i ∧ ∀ v ∈ bcc, 0 ≤ v ∧ v ≤ 256) ⟨.new hD', D6.new hD', [], upd_same, rfl, fun v hv => by cases hv⟩ (fun i H' _ h => .of (h.1.tup _ _ hv6)) (fun i x H' hxi h => ?_) (fun H' h => ?_)
          · obtain ⟨kk, Dk, bcc, hl, hbl, hbv⟩ := h
            have hi := (List.getElem?_eq_some_iff.mp hxi).1
            rw [List.length_map] at hi
            refine ⟨rfl, ?_⟩
            apply e_yes
            apply iteT
            refine e_draw (val_var rfl) val_c Dk (by omega) (by omega) fun H5 v5 k5 D5 f0 f1 => ?_
            have hl5 := k5.all _ _ (fun z => (D6.ne hD').1 z.symm) hl
            obtain ⟨z1, z2, z3⟩ := draws_lc (v := v5) hD' D6 (kk.trans k5) D5 hl5
            refine ⟨_, hl5, small1000 (by rw [List.length_map]; omega), z1, z2, _, z3, by simp [hbl], fun v hv => ?_⟩
            rcases List.mem_append.mp hv with hv | hv
            · exact hbv v hv
            · rw [List.mem_singleton.mp hv]
              omega
          · obtain ⟨kk7, Dk7, bcc, hl7, hbl, hbv⟩ := h
            rw [List.length_map] at hbl
            apply e_nil
            refine ⟨D', _, rfl, .inl ⟨.of hl7, fun pc hpc => ?_⟩⟩
            have k8 := kk7.trans (.new hpc (o := .tup (bcc.map V.int)))
            have hv8 := k8.tup _ _ hv6
            have D8 := Dk7.new hpc (o := .tup (bcc.map V.int))
            have hc8 := @upd_same H' pc (.tup (bcc.map V.int))
            revert hc8 D8 hv8 k8
            generalize upd H' pc (.tup (bcc.map V.int)) = H8
            intro k8 hv8 D8 hc8
            apply e_nil
            refine ⟨sz (by simp), fun p1 hp1 => ?_⟩
            apply e_nil
            refine ⟨sz (by simp), fun p2 hp2 => ?_⟩
            have K9 : Kp S0 H8 (upd H8 p1 (.tup [.int (1 + v2), .int (1 + v3), .ref pv, .ref pc])) := .new hp1
            have K10 := Kp.new (S := S0) (o := .tup [.str "picture", .ref p1]) hp2
            refine q _ (.ref p2) (.pic (1 + v2) (1 + v3) acc bcc) ((k6.trans k8).trans (K9.trans K10).ofS0) (D8.kp (K9.trans K10)) ⟨p2, p1, pv, pc, rfl, upd_same, K10.tup _ _ upd_same, (K9.trans K10).tup _ _ hv8, (K9.trans K10).tup _ _ hc8⟩ ?_
            refine ⟨⟨by omega, by omega⟩, ⟨by omega, by omega⟩, ⟨?_, hav⟩, ?_, hbv⟩
            · rw [← hN, hal]
              omega
            · rw [← hN, hbl, hal]
              omega
      · intro _
        apply r_next
        apply r_ret
        apply e_tup
        apply e_consV; walk_at "val"
        apply e_cons
        apply e_op
        apply e_op
        refine e_draw (val_var rfl) val_c D1 (by omega) (by omega) fun H2 v2 k2 D2 c0 c1 => ?_
        apply e_val; walk_at "val"
        refine ⟨_, _, rfl, rfl, .inr ⟨by omega, by omega⟩, ?_⟩
        refine e_draw (val_var rfl) val_c D2 (by omega) (by omega) fun H3 v3 k3 D3 d0 d1 => ?_
        refine ⟨_, _, rfl, rfl, ?_⟩
        apply e_nil
        refine ⟨sz (by simp), fun p hp => ?_⟩
        exact q _ _ (.solid (v2 * 60 + v3)) (((k1.trans k2).trans k3).trans (.new hp)) (D3.new hp) ⟨p, rfl, upd_same⟩ ⟨by omega, by omega⟩
end
end K34
end

section
set_option Elab.async false
set_option linter.all false
set_option maxRecDepth 100000
set_option maxHeartbeats 4000000
namespace K34
open PySem PySem.Spec PyProof.Rows L2 LamX
local macro_rules | `(tactic| walk_at "leaf") => `(tactic| first
  | exact fun Q q => ⟨_, _, rfl, rfl, q⟩
  | exact fun Q q => ⟨rfl, q⟩
  | exact fun Q q => .inl ⟨_, rfl, q⟩
  | exact fun Q q => ⟨_, rfl, q⟩
  | exact fun Q q => ⟨_, _, rfl, q⟩
  | exact ixt (by assumption) rfl
  | exact ixl (by assumption) rfl
  | exact isi_tt (by assumption)
  | exact isi_ii
  | exact isi_ib
  | exact len_t (by assumption)
  | exact len_l (by assumption)
  | exact isi_ll (by assumption)
  | exact isi_tl (by assumption)
  | exact fun Q q => ⟨_, _, rfl, rfl, by first | exact .inl ⟨by omega, by omega⟩ | exact .inr ⟨by omega, by omega⟩ | (refine ⟨?_, ?_⟩ <;> omega) | omega, q⟩)
local macro_rules | `(tactic| walk_at "val") => `(tactic| first
  | exact val_var rfl
  | exact val_c
  | ((with_reducible apply val_op); (walk_at "val"); (walk_at "val"); (walk_at "leaf"))
  | ((with_reducible apply val_cb1); (walk_at "val"); (walk_at "leaf"))
  | ((with_reducible apply val_cb2); (walk_at "val"); (walk_at "val"); (walk_at "leaf"))
  | ((with_reducible apply val_chain); (walk_at "val"); (walk_at "val"); (walk_at "leaf"); (walk_at "val"); (walk_at "leaf"))
  | ((with_reducible apply val_and); (walk_at "val"); (intro _); (walk_at "val"))
  | ((with_reducible apply val_or); (walk_at "val"); (intro _); (walk_at "val"))
  | ((with_reducible apply val_not); (walk_at "val"))
  | ((with_reducible apply val_un); (walk_at "val"); (walk_at "leaf"))
  | ((with_reducible apply val_call1); (walk_at "val"); (walk_at "spec"))
  | ((with_reducible apply val_call2); (walk_at "val"); (walk_at "val"); (walk_at "spec"))
  | ((with_reducible apply val_call3); (walk_at "val"); (walk_at "val"); (walk_at "val"); (walk_at "spec")))
local macro_rules | `(tactic| walk_at "ans") => `(tactic| first
  | ((with_reducible apply ans_t); (walk_at "val"))
  | ((with_reducible apply ans_val); (walk_at "val"))
  | ((with_reducible apply ans_not); (walk_at "ans"))
  | ((with_reducible apply ans_and3); (walk_at "ans"); (intro _); (walk_at "ans"))
  | ((with_reducible apply ans_or3); (walk_at "ans"); (intro _); (walk_at "ans")))
local macro_rules | `(tactic| walk_at "spec") => `(tactic| first
  | exact fun Q q => ⟨_, _, rfl, by assumption, q⟩
  | exact fun Q q => ⟨_, _, _, rfl, q⟩
  | exact fun Q q => ⟨_, _, rfl, by assumption, by assumption, q⟩
  | exact fun Q q => ⟨_, _, _, rfl, by assumption, by assumption, q⟩)

/-- if draw(deck, b) == m: .. -/
theorem r_ifD {σ : L2.St} {H : Hp} {E : XK} {td tb : TE} {d s : Addr} {b m : Int} {n : L2.St → Hp → Prop} {rt : VK} {bk ct : L2.St → Hp → Prop} {t1 t2 : TS} (P : L2.St → Hp → Prop) (hd : Val td σ H (.ref d)) (hb : Val tb σ H (.int b)) (D : Deck H d s) (h0 : 0 < b) (h1 : b < 1000000) (fin : ∀ σ' H', P σ' H' → n σ' H')
    (y : ∀ H', Kp (SA d) H H' → Deck H' d s → (∀ σ' H', P σ' H' → n σ' H') → t1 ⟨n, rt, bk, ct⟩ σ H') (z : ∀ H', Kp (SA d) H H' → Deck H' d s → (∀ σ' H', P σ' H' → n σ' H') → t2 ⟨n, rt, bk, ct⟩ σ H') :
    tIfS (tTest (tOp rEq (tCall spDraw [] E (tCons td (tCons tb tNil))) (tC (.int m)))) t1 t2 ⟨n, rt, bk, ct⟩ σ H := by
  refine r_ifH (e_test (e_op (e_draw hd hb D h0 h1 fun H' v k D' v0 v1 => e_val val_c ⟨rfl, _, rfl, ?_⟩)))
  by_cases e : V.int v = V.int m
  · rw [decide_eq_true e]
    exact iteT (y H' k D' fin)
  · rw [decide_eq_false e]
    exact iteF (z H' k D' fin)
section
variable {P : Program} {w : World} {K : PySem.W.Frag} {mg : Str → Option Value} {base : Heap}
def spLClip : Sp := fun vs H Q _ => ∃ d s st adj, vs = [.ref d, .int st, .bl adj] ∧ Deck H d s ∧ 0 ≤ st ∧ ∀ H' v c, Kp (SA d) H H' → Deck H' d s → ClipAt H' v c → c.s = st → COk adj (st + 314) c → Q v H'
theorem ok_Lclip (T : Tx K mg) : FK P w K mg base CX0 3 "_law_clip" ["_law_deck_here", "_law_start", "_law_adjusts"] spLClip := by
  have F_L_draw := ok_draw (P := P) (w := w) (base := base) T
  have F_L_paint := ok_Lpaint (P := P) (w := w) (base := base) T
  refine fk0 T.d_L_clip T.g_L_clip sc_L_clip (fun vs H Q E h => ?_) (fun _ _ _ _ _ _ us hl => match us, hl with | [_, _, _], _ => rfl) (fun cdv A outer s H vs Q E hr h => ?_)
  · obtain ⟨a, ns, st, adj, rfl, _⟩ := h
    rfl
  · obtain ⟨d, sA, st, adj, rfl, D0, st0, q⟩ := h
    refine ⟨_, (pss_cons (ps_set (i := 3) sc_L_clip.nd rfl (Or.inl rfl) (pe_op op_add pe_int (pe_fk F_L_draw (hr.mono (by decide)) (by rfl) pass0 (pa_cons (pv 0) (pa_cons pe_int pa_nil)))))
    (pss_cons (ps_if (pt_cmpR op_eq (pe_fk F_L_draw (hr.mono (by decide)) (by rfl) pass0 (pa_cons (pv 0) (pa_cons pe_int pa_nil))) pe_int (nomark _))
      (pss_one (ps_set (i := 3) sc_L_clip.nd rfl (Or.inl rfl) (pe_op op_add (pv 3) (pe_fk F_L_draw (hr.mono (by decide)) (by rfl) pass0 (pa_cons (pv 0) (pa_cons pe_int pa_nil))))))
      pss_nil)
    (pss_cons (ps_if (pt_val (pv 2))
      (pss_one (ps_ret (pe_tup (pa_cons (pv 1) (pa_cons (pv 3) (pa_cons pe_non (pa_cons pe_int (pa_cons pe_int pa_nil))))))))
      pss_nil)
    (pss_cons (ps_set (i := 4) sc_L_clip.nd rfl (Or.inl rfl) pe_int)
    (pss_cons (ps_set (i := 5) sc_L_clip.nd rfl (Or.inl rfl) pe_int)
    (pss_cons (ps_if (pt_cmpR op_eq (pe_fk F_L_draw (hr.mono (by decide)) (by rfl) pass0 (pa_cons (pv 0) (pa_cons pe_int pa_nil))) pe_int (nomark _))
      (pss_one (ps_set (i := 4) sc_L_clip.nd rfl (Or.inl rfl) (pe_fk F_L_draw (hr.mono (by decide)) (by rfl) pass0 (pa_cons (pv 0) (pa_cons (pe_op op_add (pe_callB (call_min2 rfl) (by rfl) T.z_min (by decide +kernel) (pa_cons (pv 3) (pa_cons pe_int pa_nil))) pe_int) pa_nil)))))
      pss_nil)
    (pss_cons (ps_if (pt_cmpR op_eq (pe_fk F_L_draw (hr.mono (by decide)) (by rfl) pass0 (pa_cons (pv 0) (pa_cons pe_int pa_nil))) pe_int (nomark _))
      (pss_one (ps_set (i := 5) sc_L_clip.nd rfl (Or.inl rfl) (pe_fk F_L_draw (hr.mono (by decide)) (by rfl) pass0 (pa_cons (pv 0) (pa_cons (pe_op op_add (pe_callB (call_min2 rfl) (by rfl) T.z_min (by decide +kernel) (pa_cons (pe_op op_sub (pv 3) (pv 4)) (pa_cons pe_int pa_nil))) pe_int) pa_nil)))))
      pss_nil)
    (pss_one (ps_ret (pe_tup (pa_cons (pv 1) (pa_cons (pv 3) (pa_cons (pe_fk F_L_paint (hr.mono (by decide)) (by rfl) pass0 (pa_cons (pv 0) pa_nil)) (pa_cons (pv 4) (pa_cons (pv 5) pa_nil))))))))))))))), ?_⟩
    apply r_seq; apply r_set
    apply e_op
    apply e_val; walk_at "val"
    refine e_draw (val_var rfl) val_c D0 (by omega) (by omega) fun H1 v1 k1 D1 b0 b1 => ?_
    refine ⟨_, _, rfl, rfl, ?_⟩
    apply r_seq
    refine r_ifD (fun σ' H' => ∃ n, σ' = [some (.ref d), some (.int st), some (.bl adj), some (.int n), none, none] ∧ 1 ≤ n ∧ n ≤ 313 ∧ Kp (SA d) H H' ∧ Deck H' d sA) (val_var rfl) val_c D1 (by omega) (by omega) ?_ (fun H2 k2 D2 fin => ?_) (fun H2 k2 D2 fin => ?_)
    · rintro σ2 H2 ⟨n, rfl, n0, n1, k2, D2⟩
      apply r_seq; apply r_if; walk_at "ans"
      · intro hb
        apply r_ret
        apply e_tup
        apply e_consV; walk_at "val"
        apply e_consV; walk_at "val"
        apply e_consV; walk_at "val"
        apply e_consV; walk_at "val"
        apply e_consV; walk_at "val"
        apply e_nil
        refine ⟨sz (by simp), fun p hp => ?_⟩
        refine q _ _ ⟨st, n, none, 0, 0⟩ (k2.trans (.new hp)) (D2.new hp) ⟨p, .non, rfl, upd_same, rfl⟩ rfl ⟨st0, n0, ?_, Int.le_refl _, Int.le_refl _, ?_, fun _ => ⟨rfl, rfl, rfl⟩, fun e => ?_⟩
        · show st + n ≤ st + 314
          omega
        · show (0 : Int) + 0 ≤ n
          omega
        · rw [hb] at e
          cases e
      · intro hb
        apply r_next
        apply r_seq; apply r_setV; walk_at "val"
        apply r_seq; apply r_setV; walk_at "val"
        apply r_seq
        refine r_ifD (fun σ' H' => ∃ f, σ' = [some (.ref d), some (.int st), some (.bl adj), some (.int n), some (.int f), some (.int 0)] ∧ 0 ≤ f ∧ f ≤ n ∧ Kp (SA d) H H' ∧ Deck H' d sA) (val_var rfl) val_c D2 (by omega) (by omega) ?_ (fun H3 k3 D3 fin => ?_) (fun H3 k3 D3 fin => ?_)
        · rintro σ3 H3 ⟨f, rfl, f0, f1, k3, D3⟩
          apply r_seq
          refine r_ifD (fun σ' H' => ∃ l, σ' = [some (.ref d), some (.int st), some (.bl adj), some (.int n), some (.int f), some (.int l)] ∧ 0 ≤ l ∧ f + l ≤ n ∧ Kp (SA d) H H' ∧ Deck H' d sA) (val_var rfl) val_c D3 (by omega) (by omega) ?_ (fun H4 k4 D4 fin => ?_) (fun H4 k4 D4 fin => ?_)
          · rintro σ4 H4 ⟨l, rfl, l0, l1, k4, D4⟩
            apply r_ret
            apply e_tup
            apply e_consV; walk_at "val"
            apply e_consV; walk_at "val"
            apply e_cons
            apply e_call
            apply e_consV; walk_at "val"
            apply e_nil
            refine ⟨d, sA, rfl, D4, fun H5 v5 p5 k5 D5 hp5 ok5 => ?_⟩
            apply e_consV; walk_at "val"
            apply e_consV; walk_at "val"
            apply e_nil
            refine ⟨sz (by simp), fun p hp => ?_⟩
            refine q _ _ ⟨st, n, some p5, f, l⟩ ((k4.trans k5).trans (.new hp)) (D5.new hp) ⟨p, v5, rfl, upd_same, hp5.kp (.new hp : Kp S0 H5 _)⟩ rfl ⟨st0, n0, ?_, f0, l0, l1, fun e => ?_, fun _ => ⟨_, rfl, ok5⟩⟩
            · show st + n ≤ st + 314
              omega
            · rw [hb] at e
              cases e
          · apply r_set
            refine e_draw (b := (if (12 : Int) < n - f then 12 else n - f) + 1) (val_var rfl) ?_ D4 (by split <;> omega) (by split <;> omega) fun H5 v5 k5 D5 g0 g1 => ?_
            · walk_at "val"
            · exact fin _ _ ⟨v5, rfl, g0, by revert g1; split <;> intro g1 <;> omega, (k3.trans k4).trans k5, D5⟩
          · apply r_next
            exact fin _ _ ⟨0, rfl, Int.le_refl _, by omega, k3.trans k4, D4⟩
        · apply r_set
          refine e_draw (b := (if (12 : Int) < n then 12 else n) + 1) (val_var rfl) ?_ D3 (by split <;> omega) (by split <;> omega) fun H5 v5 k5 D5 g0 g1 => ?_
          · walk_at "val"
          · exact fin _ _ ⟨v5, rfl, g0, by revert g1; split <;> intro g1 <;> omega, (k2.trans k3).trans k5, D5⟩
        · apply r_next
          exact fin _ _ ⟨0, rfl, Int.le_refl _, by omega, k2.trans k3, D3⟩
    · apply r_set
      apply e_op
      apply e_val; walk_at "val"
      refine e_draw (val_var rfl) val_c D2 (by omega) (by omega) fun H3 v3 k3 D3 g0 g1 => ?_
      refine ⟨_, _, rfl, rfl, ?_⟩
      exact fin _ _ ⟨_, rfl, by show 1 ≤ 1 + v1 + v3; omega, by show 1 + v1 + v3 ≤ 313; omega, (k1.trans k2).trans k3, D3⟩
    · apply r_next
      exact fin _ _ ⟨_, rfl, by show 1 ≤ 1 + v1; omega, by show 1 + v1 ≤ 313; omega, k1.trans k2, D2⟩
end
end K34
end

section
set_option Elab.async false
set_option linter.all false
set_option maxRecDepth 100000
set_option maxHeartbeats 4000000
namespace K34
open PySem PySem.Spec PyProof.Rows L2 LamX
local macro_rules | `(tactic| walk_at "leaf") => `(tactic| first
  | exact fun Q q => ⟨_, _, rfl, rfl, q⟩
  | exact fun Q q => ⟨rfl, q⟩
  | exact fun Q q => .inl ⟨_, rfl, q⟩
  | exact fun Q q => ⟨_, rfl, q⟩
  | exact fun Q q => ⟨_, _, rfl, q⟩
  | exact ixt (by assumption) rfl
  | exact ixl (by assumption) rfl
  | exact isi_tt (by assumption)
  | exact isi_ii
  | exact isi_ib
  | exact len_t (by assumption)
  | exact len_l (by assumption)
  | exact isi_ll (by assumption)
  | exact isi_tl (by assumption)
  | exact fun Q q => ⟨_, _, rfl, rfl, by first | exact .inl ⟨by omega, by omega⟩ | exact .inr ⟨by omega, by omega⟩ | (refine ⟨?_, ?_⟩ <;> omega) | omega, q⟩)
local macro_rules | `(tactic| walk_at "val") => `(tactic| first
  | exact val_var rfl
  | exact val_c
  | ((with_reducible apply val_op); (walk_at "val"); (walk_at "val"); (walk_at "leaf"))
  | ((with_reducible apply val_cb1); (walk_at "val"); (walk_at "leaf"))
  | ((with_reducible apply val_cb2); (walk_at "val"); (walk_at "val"); (walk_at "leaf"))
  | ((with_reducible apply val_chain); (walk_at "val"); (walk_at "val"); (walk_at "leaf"); (walk_at "val"); (walk_at "leaf"))
  | ((with_reducible apply val_and); (walk_at "val"); (intro _); (walk_at "val"))
  | ((with_reducible apply val_or); (walk_at "val"); (intro _); (walk_at "val"))
  | ((with_reducible apply val_not); (walk_at "val"))
  | ((with_reducible apply val_un); (walk_at "val"); (walk_at "leaf"))
  | ((with_reducible apply val_call1); (walk_at "val"); (walk_at "spec"))
  | ((with_reducible apply val_call2); (walk_at "val"); (walk_at "val"); (walk_at "spec"))
  | ((with_reducible apply val_call3); (walk_at "val"); (walk_at "val"); (walk_at "val"); (walk_at "spec")))
local macro_rules | `(tactic| walk_at "ans") => `(tactic| first
  | ((with_reducible apply ans_t); (walk_at "val"))
  | ((with_reducible apply ans_val); (walk_at "val"))
  | ((with_reducible apply ans_not); (walk_at "ans"))
  | ((with_reducible apply ans_and3); (walk_at "ans"); (intro _); (walk_at "ans"))
  | ((with_reducible apply ans_or3); (walk_at "ans"); (intro _); (walk_at "ans")))
local macro_rules | `(tactic| walk_at "spec") => `(tactic| first
  | exact fun Q q => ⟨_, _, rfl, by assumption, q⟩
  | exact fun Q q => ⟨_, _, _, rfl, q⟩
  | exact fun Q q => ⟨_, _, rfl, by assumption, by assumption, q⟩
  | exact fun Q q => ⟨_, _, _, rfl, by assumption, by assumption, q⟩)

theorem r_ifAD {σ : L2.St} {H : Hp} {E : XK} {td tb : TE} {t : TT} {d s : Addr} {b m : Int} {c : Bool} {n : L2.St → Hp → Prop} {rt : VK} {bk ct : L2.St → Hp → Prop} {t1 t2 : TS} (P : L2.St → Hp → Prop) (ht : Ans t σ H c) (hd : Val td σ H (.ref d)) (hb : Val tb σ H (.int b)) (D : Deck H d s) (h0 : 0 < b) (h1 : b < 1000000) (fin : ∀ σ' H', P σ' H' → n σ' H')
    (y : c = true → ∀ H', Kp (SA d) H H' → Deck H' d s → (∀ σ' H', P σ' H' → n σ' H') → t1 ⟨n, rt, bk, ct⟩ σ H') (z : ∀ H', Kp (SA d) H H' → Deck H' d s → (∀ σ' H', P σ' H' → n σ' H') → t2 ⟨n, rt, bk, ct⟩ σ H') :
    tIfS (tAnd t (tTest (tOp rEq (tCall spDraw [] E (tCons td (tCons tb tNil))) (tC (.int m))))) t1 t2 ⟨n, rt, bk, ct⟩ σ H := by
  refine r_ifH (ht _ ?_)
  cases c with
  | false => exact iteF (iteF (z H (.refl _ _) D fin))
  | true =>
    refine iteT (e_test (e_op (e_draw hd hb D h0 h1 fun H' v k D' v0 v1 => e_val val_c ⟨rfl, _, rfl, ?_⟩)))
    by_cases e : V.int v = V.int m
    · rw [decide_eq_true e]
      exact iteT (y rfl H' k D' fin)
    · rw [decide_eq_false e]
      exact iteF (z H' k D' fin)
theorem COk.mono {adj : Bool} {B B' : Int} {c : Clip} (h : COk adj B c) (l : B ≤ B') : COk adj B' c := ⟨h.s0, h.n1, Int.le_trans h.eB l, h.a0, h.b0, h.ab, h.yes, h.no⟩
theorem lane_drop {cs : List Clip} {f : Int} {i : Nat} {c : Clip} (h : cs[i]? = some c) : lane (cs.drop i) f = if at_ c f then some (c.p, level c f) else lane (cs.drop (i + 1)) f := by
  obtain ⟨hi, e⟩ := List.getElem?_eq_some_iff.mp h
  rw [List.drop_eq_getElem_cons hi, e]
  rfl
/-- the clip c with the paint of e -/
def repaint (c e : Clip) : Clip := ⟨c.s, c.n, e.p, c.a, c.b⟩
theorem COk.re {adj : Bool} {B B' : Int} {c e : Clip} (h : COk adj B c) (h' : COk adj B' e) : COk adj B (repaint c e) := ⟨h.s0, h.n1, h.eB, h.a0, h.b0, h.ab, fun q => ⟨(h'.yes q).1, (h.yes q).2⟩, h'.no⟩
section
variable {P : Program} {w : World} {K : PySem.W.Frag} {mg : Str → Option Value} {base : Heap}
theorem ok_Lend (T : Tx K mg) : FK P w K mg base CX0 1 "_law_end" ["_law_clip_here"] spEnd := by
  refine fk0 T.d_L_end T.g_L_end sc_L_end (fun vs H Q E h => ?_) (fun _ _ _ _ _ _ us hl => match us, hl with | [_], _ => rfl) (fun cdv A outer s H vs Q E hr h => ?_)
  · obtain ⟨a, ns, rfl, _⟩ := h
    rfl
  · obtain ⟨v, c, rfl, hc, q⟩ := h
    obtain ⟨ac, u, rfl, hac, hpu⟩ := id hc
    refine ⟨_, (pss_one (ps_ret (pe_op op_add (pe_ix (r := rIxT K) ix_tup (pv 0) pe_int (fun _ _ => rfl)) (pe_ix (r := rIxT K) ix_tup (pv 0) pe_int (fun _ _ => rfl))))), ?_⟩
    apply r_retV; walk_at "val"
    exact q
theorem ok_Llevel (T : Tx K mg) : FK P w K mg base CX0 2 "_law_level" ["_law_clip_here", "_law_frame_here"] spLevel := by
  have F_L_end := ok_Lend (P := P) (w := w) (base := base) T
  refine fk0 T.d_L_level T.g_L_level sc_L_level (fun vs H Q E h => ?_) (fun _ _ _ _ _ _ us hl => match us, hl with | [_, _], _ => rfl) (fun cdv A outer s H vs Q E hr h => ?_)
  · obtain ⟨a, ns, f, rfl, _⟩ := h
    rfl
  · obtain ⟨v, c, f, rfl, hc, ⟨a0, a1, b0, b1⟩, q⟩ := h
    obtain ⟨a, u, rfl, ha, hp⟩ := id hc
    refine ⟨_, (pss_cons (ps_set (i := 2) sc_L_level.nd rfl (Or.inl rfl) (pe_op op_sub (pv 1) (pe_ix (r := rIxT K) ix_tup (pv 0) pe_int (fun _ _ => rfl))))
    (pss_cons (ps_set (i := 3) sc_L_level.nd rfl (Or.inl rfl) (pe_op op_sub (pe_op op_sub (pe_fk F_L_end (hr.mono (by decide)) (by rfl) pass0 (pa_cons (pv 0) pa_nil)) pe_int) (pv 1)))
    (pss_cons (ps_if (pt_cmpR op_lt (pv 2) (pe_ix (r := rIxT K) ix_tup (pv 0) pe_int (fun _ _ => rfl)) (nomark _))
      (pss_one (ps_ret (pe_op op_fdivN (pe_op op_mul pe_int (pe_op op_add (pv 2) pe_int)) (pe_op op_add (pe_ix (r := rIxT K) ix_tup (pv 0) pe_int (fun _ _ => rfl)) pe_int))))
      pss_nil)
    (pss_cons (ps_if (pt_cmpR op_lt (pv 3) (pe_ix (r := rIxT K) ix_tup (pv 0) pe_int (fun _ _ => rfl)) (nomark _))
      (pss_one (ps_ret (pe_op op_fdivN (pe_op op_mul pe_int (pe_op op_add (pv 3) pe_int)) (pe_op op_add (pe_ix (r := rIxT K) ix_tup (pv 0) pe_int (fun _ _ => rfl)) pe_int))))
      pss_nil)
    (pss_one (ps_ret pe_int)))))), ?_⟩
    apply r_seq; apply r_setV; walk_at "val"
    apply r_seq; apply r_setV; walk_at "val"
    apply r_seq; apply r_if; walk_at "ans"
    · intro h1
      have h1 := of_decide_eq_true h1
      apply r_retV; walk_at "val"
      have e : level c f = (256 * (f - c.s + 1)).fdiv (c.a + 1) := if_pos h1
      rw [e] at q
      exact q
    · intro h1
      have h1 := of_decide_eq_false h1
      apply r_next
      apply r_seq; apply r_if; walk_at "ans"
      · intro h2
        have h2 := of_decide_eq_true h2
        apply r_retV; walk_at "val"
        have e : level c f = (256 * (c.e - 1 - f + 1)).fdiv (c.b + 1) := (if_neg h1).trans (if_pos h2)
        rw [e] at q
        exact q
      · intro h2
        have h2 := of_decide_eq_false h2
        apply r_next
        apply r_retV; walk_at "val"
        have e : level c f = 256 := (if_neg h1).trans (if_neg h2)
        rw [e] at q
        exact q
theorem ok_Llane (T : Tx K mg) : FK P w K mg base CX0 3 "_law_lane" ["_law_clips_here", "_law_frame_here"] spLane := by
  have F_L_end := ok_Lend (P := P) (w := w) (base := base) T
  have F_L_level := ok_Llevel (P := P) (w := w) (base := base) T
  refine fk0 T.d_L_lane T.g_L_lane sc_L_lane (fun vs H Q E h => ?_) (fun _ _ _ _ _ _ us hl => match us, hl with | [_, _], _ => rfl) (fun cdv A outer s H vs Q E hr h => ?_)
  · obtain ⟨a, cs, f, rfl, _⟩ := h
    rfl
  · obtain ⟨a, cs, f, rfl, ⟨xs, ha, hx⟩, hb, q⟩ := h
    have hlen : xs.length = cs.length := Paired.length hx
    refine ⟨_, (pss_cons (ps_for PassesOwn.never rfl (pi_tup (pv 0)) (pg_name (i := 2) sc_L_lane.nd rfl (Or.inl rfl))
      (pss_one (ps_if (PW.pt (pw_and (pt_cmpR op_le (pe_ix (r := rIxT K) ix_tup (pv 2) pe_int (fun _ _ => rfl)) (pv 1) (nomark _)) (pw_and1 (pt_cmpR op_lt (pv 1) (pe_fk F_L_end (hr.mono (by decide)) (by rfl) pass0 (pa_cons (pv 2) pa_nil)) (nomark _)))))
        (pss_one (ps_ret (pe_tup (pa_cons (pe_ix (r := rIxT K) ix_tup (pv 2) pe_int (fun _ _ => rfl)) (pa_cons (pe_fk F_L_level (hr.mono (by decide)) (by rfl) pass0 (pa_cons (pv 2) (pa_cons (pv 1) pa_nil))) pa_nil)))))
        pss_nil)))
    (pss_one (ps_ret pe_non))), ?_⟩
    apply r_seq; apply r_for
    apply i_tup
    apply e_val; walk_at "val"
    refine ⟨a, rfl, ⟨_, .of ha⟩, ?_⟩
    refine for_tupR (xs := xs) (fun i σ' H' => ∃ y, σ' = [some (.ref a), some (.int f), y] ∧ H' = H ∧ lane cs f = lane (cs.drop i) f) ⟨none, rfl, rfl, rfl⟩ (fun i σ' H' _ ⟨_, _, e, _⟩ => by rw [e]; exact .of ha) (fun i x σ' H' hxi h => ?_) (fun σ' H' h => ?_)
    · obtain ⟨y, rfl, rfl, el⟩ := h
      obtain ⟨c, hc, hxc⟩ := Pd.get hx hxi
      have hbc := hb c (List.mem_of_getElem? hc)
      obtain ⟨ac, u, rfl, hac, hpu⟩ := id hxc
      rw [lane_drop hc] at el
      apply r_if; walk_at "ans"
      · intro hb
        have hb : at_ c f := split_tests hb
        rw [if_pos hb] at el
        apply r_ret
        apply e_tup
        apply e_consV; walk_at "val"
        apply e_cons
        apply e_call
        apply e_consV; walk_at "val"
        apply e_consV; walk_at "val"
        apply e_nil
        refine ⟨_, c, f, rfl, hxc, hbc, ?_⟩
        apply e_nil
        refine ⟨sz (by simp), fun p hp => ?_⟩
        refine q _ _ (.new hp) ?_
        rw [el]
        exact ⟨p, u, rfl, upd_same, hpu.kp (.new hp : Kp S0 _ _)⟩
      · intro hb
        have hb : ¬ at_ c f := fun z => by
          obtain ⟨z1, z2⟩ := z
          simp [z1, z2] at hb
        rw [if_neg hb] at el
        apply r_next
        exact ⟨_, rfl, rfl, el⟩
    · obtain ⟨y, rfl, rfl, el⟩ := h
      rw [List.drop_of_length_le (by omega)] at el
      apply r_retV; walk_at "val"
      exact q _ _ (.refl _ _) (by rw [el]; rfl)
end
end K34
end

section
set_option Elab.async false
set_option linter.all false
set_option maxRecDepth 100000
set_option maxHeartbeats 4000000
namespace K34
open PySem PySem.Spec PyProof.Rows L2 LamX
local macro_rules | `(tactic| walk_at "leaf") => `(tactic| first
  | exact fun Q q => ⟨_, _, rfl, rfl, q⟩
  | exact fun Q q => ⟨rfl, q⟩
  | exact fun Q q => .inl ⟨_, rfl, q⟩
  | exact fun Q q => ⟨_, rfl, q⟩
  | exact fun Q q => ⟨_, _, rfl, q⟩
  | exact ixt (by assumption) rfl
  | exact ixl (by assumption) rfl
  | exact isi_tt (by assumption)
  | exact isi_ii
  | exact isi_ib
  | exact len_t (by assumption)
  | exact len_l (by assumption)
  | exact isi_ll (by assumption)
  | exact isi_tl (by assumption)
  | exact fun Q q => ⟨_, _, rfl, rfl, by first | exact .inl ⟨by omega, by omega⟩ | exact .inr ⟨by omega, by omega⟩ | (refine ⟨?_, ?_⟩ <;> omega) | omega, q⟩)
local macro_rules | `(tactic| walk_at "val") => `(tactic| first
  | exact val_var rfl
  | exact val_c
  | ((with_reducible apply val_op); (walk_at "val"); (walk_at "val"); (walk_at "leaf"))
  | ((with_reducible apply val_cb1); (walk_at "val"); (walk_at "leaf"))
  | ((with_reducible apply val_cb2); (walk_at "val"); (walk_at "val"); (walk_at "leaf"))
  | ((with_reducible apply val_chain); (walk_at "val"); (walk_at "val"); (walk_at "leaf"); (walk_at "val"); (walk_at "leaf"))
  | ((with_reducible apply val_and); (walk_at "val"); (intro _); (walk_at "val"))
  | ((with_reducible apply val_or); (walk_at "val"); (intro _); (walk_at "val"))
  | ((with_reducible apply val_not); (walk_at "val"))
  | ((with_reducible apply val_un); (walk_at "val"); (walk_at "leaf"))
  | ((with_reducible apply val_call1); (walk_at "val"); (walk_at "spec"))
  | ((with_reducible apply val_call2); (walk_at "val"); (walk_at "val"); (walk_at "spec"))
  | ((with_reducible apply val_call3); (walk_at "val"); (walk_at "val"); (walk_at "val"); (walk_at "spec")))
local macro_rules | `(tactic| walk_at "ans") => `(tactic| first
  | ((with_reducible apply ans_t); (walk_at "val"))
  | ((with_reducible apply ans_val); (walk_at "val"))
  | ((with_reducible apply ans_not); (walk_at "ans"))
  | ((with_reducible apply ans_and3); (walk_at "ans"); (intro _); (walk_at "ans"))
  | ((with_reducible apply ans_or3); (walk_at "ans"); (intro _); (walk_at "ans")))
local macro_rules | `(tactic| walk_at "spec") => `(tactic| first
  | exact fun Q q => ⟨_, _, rfl, by assumption, q⟩
  | exact fun Q q => ⟨_, _, _, rfl, q⟩
  | exact fun Q q => ⟨_, _, rfl, by assumption, by assumption, q⟩
  | exact fun Q q => ⟨_, _, _, rfl, by assumption, by assumption, q⟩)

theorem nw5a : ¬ (HT.sIx 5 0 none = 0 ∧ HT.sIx 5 5 (some 2) = 5) := by decide
theorem nw5b : ¬ (HT.sIx 5 0 (some 3) = 0 ∧ HT.sIx 5 5 none = 5) := by decide
theorem cut5a {a b c d e : V} : cutV [a, b, c, d, e] none (some 2) = [a, b] := rfl
theorem cut5b {a b c d e : V} : cutV [a, b, c, d, e] (some 3) none = [d, e] := rfl
section
variable {P : Program} {w : World} {K : PySem.W.Frag} {mg : Str → Option Value} {base : Heap}
/-- clip[:2] + (u,) + clip[3:] -/
theorem e_repaint {σ : L2.St} {H : Hp} {Q : VK} {i : Nat} {tu : TE} {v u : V} {c : Clip} {q : Option Pt} (hi : Val (tVar i) σ H v) (hc : ClipAt H v c) (hu : ∀ H1, Kp S0 H H1 → Val tu σ H1 u) (hp : PtAt H u q) (h : ∀ H' p, Kp S0 H H' → ClipAt H' (.ref p) ⟨c.s, c.n, q, c.a, c.b⟩ → Q (.ref p) H')
    (hi2 : ∀ H1, Kp S0 H H1 → Val (tVar i) σ H1 v) : tOp (rCatA K) (tOp (rCatA K) (L2.tSl (rSlA K) (tVar i) tNoPart (tPart (tC (.int 2)))) (tTup (tCons tu tNil))) (L2.tSl (rSlA K) (tVar i) (tPart (tC (.int 3))) tNoPart) σ H Q := by
  obtain ⟨a, u0, rfl, ha, _⟩ := id hc
  apply e_op; apply e_op
  refine hi _ ⟨2, rfl, a, _, rfl, .of ha, (fun z => absurd z nw5a), fun _ p1 hp1 => ?_⟩
  rw [cut5a]
  have k1 : Kp S0 H (upd H p1 (.tup [.int c.s, .int c.n])) := .new hp1
  apply e_tup
  apply e_consV
  · exact hu _ k1
  apply e_nil
  refine ⟨sz (by simp), fun p2 hp2 => ?_⟩
  have k2 : Kp S0 (upd H p1 (.tup [.int c.s, .int c.n])) (upd (upd H p1 (.tup [.int c.s, .int c.n])) p2 (.tup [u])) := .new hp2
  refine cat1 (k2.tup _ _ upd_same) upd_same (by simp) (by simp) fun H3 p3 k3 hp3 => ?_
  have k13 := (k1.trans k2).trans k3
  refine hi2 _ k13 _ ⟨3, rfl, a, _, rfl, .of (k13.tup _ _ ha), (fun z => absurd z nw5b), fun _ p4 hp4 => ?_⟩
  rw [cut5b]
  have k4 : Kp S0 H3 (upd H3 p4 (.tup [.int c.a, .int c.b])) := .new hp4
  refine cat1 (k4.tup _ _ hp3) upd_same (by simp) (by simp) fun H5 p5 k5 hp5 => ?_
  have k15 := k13.trans (k4.trans k5)
  exact h _ _ k15 ⟨p5, u, rfl, hp5, hp.kp k15⟩
def spLClips : Sp := fun vs H Q _ => ∃ d s adj, vs = [.ref d, .int 5, .bl adj] ∧ Deck H d s ∧ ∀ H' a cs, Kp (SA d) H H' → Deck H' d s → ClipsAt H' a cs → Wf adj 7000 5 cs → Q (.ref a) H'
theorem ok_Lclips (T : Tx K mg) : FK P w K mg base CX0 4 "_law_clips" ["_law_deck_here", "_law_most", "_law_adjusts"] spLClips := by
  have F_L_draw := ok_draw (P := P) (w := w) (base := base) T
  have F_L_clip := ok_Lclip (P := P) (w := w) (base := base) T
  refine fk0 T.d_L_clips T.g_L_clips sc_L_clips (fun vs H Q E h => ?_) (fun _ _ _ _ _ _ us hl => match us, hl with | [_, _, _], _ => rfl) (fun cdv A outer s H vs Q E hr h => ?_)
  · obtain ⟨a, ns, adj, rfl, _⟩ := h
    rfl
  · obtain ⟨d, sA, adj, rfl, D0, q⟩ := h
    refine ⟨_, (pss_cons (ps_set (i := 3) sc_L_clips.nd rfl (Or.inl rfl) (pe_tup pa_nil))
    (pss_cons (ps_set (i := 4) sc_L_clips.nd rfl (Or.inl rfl) (pe_fk F_L_draw (hr.mono (by decide)) (by rfl) pass0 (pa_cons (pv 0) (pa_cons pe_int pa_nil))))
    (pss_cons (ps_if (pt_cmpR op_eq (pe_fk F_L_draw (hr.mono (by decide)) (by rfl) pass0 (pa_cons (pv 0) (pa_cons pe_int pa_nil))) pe_int (nomark _))
      (pss_one (ps_set (i := 4) sc_L_clips.nd rfl (Or.inl rfl) (pe_op op_add pe_int (pe_fk F_L_draw (hr.mono (by decide)) (by rfl) pass0 (pa_cons (pv 0) (pa_cons pe_int pa_nil))))))
      pss_nil)
    (pss_cons (ps_for PassesOwn.never rfl (pi_range1 (by rfl) T.z_range (pa_cons (pe_fk F_L_draw (hr.mono (by decide)) (by rfl) pass0 (pa_cons (pv 0) (pa_cons (pe_op op_add (pv 1) pe_int) pa_nil))) pa_nil)) (pg_name (i := 5) sc_L_clips.nd rfl (Or.inl rfl))
      (pss_cons (ps_set (i := 6) sc_L_clips.nd rfl (Or.inl rfl) (pe_fk F_L_clip (hr.mono (by decide)) (by rfl) pass0 (pa_cons (pv 0) (pa_cons (pv 4) (pa_cons (pv 2) pa_nil)))))
      (pss_cons (ps_if (PW.pt (pw_and (pt_cmpR op_gt (pv 5) pe_int (nomark _)) (pw_and1 (pt_cmpR op_eq (pe_fk F_L_draw (hr.mono (by decide)) (by rfl) pass0 (pa_cons (pv 0) (pa_cons pe_int pa_nil))) pe_int (nomark _)))))
        (pss_one (ps_set (i := 6) sc_L_clips.nd rfl (Or.inl rfl) (pe_op op_catA (pe_op op_catA (pe_slice sl_tupA (pv 6) po_none (po_some pe_int)) (pe_tup (pa_cons (pe_ix (r := rIxT K) ix_tup (pe_ix (r := rIxT K) ix_tup (pv 3) (pe_op op_sub (pv 5) pe_int) (fun _ _ => rfl)) pe_int (fun _ _ => rfl)) pa_nil))) (pe_slice sl_tupA (pv 6) (po_some pe_int) po_none))))
        pss_nil)
      (pss_cons (ps_set (i := 3) sc_L_clips.nd rfl (Or.inl rfl) (pe_op op_catA (pv 3) (pe_tup (pa_cons (pv 6) pa_nil))))
      (pss_one (ps_set (i := 4) sc_L_clips.nd rfl (Or.inl rfl) (pe_op op_add (pe_op op_add (pv 4) (pe_ix (r := rIxT K) ix_tup (pv 6) pe_int (fun _ _ => rfl))) (pe_ix (r := rIxL K) ix_list (pe_lst (pa_cons pe_int (pa_cons pe_int (pa_cons pe_int (pa_cons pe_int (pa_cons pe_int pa_nil)))))) (pe_fk F_L_draw (hr.mono (by decide)) (by rfl) pass0 (pa_cons (pv 0) (pa_cons pe_int pa_nil))) (fun _ _ => rfl)))))))))
    (pss_one (ps_ret (pv 3))))))), ?_⟩
    apply r_seq; apply r_set
    apply e_tup
    apply e_nil
    refine ⟨sz (by simp), fun a0 ha0 => ?_⟩
    have D1 := D0.new ha0 (o := .tup [])
    have k1 : Kp (SA d) H (upd H a0 (.tup [])) := .new ha0
    have hcs1 : ClipsAt (upd H a0 (.tup [])) a0 [] := ⟨[], upd_same, .nil⟩
    revert D1 k1 hcs1
    generalize upd H a0 (.tup []) = H1
    intro D1 k1 hcs1
    apply r_seq; apply r_set
    refine e_draw (val_var rfl) val_c D1 (by omega) (by omega) fun H2 v2 k2 D2 c0 c1 => ?_
    apply r_seq
    refine r_ifD (fun σ' H' => ∃ n, σ' = [some (.ref d), some (.int 5), some (.bl adj), some (.ref a0), some (.int n), none, none] ∧ 0 ≤ n ∧ n ≤ 5300 ∧ Kp (SA d) H H' ∧ Deck H' d sA ∧ ClipsAt H' a0 []) (val_var rfl) val_c D2 (by omega) (by omega) ?_ (fun H3 k3 D3 fin => ?_) (fun H3 k3 D3 fin => ?_)
    · rintro σ3 H3 ⟨n, rfl, n0, n1, k3, D3, hcs3⟩
      apply r_seq; apply r_for
      apply i_rng1
      apply e_cons
      refine e_draw (b := 5 + 1) (val_var rfl) (by walk_at "val") D3 (by omega) (by omega) fun H4 v4 k4 D4 e0 e1 => ?_
      apply e_nil
      refine ⟨v4, rfl, by omega, by omega, ?_⟩
      refine for_rangeR (fun i σ' H' => ∃ a cs m y z, σ' = [some (.ref d), some (.int 5), some (.bl adj), some (.ref a), some (.int m), y, z] ∧ Kp (SA d) H H' ∧ Deck H' d sA ∧ ClipsAt H' a cs ∧ cs.length = i ∧ 0 ≤ m ∧ m ≤ 5300 + 321 * i ∧ (∀ c ∈ cs, COk adj m c) ∧ cs.Pairwise Sep)
        ⟨a0, [], n, _, _, rfl, k3.trans k4, D4, hcs3.kp k4, rfl, n0, by omega, (fun c hc => by cases hc), .nil⟩ (fun i σ' H' hi h => ?_) (fun σ' H' h => ?_)
      · obtain ⟨a, cs, m, y, z, rfl, k5, D5, hcs5, hlen, m0, m1, hok, hsep⟩ := h
        apply r_seq; apply r_set
        apply e_call
        apply e_consV; walk_at "val"
        apply e_consV; walk_at "val"
        apply e_consV; walk_at "val"
        apply e_nil
        refine ⟨d, sA, m, adj, rfl, D5, m0, fun H6 v6 c6 k6 D6 hc6 hs6 ok6 => ?_⟩
        have hcs6 := hcs5.kp k6
        apply r_seq
        refine r_ifAD (fun σ' H' => ∃ v c, σ' = [some (.ref d), some (.int 5), some (.bl adj), some (.ref a), some (.int m), some (.int (0 + (i : Nat))), some v] ∧ Kp (SA d) H H' ∧ Deck H' d sA ∧ ClipsAt H' a cs ∧ ClipAt H' v c ∧ c.s = m ∧ COk adj (m + 314) c) (by walk_at "ans") (val_var rfl) val_c D6 (by omega) (by omega) ?_ (fun hk H7 k7 D7 fin => ?_) (fun H7 k7 D7 fin => ?_)
        · rintro σ7 H7 ⟨v, c, rfl, k7, D7, hcs7, hc7, hs7, ok7⟩
          obtain ⟨xs, ha7, hx7⟩ := id hcs7
          obtain ⟨ac, u, rfl, hac, hpu⟩ := id hc7
          have hl7 : xs.length = cs.length := Paired.length hx7
          apply r_seq; apply r_set
          apply e_op
          apply e_val; walk_at "val"
          apply e_tup
          apply e_consV; walk_at "val"
          apply e_nil
          refine ⟨sz (by simp), fun p2 hp2 => ?_⟩
          have k8 : Kp S0 H7 (upd H7 p2 (.tup [.ref ac])) := .new hp2
          refine cat1 (k8.tup _ _ ha7) upd_same (by simp; omega) (by simp) fun H9 p9 k9 hp9 => ?_
          have k79 := k8.trans k9
          have D9 := D7.kp k79
          have hac9 := k79.tup _ _ hac
          have hc9 := hc7.kp k79
          have hcs9 : ClipsAt H9 p9 (cs ++ [c]) := ⟨_, hp9, Pd.append (Paired.kp k79 hx7) (.cons hc9 .nil)⟩
          apply r_set
          apply e_op
          apply e_op
          apply e_val; walk_at "val"
          apply e_val; walk_at "val"
          refine ⟨_, _, rfl, rfl, ?_⟩
          apply e_op
          apply e_lst
          apply e_consV; walk_at "val"
          apply e_consV; walk_at "val"
          apply e_consV; walk_at "val"
          apply e_consV; walk_at "val"
          apply e_consV; walk_at "val"
          apply e_nil
          refine ⟨sz (by simp), fun p10 hp10 => ?_⟩
          have hcs10 := hcs9.kp (.new hp10 : Kp S0 H9 (upd H9 p10 (.lst [.int 0, .int 0, .int 1, .int 3, .int 7])))
          refine e_draw (val_var rfl) val_c (D9.new hp10) (by omega) (by omega) fun H11 v11 k11 D11 f0 f1 => ?_
          have hl11 := k11.all _ _ (fun z => (D9.ne hp10).1 z.symm) (upd_same : (upd H9 p10 (.lst [.int 0, .int 0, .int 1, .int 3, .int 7])) p10 = _)
          obtain ⟨g, hg, hg2⟩ : ∃ g : Int, atI [V.int 0, .int 0, .int 1, .int 3, .int 7] v11 = some (.int g) ∧ 0 ≤ g ∧ g ≤ 7 := by
            have z : v11 = 0 ∨ v11 = 1 ∨ v11 = 2 ∨ v11 = 3 ∨ v11 = 4 := by omega
            rcases z with rfl | rfl | rfl | rfl | rfl <;> exact ⟨_, rfl, by decide, by decide⟩
          refine ⟨_, _, _, _, rfl, rfl, .of hl11, hg, ?_⟩
          refine ⟨_, _, rfl, rfl, ?_⟩
          have n1c := ok7.n1
          have eBc := ok7.eB
          have e0 : c.e = c.s + c.n := rfl
          refine ⟨p9, cs ++ [c], m + c.n + g, _, _, rfl, ((k7.trans k79.ofS0).trans (.new hp10)).trans k11, D11, hcs10.kp k11, by simp [hlen], by omega, ?_, fun e he => ?_, List.pairwise_append.mpr ⟨hsep, List.pairwise_singleton _ _, fun x hx y hy => ?_⟩⟩
          · rw [hs7] at e0
            omega
          · rcases List.mem_append.mp he with he | he
            · exact (hok e he).mono (by omega)
            · rw [List.mem_singleton.mp he]
              exact ⟨ok7.s0, ok7.n1, by omega, ok7.a0, ok7.b0, ok7.ab, ok7.yes, ok7.no⟩
          · rw [List.mem_singleton.mp hy]
            have := (hok x hx).eB
            unfold Sep
            omega
        · have hk : (0 : Int) < 0 + (i : Nat) := of_decide_eq_true hk
          obtain ⟨j, rfl⟩ : ∃ j, i = j + 1 := ⟨i - 1, by omega⟩
          have hcs7 := hcs6.kp k7
          obtain ⟨xs, ha7, hx7⟩ := id hcs7
          have hl7 : xs.length = cs.length := Paired.length hx7
          have hj : j < xs.length := by omega
          obtain ⟨e, he, hxe⟩ := Pd.get hx7 (List.getElem?_eq_getElem hj)
          obtain ⟨ae, ue, ee, hae, hpe⟩ := id hxe
          have oke := hok e (List.mem_of_getElem? he)
          apply r_set
          refine e_repaint (q := e.p) (val_var rfl) (hc6.kp k7) (fun Hx kx => ?_) hpe (fun H8 p8 k8 hc8 => ?_) (fun _ _ => val_var rfl)
          · apply val_op
            · apply val_op
              · walk_at "val"
              · walk_at "val"
              · exact ixt (kx.tup _ _ ha7) (atI_of (j := j) (by show (0 : Int) + ((j + 1 : Nat) : Int) - 1 = (j : Int); omega) (by rw [List.getElem?_eq_getElem hj, ee]))
            · walk_at "val"
            · exact ixt (kx.tup _ _ hae) rfl
          · exact fin _ _ ⟨_, repaint c6 e, rfl, ((k5.trans k6).trans k7).trans k8.ofS0, D7.kp k8, hcs7.kp k8, hc8, hs6, ok6.re oke⟩
        · apply r_next
          exact fin _ _ ⟨v6, c6, rfl, (k5.trans k6).trans k7, D7, hcs6.kp k7, hc6.kp k7, hs6, ok6⟩
      · obtain ⟨a, cs, m, y, z, rfl, k5, D5, hcs5, hlen, m0, m1, hok, hsep⟩ := h
        apply r_retV; walk_at "val"
        exact q _ _ cs k5 D5 hcs5 ⟨fun c hc => (hok c hc).mono (by omega), hsep, by omega⟩
    · apply r_set
      apply e_op
      apply e_val; walk_at "val"
      refine e_draw (val_var rfl) val_c D3 (by omega) (by omega) fun H4 v4 k4 D4 e0 e1 => ?_
      refine ⟨_, _, rfl, rfl, fin _ _ ⟨5000 + v4, rfl, by omega, by omega, ((k1.trans k2).trans k3).trans k4, D4, ((hcs1.kp k2).kp k3).kp k4⟩⟩
    · apply r_next
      exact fin _ _ ⟨v2, rfl, by omega, by omega, (k1.trans k2).trans k3, D3, (hcs1.kp k2).kp k3⟩
end
end K34
end

section
set_option Elab.async false
set_option linter.all false
set_option maxRecDepth 100000
set_option maxHeartbeats 4000000
namespace K34
open PySem PySem.Spec PyProof.Rows L2 LamX
local macro_rules | `(tactic| walk_at "leaf") => `(tactic| first
  | exact fun Q q => ⟨_, _, rfl, rfl, q⟩
  | exact fun Q q => ⟨rfl, q⟩
  | exact fun Q q => .inl ⟨_, rfl, q⟩
  | exact fun Q q => ⟨_, rfl, q⟩
  | exact fun Q q => ⟨_, _, rfl, q⟩
  | exact ixt (by assumption) rfl
  | exact ixl (by assumption) rfl
  | exact isi_tt (by assumption)
  | exact isi_ii
  | exact isi_ib
  | exact len_t (by assumption)
  | exact len_l (by assumption)
  | exact isi_ll (by assumption)
  | exact isi_tl (by assumption)
  | exact fun Q q => ⟨_, _, rfl, rfl, by first | exact .inl ⟨by omega, by omega⟩ | exact .inr ⟨by omega, by omega⟩ | (refine ⟨?_, ?_⟩ <;> omega) | omega, q⟩)
local macro_rules | `(tactic| walk_at "val") => `(tactic| first
  | exact val_var rfl
  | exact val_c
  | ((with_reducible apply val_op); (walk_at "val"); (walk_at "val"); (walk_at "leaf"))
  | ((with_reducible apply val_cb1); (walk_at "val"); (walk_at "leaf"))
  | ((with_reducible apply val_cb2); (walk_at "val"); (walk_at "val"); (walk_at "leaf"))
  | ((with_reducible apply val_chain); (walk_at "val"); (walk_at "val"); (walk_at "leaf"); (walk_at "val"); (walk_at "leaf"))
  | ((with_reducible apply val_and); (walk_at "val"); (intro _); (walk_at "val"))
  | ((with_reducible apply val_or); (walk_at "val"); (intro _); (walk_at "val"))
  | ((with_reducible apply val_not); (walk_at "val"))
  | ((with_reducible apply val_un); (walk_at "val"); (walk_at "leaf"))
  | ((with_reducible apply val_call1); (walk_at "val"); (walk_at "spec"))
  | ((with_reducible apply val_call2); (walk_at "val"); (walk_at "val"); (walk_at "spec"))
  | ((with_reducible apply val_call3); (walk_at "val"); (walk_at "val"); (walk_at "val"); (walk_at "spec")))
local macro_rules | `(tactic| walk_at "ans") => `(tactic| first
  | ((with_reducible apply ans_t); (walk_at "val"))
  | ((with_reducible apply ans_val); (walk_at "val"))
  | ((with_reducible apply ans_not); (walk_at "ans"))
  | ((with_reducible apply ans_and3); (walk_at "ans"); (intro _); (walk_at "ans"))
  | ((with_reducible apply ans_or3); (walk_at "ans"); (intro _); (walk_at "ans")))
local macro_rules | `(tactic| walk_at "spec") => `(tactic| first
  | exact fun Q q => ⟨_, _, rfl, by assumption, q⟩
  | exact fun Q q => ⟨_, _, _, rfl, q⟩
  | exact fun Q q => ⟨_, _, rfl, by assumption, by assumption, q⟩
  | exact fun Q q => ⟨_, _, _, rfl, by assumption, by assumption, q⟩)

theorem r_ifOD {σ : L2.St} {H : Hp} {E : XK} {td tb : TE} {t : TT} {d s : Addr} {b m : Int} {c : Bool} {n : L2.St → Hp → Prop} {rt : VK} {bk ct : L2.St → Hp → Prop} {t1 t2 : TS} (ht : Ans t σ H c) (hd : Val td σ H (.ref d)) (hb : Val tb σ H (.int b)) (D : Deck H d s) (h0 : 0 < b) (h1 : b < 1000000)
    (y : ∀ H', Kp (SA d) H H' → Deck H' d s → t1 ⟨n, rt, bk, ct⟩ σ H') (z : c = false → ∀ H', Kp (SA d) H H' → Deck H' d s → t2 ⟨n, rt, bk, ct⟩ σ H') :
    tIfS (tOr t (tTest (tOp rEq (tCall spDraw [] E (tCons td (tCons tb tNil))) (tC (.int m))))) t1 t2 ⟨n, rt, bk, ct⟩ σ H := by
  refine r_ifH (ht _ ?_)
  cases c with
  | true => exact iteT (iteT (y H (.refl _ _) D))
  | false =>
    refine iteF (e_test (e_op (e_draw hd hb D h0 h1 fun H' v k D' v0 v1 => e_val val_c ⟨rfl, _, rfl, ?_⟩)))
    by_cases e : V.int v = V.int m
    · rw [decide_eq_true e]
      exact iteT (y H' k D')
    · rw [decide_eq_false e]
      exact iteF (z rfl H' k D')
theorem i_rng2 {ta : TA} {σ : L2.St} {H : Hp} {R : It → Hp → Prop} (h : ta σ H fun vs H1 => ∃ i j : Int, vs = [.int i, .int j] ∧ (-(2 ^ 62) ≤ i ∧ i < 2 ^ 62 ∧ -(2 ^ 62) ≤ j ∧ j < 2 ^ 62) ∧ R (Itr i (j - i).toNat) H1) : iRng2 ta σ H R := h
theorem flat_ints : ∀ ns : List Int, (ns.map V.int).all flatV = true
  | [] => rfl
  | n :: r => by
    rw [List.map_cons, List.all_cons, flat_ints r]
    rfl
theorem fdiv2 {n : Int} (h : 1 ≤ n) : 0 ≤ n.fdiv 2 ∧ n.fdiv 2 ≤ n := by
  rw [Int.fdiv_eq_ediv_of_nonneg n (by decide)]
  omega
section
variable {P : Program} {w : World} {K : PySem.W.Frag} {mg : Str → Option Value} {base : Heap}
def spLFrame : Sp := fun vs H Q _ => ∃ d s a cs adj B k, vs = [.ref d, .ref a] ∧ Deck H d s ∧ ClipsAt H a cs ∧ Wf adj B k cs ∧ k ≤ 100 ∧ 0 ≤ B ∧ ∀ H' f, Kp (SA d) H H' → Deck H' d s → 0 ≤ f → f ≤ B + 60 → Q (.int f) H'
theorem ok_Lframe (T : Tx K mg) : FK P w K mg base CX0 2 "_law_frame" ["_law_deck_here", "_law_clips_here"] spLFrame := by
  have F_L_draw := ok_draw (P := P) (w := w) (base := base) T
  have F_L_end := ok_Lend (P := P) (w := w) (base := base) T
  refine fk0 T.d_L_frame T.g_L_frame sc_L_frame (fun vs H Q E h => ?_) (fun _ _ _ _ _ _ us hl => match us, hl with | [_, _], _ => rfl) (fun cdv A outer s H vs Q E hr h => ?_)
  · obtain ⟨d, sA, a, cs, adj, B, k, rfl, _⟩ := h
    rfl
  · obtain ⟨d, sA, a, cs, adj, B, k, rfl, D0, hcs, wf, hk, hB, q⟩ := h
    obtain ⟨xs, ha, hx⟩ := id hcs
    have hlen : xs.length = cs.length := Paired.length hx
    have hlk := wf.len
    refine ⟨_, (pss_cons (ps_if (PW.pt (pw_or (pt_cmpR op_eq (pe_callB call_len_seq (by rfl) T.z_len (by decide +kernel) (pa_cons (pv 1) pa_nil)) pe_int (nomark _)) (pw_or1 (pt_cmpR op_eq (pe_fk F_L_draw (hr.mono (by decide)) (by rfl) pass0 (pa_cons (pv 0) (pa_cons pe_int pa_nil))) pe_int (nomark _)))))
      (pss_one (ps_ret (pe_fk F_L_draw (hr.mono (by decide)) (by rfl) pass0 (pa_cons (pv 0) (pa_cons pe_int pa_nil)))))
      pss_nil)
    (pss_cons (ps_set (i := 2) sc_L_frame.nd rfl (Or.inl rfl) (pe_ix (r := rIxT K) ix_tup (pv 1) (pe_fk F_L_draw (hr.mono (by decide)) (by rfl) pass0 (pa_cons (pv 0) (pa_cons (pe_callB call_len_seq (by rfl) T.z_len (by decide +kernel) (pa_cons (pv 1) pa_nil)) pa_nil))) (fun _ _ => rfl)))
    (pss_cons (ps_set (i := 3) sc_L_frame.nd rfl (Or.inl rfl) (pe_fk F_L_end (hr.mono (by decide)) (by rfl) pass0 (pa_cons (pv 2) pa_nil)))
    (pss_cons (ps_set (i := 4) sc_L_frame.nd rfl (Or.inl rfl) (pe_ix (r := rIxL K) ix_list (pe_lst (pa_cons (pe_ix (r := rIxT K) ix_tup (pv 2) pe_int (fun _ _ => rfl)) (pa_cons (pv 3) (pa_cons (pe_op op_add (pe_ix (r := rIxT K) ix_tup (pv 2) pe_int (fun _ _ => rfl)) (pe_ix (r := rIxT K) ix_tup (pv 2) pe_int (fun _ _ => rfl))) (pa_cons (pe_op op_sub (pv 3) (pe_ix (r := rIxT K) ix_tup (pv 2) pe_int (fun _ _ => rfl))) (pa_cons (pe_op op_add (pe_ix (r := rIxT K) ix_tup (pv 2) pe_int (fun _ _ => rfl)) (pe_op op_fdivN (pe_ix (r := rIxT K) ix_tup (pv 2) pe_int (fun _ _ => rfl)) pe_int)) pa_nil)))))) (pe_fk F_L_draw (hr.mono (by decide)) (by rfl) pass0 (pa_cons (pv 0) (pa_cons pe_int pa_nil))) (fun _ _ => rfl)))
    (pss_one (ps_ret (pe_callB (call_max2 rfl) (by rfl) T.z_max (by decide +kernel) (pa_cons pe_int (pa_cons (pe_op op_sub (pe_op op_add (pv 4) (pe_fk F_L_draw (hr.mono (by decide)) (by rfl) pass0 (pa_cons (pv 0) (pa_cons pe_int pa_nil)))) pe_int) pa_nil))))))))), ?_⟩
    apply r_seq
    refine r_ifOD (by walk_at "ans") (val_var rfl) val_c D0 (by omega) (by omega) (fun H1 k1 D1 => ?_) (fun hc H1 k1 D1 => ?_)
    · apply r_ret
      refine e_draw (val_var rfl) val_c D1 (by omega) (by omega) fun H2 v2 k2 D2 c0 c1 => ?_
      exact q _ _ (k1.trans k2) D2 c0 (by omega)
    · rw [scal_ii] at hc
      have hc := of_decide_eq_false hc
      apply r_next
      apply r_seq; apply r_set
      apply e_op
      apply e_val; walk_at "val"
      have ha1 := k1.tup _ _ ha
      refine e_draw (b := xs.length) (val_var rfl) (by walk_at "val") D1 (by omega) (by omega) fun H2 v2 k2 D2 c0 c1 => ?_
      have ha2 := k2.tup _ _ ha1
      have hi : v2.toNat < xs.length := by omega
      obtain ⟨c, hcc, hxc⟩ := Pd.get hx (List.getElem?_eq_getElem hi)
      have hix : atI xs v2 = some xs[v2.toNat] := atI_of (j := v2.toNat) (by omega) (List.getElem?_eq_getElem hi)
      have okc := wf.ok c (List.mem_of_getElem? hcc)
      refine ⟨_, _, _, _, rfl, rfl, .of ha2, hix, ?_⟩
      have hxc2 := hxc.kp (k1.trans k2)
      revert hxc2
      generalize xs[v2.toNat] = vc
      intro hxc2
      obtain ⟨ac, u, rfl, hac, hpu⟩ := id hxc2
      apply r_seq; apply r_setV; walk_at "val"
      apply r_seq; apply r_set
      apply e_op
      apply e_lst
      apply e_consV; walk_at "val"
      apply e_consV; walk_at "val"
      apply e_consV; walk_at "val"
      apply e_consV; walk_at "val"
      apply e_consV; walk_at "val"
      apply e_nil
      refine ⟨sz (by simp), fun p3 hp3 => ?_⟩
      refine e_draw (val_var rfl) val_c (D2.new hp3) (by omega) (by omega) fun H4 v4 k4 D4 d0 d1 => ?_
      have hl4 := k4.all _ _ (fun z => (D2.ne hp3).1 z.symm) upd_same
      have e0 : c.e = c.s + c.n := rfl
      obtain ⟨s0, n1, eB, a0, b0, ab, _, _⟩ := okc
      obtain ⟨d20, d21⟩ := fdiv2 n1
      obtain ⟨g, hg, hg0, hg1⟩ : ∃ g : Int, atI [V.int c.s, .int c.e, .int (c.s + c.a), .int (c.e - c.b), .int (c.s + c.n.fdiv 2)] v4 = some (.int g) ∧ 0 ≤ g ∧ g ≤ B := by
        have z : v4 = 0 ∨ v4 = 1 ∨ v4 = 2 ∨ v4 = 3 ∨ v4 = 4 := by omega
        rcases z with rfl | rfl | rfl | rfl | rfl <;> refine ⟨_, rfl, ?_, ?_⟩ <;> omega
      refine ⟨_, _, _, _, rfl, rfl, .of hl4, hg, ?_⟩
      apply r_ret
      apply e_cb
      apply e_consV; walk_at "val"
      apply e_cons
      apply e_op
      apply e_op
      apply e_val; walk_at "val"
      refine e_draw (val_var rfl) val_c D4 (by omega) (by omega) fun H5 v5 k5 D5 f0 f1 => ?_
      refine ⟨_, _, rfl, rfl, ?_⟩
      apply e_val; walk_at "val"
      refine ⟨_, _, rfl, rfl, ?_⟩
      apply e_nil
      refine ⟨_, _, rfl, ?_⟩
      refine q _ _ ((((k1.trans k2).trans (.new hp3)).trans k4).trans k5) D5 ?_ ?_
      · split <;> omega
      · split <;> omega
def spLFrames : Sp := fun vs H Q _ => ∃ a cs adj B m n, vs = [.ref a, .ref m] ∧ ClipsAt H a cs ∧ (∀ c ∈ cs, COk adj B c) ∧ cs.length ≤ 45 ∧ B ≤ 1000000 ∧ H m = some (.lst [.int n]) ∧ 0 ≤ n ∧ n ≤ 1000000 ∧ ∀ H' p (ns : List Int), Kp S0 H H' → H' p = some (.lst (ns.map V.int)) → Q (.ref p) H'
theorem ok_Lframes (T : Tx K mg) : FK P w K mg base CX0 2 "_law_frames" ["_law_clips_here", "_law_more"] spLFrames := by
  have F_L_end := ok_Lend (P := P) (w := w) (base := base) T
  refine fk0 T.d_L_frames T.g_L_frames sc_L_frames (fun vs H Q E h => ?_) (fun _ _ _ _ _ _ us hl => match us, hl with | [_, _], _ => rfl) (fun cdv A outer s H vs Q E hr h => ?_)
  · obtain ⟨a, cs, adj, B, m, n, rfl, _⟩ := h
    rfl
  · obtain ⟨a, cs, adj, B, m, n, rfl, hcs, hok, h45, hB, hm, n0, n1, q⟩ := h
    obtain ⟨xs, ha, hx⟩ := id hcs
    have hlen : xs.length = cs.length := Paired.length hx
    refine ⟨_, (pss_cons (ps_set (i := 2) sc_L_frames.nd rfl (Or.inl rfl) (pe_op op_cat (pe_lst (pa_cons pe_int pa_nil)) (pv 1)))
    (pss_cons (ps_for PassesOwn.never rfl (pi_tup (pv 0)) (pg_name (i := 3) sc_L_frames.nd rfl (Or.inl rfl))
      (pss_one (ps_set (i := 2) sc_L_frames.nd rfl (Or.inl rfl) (pe_op op_cat (pv 2) (pe_lst (pa_cons (pe_ix (r := rIxT K) ix_tup (pv 3) pe_int (fun _ _ => rfl)) (pa_cons (pe_fk F_L_end (hr.mono (by decide)) (by rfl) pass0 (pa_cons (pv 3) pa_nil)) (pa_cons (pe_op op_add (pe_ix (r := rIxT K) ix_tup (pv 3) pe_int (fun _ _ => rfl)) (pe_ix (r := rIxT K) ix_tup (pv 3) pe_int (fun _ _ => rfl))) (pa_cons (pe_op op_sub (pe_fk F_L_end (hr.mono (by decide)) (by rfl) pass0 (pa_cons (pv 3) pa_nil)) (pe_ix (r := rIxT K) ix_tup (pv 3) pe_int (fun _ _ => rfl))) pa_nil)))))))))
    (pss_cons (ps_set (i := 4) sc_L_frames.nd rfl (Or.inl rfl) (pe_lst pa_nil))
    (pss_cons (ps_for PassesOwn.never rfl (pi_list (pv 2)) (pg_name (i := 5) sc_L_frames.nd rfl (Or.inl rfl))
      (pss_one (ps_for PassesOwn.never rfl (pi_range2 (by rfl) T.z_range (pa_cons (pe_callB (call_max2 rfl) (by rfl) T.z_max (by decide +kernel) (pa_cons pe_int (pa_cons (pe_op op_sub (pv 5) pe_int) pa_nil))) (pa_cons (pe_op op_add (pv 5) pe_int) pa_nil))) (pg_name (i := 6) sc_L_frames.nd rfl (Or.inl rfl))
        (pss_one (ps_if (pt_cmpR op_notIn_seq (pv 6) (pv 4) rfl)
          (pss_one (ps_expr (pe_bm PySem.F.plainAttrs_list PySem.F.slot_list_append PySem.F.type_list_append mt_append (pv 4) (pa_cons (pv 6) pa_nil))))
          pss_nil)))))
    (pss_one (ps_ret (pv 4))))))), ?_⟩
    apply r_seq; apply r_set
    apply e_op
    apply e_lst
    apply e_consV; walk_at "val"
    apply e_nil
    refine ⟨sz (by simp), fun p1 hp1 => ?_⟩
    apply e_val; walk_at "val"
    have k1 : Kp S0 H (upd H p1 (.lst [.int 0])) := .new hp1
    refine ⟨p1, m, _, _, rfl, rfl, upd_same, k1.all _ _ (fun z => z) hm, sz (by simp), fun p2 hp2 => ?_⟩
    have k2 := k1.add hp2 (o := .lst ([.int 0] ++ [.int n]))
    have hm2 : (upd (upd H p1 (.lst [.int 0])) p2 (.lst ([.int 0] ++ [.int n]))) p2 = some (.lst (([0, n] : List Int).map V.int)) := upd_same
    revert k2 hm2
    generalize upd (upd H p1 (.lst [.int 0])) p2 (.lst ([.int 0] ++ [.int n])) = H2
    intro k2 hm2
    apply r_seq; apply r_for
    apply i_tup
    apply e_val; walk_at "val"
    have ha2 := k2.tup _ _ ha
    refine ⟨a, rfl, ⟨_, .of ha2⟩, ?_⟩
    refine for_tupR (xs := xs) (fun i σ' H' => ∃ (l : Addr) (ms : List Int) (y z u v : Option V), σ' = [some (.ref a), some (.ref m), some (.ref l), y, z, u, v] ∧ Kp S0 H H' ∧ H' l = some (.lst (ms.map V.int)) ∧ ms.length = 2 + 4 * i ∧ ∀ x ∈ ms, (-1000000) ≤ x ∧ x ≤ 1000000)
      ⟨p2, _, _, _, _, _, rfl, k2, hm2, rfl, fun x hx => ?_⟩ (fun i σ' H' _ h => ?_) (fun i x σ' H' hxi h => ?_) (fun σ' H' h => ?_)
    · have hx : x = 0 ∨ x = n := by simpa using hx
      omega
    · obtain ⟨_, _, _, _, _, _, _, k, _⟩ := h
      exact k.sqT ha
    · obtain ⟨l, ms, y, z, u, v, rfl, k3, hl, hml, hmb⟩ := h
      obtain ⟨c, hc, hxc⟩ := Pd.get hx hxi
      have hi := (List.getElem?_eq_some_iff.mp hxi).1
      have okc := hok c (List.mem_of_getElem? hc)
      have hcl := hxc.kp k3
      obtain ⟨ac, u', rfl, hac, hpu⟩ := id hcl
      apply r_set
      apply e_op
      apply e_val; walk_at "val"
      apply e_lst
      apply e_consV; walk_at "val"
      apply e_consV; walk_at "val"
      apply e_consV; walk_at "val"
      apply e_consV; walk_at "val"
      apply e_nil
      refine ⟨sz (by simp), fun p4 hp4 => ?_⟩
      have k4 : Kp S0 H' (upd H' p4 (.lst [.int c.s, .int c.e, .int (c.s + c.a), .int (c.e - c.b)])) := .new hp4
      refine ⟨l, p4, _, _, rfl, rfl, k4.all _ _ (fun z => z) hl, upd_same, sz (by simp; omega), fun p5 hp5 => ?_⟩
      have e0 : c.e = c.s + c.n := rfl
      obtain ⟨s0, n1, eB, a0, b0, ab, _, _⟩ := okc
      refine ⟨p5, ms ++ [c.s, c.e, c.s + c.a, c.e - c.b], _, _, _, _, rfl, (k3.trans k4).add hp5, by rw [upd_same, List.map_append]; rfl, by simp; omega, fun x hx => ?_⟩
      rcases List.mem_append.mp hx with hx | hx
      · exact hmb x hx
      · have hx : x = c.s ∨ x = c.e ∨ x = c.s + c.a ∨ x = c.e - c.b := by simpa using hx
        omega
    · obtain ⟨l, ms, y, z, u, v, rfl, k3, hl, hml, hmb⟩ := h
      apply r_seq; apply r_set
      apply e_lst
      apply e_nil
      refine ⟨sz (by simp), fun f hf => ?_⟩
      have k4 : Kp S0 H' (upd H' f (.lst [])) := .new hf
      have hl4 := k4.all _ _ (fun z => z) hl
      have hne : l ≠ f := ne_of_none hl hf
      apply r_seq; apply r_for
      apply i_list
      apply e_val; walk_at "val"
      refine ⟨l, rfl, ⟨_, .of hl4⟩, ?_⟩
      refine for_listR (xs := ms.map V.int) (fun i σ' H'' => ∃ (ns : List Int) (u v : Option V), σ' = [some (.ref a), some (.ref m), some (.ref l), y, some (.ref f), u, v] ∧ Kp S0 H' H'' ∧ H'' f = some (.lst (ns.map V.int)) ∧ ns.length ≤ 5 * i)
        ⟨[], _, _, rfl, k4, upd_same, Nat.le_refl _⟩ (fun i σ' H' _ h => ?_) (fun i x σ' H'' hxi h => ?_) (fun σ' H'' h => ?_)
      · obtain ⟨_, _, _, _, k, _⟩ := h
        exact .of (k.all _ _ (fun z => z) hl)
      · obtain ⟨ns, u, v, rfl, k5, hf5, hnl⟩ := h
        have hi := (List.getElem?_eq_some_iff.mp hxi).1
        rw [List.length_map] at hi
        obtain ⟨x, hxm, rfl⟩ := List.mem_map.mp (List.mem_of_getElem? hxi)
        have hxb := hmb x hxm
        apply r_for
        apply i_rng2
        apply e_cons
        apply e_cb
        apply e_consV; walk_at "val"
        apply e_consV; walk_at "val"
        apply e_nil
        refine ⟨_, _, rfl, ?_⟩
        apply e_consV; walk_at "val"
        apply e_nil
        obtain ⟨lo, hlo, lo1, lo2⟩ : ∃ lo : Int, lo = (if x - 2 > 0 then x - 2 else 0) ∧ 0 ≤ lo ∧ x - 2 ≤ lo ∧ lo ≤ 1000000 := ⟨_, rfl, by split <;> omega, by split <;> omega, by split <;> omega⟩
        refine ⟨lo, x + 3, by rw [hlo], ⟨by omega, by omega, by omega, by omega⟩, ?_⟩
        refine for_rangeR (fun j σ' H7 => ∃ (ns' : List Int) (v : Option V), σ' = [some (.ref a), some (.ref m), some (.ref l), y, some (.ref f), some (.int x), v] ∧ Kp S0 H' H7 ∧ H7 f = some (.lst (ns'.map V.int)) ∧ ns'.length ≤ 5 * i + j)
          ⟨ns, _, rfl, k5, hf5, hnl⟩ (fun j σ' H7 hj h => ?_) (fun σ' H7 h => ?_)
        · obtain ⟨ns', v, rfl, k7, hf7, hnl7⟩ := h
          refine r_if (b := !inV (.int (lo + j)) (ns'.map V.int)) ?_ (fun _ => ?_) (fun _ => ?_)
          · apply ans_t
            apply val_op
            · walk_at "val"
            · walk_at "val"
            · exact fun Q q => ⟨f, _, rfl, .inl (.of hf7), rfl, flat_ints _, q⟩
          · apply r_drop
            refine ⟨_, rfl, .inl ⟨rfl, _, .of hf7⟩, ?_⟩
            apply e_consV; walk_at "val"
            apply e_nil
            refine ⟨f, _, _, rfl, rfl, hf7, small1000 (by rw [List.length_map]; omega), ns' ++ [lo + j], _, rfl, k7.own hf (lst_not_tup hf7), by rw [upd_same, List.map_append]; rfl, by simp; omega⟩
          · apply r_next
            exact ⟨ns', _, rfl, k7, hf7, by omega⟩
        · obtain ⟨ns', v, rfl, k7, hf7, hnl7⟩ := h
          exact ⟨ns', _, _, rfl, k7, hf7, by omega⟩
      · obtain ⟨ns, u, v, rfl, k5, hf5, hnl⟩ := h
        apply r_retV; walk_at "val"
        exact q _ _ ns (k3.trans k5) hf5
end
end K34
end

section
set_option Elab.async false
set_option linter.all false
set_option maxRecDepth 100000
set_option maxHeartbeats 4000000
namespace K34
open PySem PySem.Spec PyProof.Rows L2 LamX
local macro_rules | `(tactic| walk_at "leaf") => `(tactic| first
  | exact fun Q q => ⟨_, _, rfl, rfl, q⟩
  | exact fun Q q => ⟨rfl, q⟩
  | exact fun Q q => .inl ⟨_, rfl, q⟩
  | exact fun Q q => ⟨_, rfl, q⟩
  | exact fun Q q => ⟨_, _, rfl, q⟩
  | exact ixt (by assumption) rfl
  | exact ixl (by assumption) rfl
  | exact isi_tt (by assumption)
  | exact isi_ii
  | exact isi_ib
  | exact len_t (by assumption)
  | exact len_l (by assumption)
  | exact isi_ll (by assumption)
  | exact isi_tl (by assumption)
  | exact fun Q q => ⟨_, _, rfl, rfl, by first | exact .inl ⟨by omega, by omega⟩ | exact .inr ⟨by omega, by omega⟩ | (refine ⟨?_, ?_⟩ <;> omega) | omega, q⟩)
local macro_rules | `(tactic| walk_at "val") => `(tactic| first
  | exact val_var rfl
  | exact val_c
  | ((with_reducible apply val_op); (walk_at "val"); (walk_at "val"); (walk_at "leaf"))
  | ((with_reducible apply val_cb1); (walk_at "val"); (walk_at "leaf"))
  | ((with_reducible apply val_cb2); (walk_at "val"); (walk_at "val"); (walk_at "leaf"))
  | ((with_reducible apply val_chain); (walk_at "val"); (walk_at "val"); (walk_at "leaf"); (walk_at "val"); (walk_at "leaf"))
  | ((with_reducible apply val_and); (walk_at "val"); (intro _); (walk_at "val"))
  | ((with_reducible apply val_or); (walk_at "val"); (intro _); (walk_at "val"))
  | ((with_reducible apply val_not); (walk_at "val"))
  | ((with_reducible apply val_un); (walk_at "val"); (walk_at "leaf"))
  | ((with_reducible apply val_call1); (walk_at "val"); (walk_at "spec"))
  | ((with_reducible apply val_call2); (walk_at "val"); (walk_at "val"); (walk_at "spec"))
  | ((with_reducible apply val_call3); (walk_at "val"); (walk_at "val"); (walk_at "val"); (walk_at "spec")))
local macro_rules | `(tactic| walk_at "ans") => `(tactic| first
  | ((with_reducible apply ans_t); (walk_at "val"))
  | ((with_reducible apply ans_val); (walk_at "val"))
  | ((with_reducible apply ans_not); (walk_at "ans"))
  | ((with_reducible apply ans_and3); (walk_at "ans"); (intro _); (walk_at "ans"))
  | ((with_reducible apply ans_or3); (walk_at "ans"); (intro _); (walk_at "ans")))
local macro_rules | `(tactic| walk_at "spec") => `(tactic| first
  | exact fun Q q => ⟨_, _, rfl, by assumption, q⟩
  | exact fun Q q => ⟨_, _, _, rfl, q⟩
  | exact fun Q q => ⟨_, _, rfl, by assumption, by assumption, q⟩
  | exact fun Q q => ⟨_, _, _, rfl, by assumption, by assumption, q⟩)

/-! ### deeds -/
inductive Deed where
  | place (c : Clip)
  | lift (a b : Int)
  | rout (a b : Int)
  | rin (m k : Int)
def Deed.word : Deed → Str
  | .place _ => "place"
  | .lift _ _ => "lift"
  | .rout _ _ => "ripple out"
  | .rin _ _ => "ripple in"
def DeedAt (H : Hp) (p : Addr) : Deed → Prop
  | .place c => ∃ v, H p = some (.lst [v]) ∧ ClipAt H v c
  | .lift a b => H p = some (.lst [.int a, .int b])
  | .rout a b => H p = some (.lst [.int a, .int b])
  | .rin m k => H p = some (.lst [.int m, .int k])
theorem DeedAt.kp {H H' : Hp} {p : Addr} {δ : Deed} (h : DeedAt H p δ) (k : Kp S0 H H') : DeedAt H' p δ := by
  cases δ with
  | place c =>
    obtain ⟨v, h1, h2⟩ := h
    exact ⟨v, k.all _ _ (fun z => z) h1, h2.kp k⟩
  | lift a b => exact k.all _ _ (fun z => z) h
  | rout a b => exact k.all _ _ (fun z => z) h
  | rin a b => exact k.all _ _ (fun z => z) h
def DeedOk (adj : Bool) (B : Int) : Deed → Prop
  | .place c => COk adj (B + 400) c
  | .lift a b => 0 ≤ a ∧ a < b
  | .rout a b => 0 ≤ a ∧ a < b
  | .rin m k => 0 ≤ m ∧ 1 ≤ k ∧ k ≤ 20
/-- the lane that the document tells -/
def due (δ : Deed) (cs : List Clip) (f : Int) : Option (Option Pt × Int) := match δ with
  | .place c => if c.s ≤ f ∧ f < c.e then some (c.p, level c f) else lane cs f
  | .lift a b => if f < a then lane cs f else if f < b then none else lane cs f
  | .rout a b => if f < a then lane cs f else lane cs (f + b - a)
  | .rin m k => if f < m then lane cs f else if f < m + k then none else lane cs (f - k)
theorem dec_str (a b : Str) : decide (V.str a = V.str b) = decide (a = b) := decide_eq_decide.mpr ⟨fun e => by cases e; rfl, fun e => by rw [e]⟩
section
variable {P : Program} {w : World} {K : PySem.W.Frag} {mg : Str → Option Value} {base : Heap}
def spLNumbers : Sp := fun vs H Q _ => ∃ (d s : Addr) (w : Str) (a : Addr) (cs : List Clip) (adj : Bool) (B : Int) (k : Nat), vs = [.ref d, .str w, .ref a, .bl adj] ∧ Deck H d s ∧ ClipsAt H a cs ∧ Wf adj B k cs ∧ k ≤ 100 ∧ 0 ≤ B ∧ (w = "lift" ∨ w = "place" ∨ w = "ripple out" ∨ w = "ripple in") ∧
  ∀ H' p δ, Kp (SA d) H H' → Deck H' d s → DeedAt H' p δ → δ.word = w → DeedOk adj B δ → Q (.ref p) H'
theorem ok_Lnumbers (T : Tx K mg) : FK P w K mg base CX0 4 "_law_numbers" ["_law_deck_here", "_law_word", "_law_clips_here", "_law_adjusts"] spLNumbers := by
  have F_L_draw := ok_draw (P := P) (w := w) (base := base) T
  have F_L_frame := ok_Lframe (P := P) (w := w) (base := base) T
  have F_L_clip := ok_Lclip (P := P) (w := w) (base := base) T
  refine fk0 T.d_L_numbers T.g_L_numbers sc_L_numbers (fun vs H Q E h => ?_) (fun _ _ _ _ _ _ us hl => match us, hl with | [_, _, _, _], _ => rfl) (fun cdv A outer s H vs Q E hr h => ?_)
  · obtain ⟨d, sA, a, cs, adj, B, k, _, rfl, _⟩ := h
    rfl
  · obtain ⟨d, sA, wd, a, cs, adj, B, k, rfl, D0, hcs, wf, hk, hB, hw, q⟩ := h
    obtain ⟨xs, ha, hx⟩ := id hcs
    have hlen : xs.length = cs.length := Paired.length hx
    have hlk := wf.len
    refine ⟨_, (pss_cons (ps_set (i := 4) sc_L_numbers.nd rfl (Or.inl rfl) (pe_fk F_L_frame (hr.mono (by decide)) (by rfl) pass0 (pa_cons (pv 0) (pa_cons (pv 2) pa_nil))))
    (pss_cons (ps_set (i := 5) sc_L_numbers.nd rfl (Or.inl rfl) (pe_fk F_L_draw (hr.mono (by decide)) (by rfl) pass0 (pa_cons (pv 0) (pa_cons (pe_op op_add (pe_callB call_len_seq (by rfl) T.z_len (by decide +kernel) (pa_cons (pv 2) pa_nil)) pe_int) pa_nil))))
    (pss_cons (ps_if (pt_cmpR op_eq (pe_fk F_L_draw (hr.mono (by decide)) (by rfl) pass0 (pa_cons (pv 0) (pa_cons pe_int pa_nil))) pe_int (nomark _))
      (pss_one (ps_set (i := 5) sc_L_numbers.nd rfl (Or.inl rfl) (pe_un un_neg pe_int)))
      pss_nil)
    (pss_cons (ps_if (pt_cmpR op_eq (pv 1) pe_str (nomark _))
      (pss_one (ps_ret (pe_lst (pa_cons (pv 4) pa_nil))))
      pss_nil)
    (pss_cons (ps_if (pt_cmpR op_eq (pv 1) pe_str (nomark _))
      (pss_one (ps_ret (pe_lst (pa_cons (pv 5) pa_nil))))
      pss_nil)
    (pss_cons (ps_if (pt_cmpR op_eq (pv 1) pe_str (nomark _))
      (pss_one (ps_ret (pe_lst (pa_cons (pv 5) (pa_cons (pe_op op_sub (pe_fk F_L_draw (hr.mono (by decide)) (by rfl) pass0 (pa_cons (pv 0) (pa_cons pe_int pa_nil))) pe_int) pa_nil)))))
      pss_nil)
    (pss_cons (ps_if (pt_cmpR op_eq (pv 1) pe_str (nomark _))
      (pss_one (ps_ret (pe_lst (pa_cons (pv 5) (pa_cons (pe_op op_add (pe_op op_sub (pe_fk F_L_frame (hr.mono (by decide)) (by rfl) pass0 (pa_cons (pv 0) (pa_cons (pv 2) pa_nil))) (pe_fk F_L_draw (hr.mono (by decide)) (by rfl) pass0 (pa_cons (pv 0) (pa_cons pe_int pa_nil)))) pe_int) (pa_cons (pe_fk F_L_draw (hr.mono (by decide)) (by rfl) pass0 (pa_cons (pv 0) (pa_cons pe_int pa_nil))) pa_nil))))))
      pss_nil)
    (pss_cons (ps_if (pt_cmpR op_eq (pv 1) pe_str (nomark _))
      (pss_one (ps_ret (pe_lst (pa_cons (pv 4) (pa_cons (pe_op op_add pe_int (pe_fk F_L_draw (hr.mono (by decide)) (by rfl) pass0 (pa_cons (pv 0) (pa_cons pe_int pa_nil)))) pa_nil)))))
      pss_nil)
    (pss_cons (ps_if (pt_cmpR op_eq (pv 1) pe_str (nomark _))
      (pss_one (ps_ret (pe_lst (pa_cons (pe_fk F_L_clip (hr.mono (by decide)) (by rfl) pass0 (pa_cons (pv 0) (pa_cons (pv 4) (pa_cons (pv 3) pa_nil)))) pa_nil))))
      pss_nil)
    (pss_one (ps_ret (pe_lst (pa_cons (pv 4) (pa_cons (pe_op op_add (pe_op op_add (pv 4) pe_int) (pe_fk F_L_draw (hr.mono (by decide)) (by rfl) pass0 (pa_cons (pv 0) (pa_cons pe_int pa_nil)))) pa_nil)))))))))))))), ?_⟩
    apply r_seq; apply r_set
    apply e_call
    apply e_consV; walk_at "val"
    apply e_consV; walk_at "val"
    apply e_nil
    refine ⟨d, sA, a, cs, adj, B, k, rfl, D0, hcs, wf, hk, hB, fun H1 f k1 D1 f0 f1 => ?_⟩
    have ha1 := k1.tup _ _ ha
    apply r_seq; apply r_set
    refine e_draw (b := xs.length + 1) (val_var rfl) (by walk_at "val") D1 (by omega) (by omega) fun H2 v2 k2 D2 c0 c1 => ?_
    apply r_seq
    refine r_ifD (fun σ' H' => ∃ y, σ' = [some (.ref d), some (.str wd), some (.ref a), some (.bl adj), some (.int f), some (.int y)] ∧ Kp (SA d) H H' ∧ Deck H' d sA) (val_var rfl) val_c D2 (by omega) (by omega) ?_ (fun H3 k3 D3 fin => ?_) (fun H3 k3 D3 fin => ?_)
    · rintro σ3 H3 ⟨y, rfl, k3, D3⟩
      have no : ∀ {n t1 t2 bk ct} {u : Str} {σ : L2.St} (hs : σ[1]? = some (some (.str wd))) (hu : decide (wd = u) = false) (h : t2 ⟨n, Q, bk, ct⟩ σ H3), tIfS (tTest (tOp rEq (tVar 1) (tC (.str u)))) t1 t2 ⟨n, Q, bk, ct⟩ σ H3 := fun {n t1 t2 bk ct u σ} hs hu h => r_no (ans_t (val_op (val_var hs) val_c fun Q q => ⟨rfl, q⟩)) (by rw [dec_str]; exact hu) h
      have yes : ∀ {n t1 t2 bk ct} {u : Str} {σ : L2.St} (hs : σ[1]? = some (some (.str wd))) (hu : decide (wd = u) = true) (h : t1 ⟨n, Q, bk, ct⟩ σ H3), tIfS (tTest (tOp rEq (tVar 1) (tC (.str u)))) t1 t2 ⟨n, Q, bk, ct⟩ σ H3 := fun {n t1 t2 bk ct u σ} hs hu h => r_yes (ans_t (val_op (val_var hs) val_c fun Q q => ⟨rfl, q⟩)) (by rw [dec_str]; exact hu) h
      have h4 : decide (wd = "cut") = false ∧ decide (wd = "join") = false ∧ decide (wd = "move") = false ∧ decide (wd = "trim") = false := by
        rcases hw with rfl | rfl | rfl | rfl <;> decide +kernel
      obtain ⟨w1, w2, w3, w4⟩ := h4
      apply r_seq; refine no rfl w1 ?_; apply r_next
      apply r_seq; refine no rfl w2 ?_; apply r_next
      apply r_seq; refine no rfl w3 ?_; apply r_next
      apply r_seq; refine no rfl w4 ?_; apply r_next
      have rest : (wd = "lift" ∨ wd = "ripple out") → ∃ δ : Int → Deed, ∀ x, (δ x).word = wd ∧ ((f < x) → DeedOk adj B (δ x)) ∧ ∀ H' p, H' p = some (.lst [.int f, .int x]) → DeedAt H' p (δ x) := fun h => by
        rcases h with rfl | rfl
        · exact ⟨fun x => .lift f x, fun x => ⟨rfl, fun z => ⟨f0, z⟩, fun H' p e => e⟩⟩
        · exact ⟨fun x => .rout f x, fun x => ⟨rfl, fun z => ⟨f0, z⟩, fun H' p e => e⟩⟩
      by_cases e1 : wd = "ripple in"
      · apply r_seq; refine yes rfl (decide_eq_true e1) ?_
        apply r_ret
        apply e_lst
        apply e_consV; walk_at "val"
        apply e_cons
        apply e_op
        apply e_val; walk_at "val"
        refine e_draw (val_var rfl) val_c D3 (by omega) (by omega) fun H4 v4 k4 D4 d0 d1 => ?_
        refine ⟨_, _, rfl, rfl, ?_⟩
        apply e_nil
        refine ⟨sz (by simp), fun p hp => ?_⟩
        exact q _ _ (.rin f (1 + v4)) ((k3.trans k4).trans (.new hp)) (D4.new hp) upd_same e1.symm ⟨f0, by omega, by omega⟩
      · apply r_seq; refine no rfl (decide_eq_false e1) ?_; apply r_next
        by_cases e2 : wd = "place"
        · apply r_seq; refine yes rfl (decide_eq_true e2) ?_
          apply r_ret
          apply e_lst
          apply e_cons
          apply e_call
          apply e_consV; walk_at "val"
          apply e_consV; walk_at "val"
          apply e_consV; walk_at "val"
          apply e_nil
          refine ⟨d, sA, f, adj, rfl, D3, f0, fun H4 v4 c4 k4 D4 hc4 hs4 ok4 => ?_⟩
          apply e_nil
          refine ⟨sz (by simp), fun p hp => ?_⟩
          exact q _ _ (.place c4) ((k3.trans k4).trans (.new hp)) (D4.new hp) ⟨v4, upd_same, hc4.kp (.new hp : Kp S0 H4 _)⟩ e2.symm (ok4.mono (by omega))
        · apply r_seq; refine no rfl (decide_eq_false e2) ?_; apply r_next
          obtain ⟨δ, hδ⟩ := rest (by rcases hw with h | h | h | h <;> first | exact .inl h | exact .inr h | exact absurd h e1 | exact absurd h e2)
          apply r_ret
          apply e_lst
          apply e_consV; walk_at "val"
          apply e_cons
          apply e_op
          apply e_val; walk_at "val"
          refine e_draw (val_var rfl) val_c D3 (by omega) (by omega) fun H4 v4 k4 D4 d0 d1 => ?_
          refine ⟨_, _, rfl, rfl, ?_⟩
          apply e_nil
          refine ⟨sz (by simp), fun p hp => ?_⟩
          obtain ⟨g1, g2, g3⟩ := hδ (f + 1 + v4)
          exact q _ _ (δ (f + 1 + v4)) ((k3.trans k4).trans (.new hp)) (D4.new hp) (g3 _ _ upd_same) g1 (g2 (by omega))
    · apply r_set
      apply e_val; walk_at "val"
      exact fin _ _ ⟨_, rfl, (k1.trans k2).trans k3, D3⟩
    · apply r_next
      exact fin _ _ ⟨_, rfl, (k1.trans k2).trans k3, D3⟩
end
end K34
end

section
set_option Elab.async false
set_option linter.all false
set_option maxRecDepth 100000
set_option maxHeartbeats 4000000
namespace K34
open PySem PySem.Spec PyProof.Rows L2 LamX
local macro_rules | `(tactic| walk_at "leaf") => `(tactic| first
  | exact fun Q q => ⟨_, _, rfl, rfl, q⟩
  | exact fun Q q => ⟨rfl, q⟩
  | exact fun Q q => .inl ⟨_, rfl, q⟩
  | exact fun Q q => ⟨_, rfl, q⟩
  | exact fun Q q => ⟨_, _, rfl, q⟩
  | exact ixt (by assumption) rfl
  | exact ixl (by assumption) rfl
  | exact isi_tt (by assumption)
  | exact isi_ii
  | exact isi_ib
  | exact len_t (by assumption)
  | exact len_l (by assumption)
  | exact isi_ll (by assumption)
  | exact isi_tl (by assumption)
  | exact fun Q q => ⟨_, _, rfl, rfl, by first | exact .inl ⟨by omega, by omega⟩ | exact .inr ⟨by omega, by omega⟩ | (refine ⟨?_, ?_⟩ <;> omega) | omega, q⟩)
local macro_rules | `(tactic| walk_at "val") => `(tactic| first
  | exact val_var rfl
  | exact val_c
  | ((with_reducible apply val_op); (walk_at "val"); (walk_at "val"); (walk_at "leaf"))
  | ((with_reducible apply val_cb1); (walk_at "val"); (walk_at "leaf"))
  | ((with_reducible apply val_cb2); (walk_at "val"); (walk_at "val"); (walk_at "leaf"))
  | ((with_reducible apply val_chain); (walk_at "val"); (walk_at "val"); (walk_at "leaf"); (walk_at "val"); (walk_at "leaf"))
  | ((with_reducible apply val_and); (walk_at "val"); (intro _); (walk_at "val"))
  | ((with_reducible apply val_or); (walk_at "val"); (intro _); (walk_at "val"))
  | ((with_reducible apply val_not); (walk_at "val"))
  | ((with_reducible apply val_un); (walk_at "val"); (walk_at "leaf"))
  | ((with_reducible apply val_call1); (walk_at "val"); (walk_at "spec"))
  | ((with_reducible apply val_call2); (walk_at "val"); (walk_at "val"); (walk_at "spec"))
  | ((with_reducible apply val_call3); (walk_at "val"); (walk_at "val"); (walk_at "val"); (walk_at "spec")))
local macro_rules | `(tactic| walk_at "ans") => `(tactic| first
  | ((with_reducible apply ans_t); (walk_at "val"))
  | ((with_reducible apply ans_val); (walk_at "val"))
  | ((with_reducible apply ans_not); (walk_at "ans"))
  | ((with_reducible apply ans_and3); (walk_at "ans"); (intro _); (walk_at "ans"))
  | ((with_reducible apply ans_or3); (walk_at "ans"); (intro _); (walk_at "ans")))
local macro_rules | `(tactic| walk_at "spec") => `(tactic| first
  | exact fun Q q => ⟨_, _, rfl, by assumption, q⟩
  | exact fun Q q => ⟨_, _, _, rfl, q⟩
  | exact fun Q q => ⟨_, _, rfl, by assumption, by assumption, q⟩
  | exact fun Q q => ⟨_, _, _, rfl, by assumption, by assumption, q⟩)

section
variable {X : Cx} {CX : CXT} {k : Nat} {x : Str} {ps : List Str} {sp : Sp} {E : L2.St → XK} {e : Expr} {es : List Expr} {t : TA} {p pos : Pos}
/-- the call of such a def, at the caller's slots -/
theorem pe_fkS (F : FK X.prog X.w X.K X.mg X.base CX k x ps sp) (hr : Room k X.A) (hg : Gl X x) (hx : ∀ σ, PassesAt CX X σ (E σ)) (ha : PA X (e :: es) t)
    (hdb : (x == ("__debug__" : Str)) = false := by decide) (he : starEach (e :: es) X.env = (false, eval e X.env) :: starEach es X.env := by rfl) (hpl : (backTo pos (starEach es X.env)).any (·.1) = false := by rfl) :
    PE X (.Call (.Name x p) (e :: es) [] pos) (tCallS sp E t) := by
  obtain ⟨fd, G, b⟩ := F.ok
  exact pe_callS G hr hg F.mgx F.kp b hx ha hdb he hpl
end
theorem Wf.mono {adj : Bool} {B B' : Int} {k k' : Nat} {cs : List Clip} (w : Wf adj B k cs) (h : B ≤ B') (h' : k ≤ k') : Wf adj B' k' cs := ⟨fun c hc => (w.ok c hc).mono h, w.sep, Nat.le_trans w.len h'⟩
theorem lift_due {adj : Bool} {B : Int} {k : Nat} {cs ds : List Clip} {a b : Int} (h : lifted cs a b = some ds) (w : Wf adj B k cs) (hab : a < b) : Wf adj (B + 400) (k + 3) ds ∧ ∀ f, lane ds f = due (.lift a b) cs f := by
  refine ⟨(lifted_wf h w).1.mono (by omega) (by omega), fun f => ?_⟩
  rw [lifted_lane h w hab]
  show _ = if f < a then lane cs f else if f < b then none else lane cs f
  by_cases h1 : f < a
  · rw [if_pos h1, if_neg (by omega)]
  · rw [if_neg h1]
    by_cases h2 : f < b
    · rw [if_pos h2, if_pos ⟨by omega, h2⟩]
    · rw [if_neg h2, if_neg (by omega)]
theorem rout_due {adj : Bool} {B : Int} {k : Nat} {cs ds : List Clip} {a b : Int} (h : rippledOut cs a b = some ds) (w : Wf adj B k cs) (h0 : 0 ≤ a) (hab : a < b) : Wf adj (B + 400) (k + 3) ds ∧ ∀ f, lane ds f = due (.rout a b) cs f := by
  obtain ⟨h1, h2⟩ := rippledOut_ok h w h0 hab
  exact ⟨h1.mono (by omega) (by omega), h2⟩
theorem rin_due {adj : Bool} {B : Int} {k : Nat} {cs ds : List Clip} {m n : Int} (h : rippledIn cs m n = some ds) (w : Wf adj B k cs) (h0 : 1 ≤ n) (h20 : n ≤ 20) : Wf adj (B + 400) (k + 3) ds ∧ ∀ f, lane ds f = due (.rin m n) cs f := by
  obtain ⟨h1, h2⟩ := rippledIn_ok h w h0
  exact ⟨h1.mono (by omega) (by omega), h2⟩
theorem place_due {adj : Bool} {B : Int} {k : Nat} {cs ms ds : List Clip} {c : Clip} (h : lifted cs c.s c.e = some ms) (w : Wf adj B k cs) (oc : COk adj (B + 400) c) (p : PutIn ms c ds) : Wf adj (B + 400) (k + 3) ds ∧ ∀ f, lane ds f = due (.place c) cs f := by
  obtain ⟨h1, h2⟩ := placed_ok h (w.mono (by omega) (Nat.le_refl k)) oc p
  exact ⟨h1, h2⟩
theorem e_callS {sp : Sp} {E : L2.St → XK} {tA : TA} {σ : L2.St} {H : Hp} {Q : VK} (h : tA σ H fun vs H1 => sp vs H1 Q (E σ)) : tCallS sp E tA σ H Q := h
section
variable {P : Program} {w : World} {K : PySem.W.Frag} {mg : Str → Option Value} {base : Heap}
def spTold (K : PySem.W.Frag) : Sp := fun vs H Q _ => ∃ (δ : Deed) (a p : Addr) (cs : List Clip) (adj : Bool) (B : Int) (k : Nat), vs = [.str δ.word, .ref a, .ref p] ∧ ClipsAt H a cs ∧ Wf adj B k cs ∧ k ≤ 90 ∧ DeedAt H p δ ∧ DeedOk adj B δ ∧ Tabs (tbl K) H ∧
  (∀ H' q ds, ExtN H H' → Tabs (tbl K) H' → ClipsAt H' q ds → Wf adj (B + 400) (k + 3) ds → (∀ f, lane ds f = due δ cs f) → Q (.ref q) H') ∧ ∀ H' q z, H' q = some (.lst [.str "cut", z]) → Q (.ref q) H'
theorem ok_Ltold (T : Tx K mg) (TB : TabB base mg (He.cT K ("put", none)).1 (He.cT K ("put", none)).2) : FK P w K mg base CX0 8 "_law_told" ["_law_word", "_law_clips_here", "_law_numbers_here"] (spTold K) := by
  have F_lifted := ok_lifted (P := P) (w := w) (base := base) T
  have F_placed := ok_placed (P := P) (w := w) (base := base) T TB
  have F_rippled_out := ok_rippled_out (P := P) (w := w) (base := base) T
  have F_rippled_in := ok_rippled_in (P := P) (w := w) (base := base) T
  have XC := cutx_of T
  refine fk0 T.d_L_told T.g_L_told sc_L_told (fun vs H Q E h => ?_) (fun _ _ _ _ _ _ us hl => match us, hl with | [_, _, _], _ => rfl) (fun cdv A outer s H vs Q E hr h => ?_)
  · obtain ⟨δ, a, p, cs, adj, B, k, rfl, _⟩ := h
    rfl
  · obtain ⟨δ, a, p, cs, adj, B, k, rfl, hcs, wf, hk, hδ, okδ, hT, q1, q2⟩ := h
    have hlk := wf.len
    have w100 : ∃ adj B, Wf adj B 100 cs := ⟨adj, B, wf.ok, wf.sep, by omega⟩
    refine ⟨_, (pss_one (ps_try_asF (i := 3) rfl rfl sc_L_told.nd rfl (by rfl) ⟨rfl, by decide, Or.inl T.g_BadCut⟩ (fun W pn xe tk po => by exact (pss_cons (ps_if (pt_cmpR op_eq (pv 0) pe_str (nomark _))
        pss_never
        pss_nil)
      (pss_cons (ps_if (pt_cmpR op_eq (pv 0) pe_str (nomark _))
        pss_never
        pss_nil)
      (pss_cons (ps_if (pt_cmpR op_eq (pv 0) pe_str (nomark _))
        pss_never
        pss_nil)
      (pss_cons (ps_if (pt_cmpR op_eq (pv 0) pe_str (nomark _))
        pss_never
        pss_nil)
      (pss_cons (ps_if (pt_cmpR op_eq (pv 0) pe_str (nomark _))
        (pss_one (ps_ret (pe_fkS F_lifted (hr.mono (by decide)) (by rfl) (fun σ => passAt tk σ) (pa_cons (pv 1) (pa_cons (pe_ix (r := rIxL K) ix_list (pv 2) pe_int (fun _ _ => rfl)) (pa_cons (pe_ix (r := rIxL K) ix_list (pv 2) pe_int (fun _ _ => rfl)) pa_nil))))))
        pss_nil)
      (pss_cons (ps_if (pt_cmpR op_eq (pv 0) pe_str (nomark _))
        (pss_one (ps_ret (pe_fkS F_placed (hr.mono (by decide)) (by rfl) (fun σ => passAt tk σ) (pa_cons (pv 1) (pa_cons (pe_ix (r := rIxL K) ix_list (pv 2) pe_int (fun _ _ => rfl)) pa_nil)))))
        pss_nil)
      (pss_cons (ps_if (pt_cmpR op_eq (pv 0) pe_str (nomark _))
        (pss_one (ps_ret (pe_fkS F_rippled_out (hr.mono (by decide)) (by rfl) (fun σ => passAt tk σ) (pa_cons (pv 1) (pa_cons (pe_ix (r := rIxL K) ix_list (pv 2) pe_int (fun _ _ => rfl)) (pa_cons (pe_ix (r := rIxL K) ix_list (pv 2) pe_int (fun _ _ => rfl)) pa_nil))))))
        pss_nil)
      (pss_one (ps_ret (pe_fkS F_rippled_in (hr.mono (by decide)) (by rfl) (fun σ => passAt tk σ) (pa_cons (pv 1) (pa_cons (pe_ix (r := rIxL K) ix_list (pv 2) pe_int (fun _ _ => rfl)) (pa_cons (pe_ix (r := rIxL K) ix_list (pv 2) pe_int (fun _ _ => rfl)) pa_nil))))))))))))))
    (fun a oe cls d pn hz hf => pss_one (ps_ret (pe_lst (pa_cons pe_str (pa_cons (pe_xf XC.x T.n_place hz hf (pv 3)) pa_nil))))))), ?_⟩
    have no : ∀ {n t1 t2 bk ct} {u v : Str} {σ : L2.St} (hs : σ[0]? = some (some (.str v))) (hu : decide (v = u) = false) (h : t2 ⟨n, Q, bk, ct⟩ σ H), tIfS (tTest (tOp rEq (tVar 0) (tC (.str u)))) t1 t2 ⟨n, Q, bk, ct⟩ σ H := fun {n t1 t2 bk ct u v σ} hs hu h => r_no (ans_t (val_op (val_var hs) val_c fun Q q => ⟨rfl, q⟩)) (by rw [dec_str]; exact hu) h
    have yes : ∀ {n t1 t2 bk ct} {u v : Str} {σ : L2.St} (hs : σ[0]? = some (some (.str v))) (hu : decide (v = u) = true) (h : t1 ⟨n, Q, bk, ct⟩ σ H), tIfS (tTest (tOp rEq (tVar 0) (tC (.str u)))) t1 t2 ⟨n, Q, bk, ct⟩ σ H := fun {n t1 t2 bk ct u v σ} hs hu h => r_yes (ans_t (val_op (val_var hs) val_c fun Q q => ⟨rfl, q⟩)) (by rw [dec_str]; exact hu) h
    cases δ with
    | lift x y =>
      have hp : H p = some (.lst [.int x, .int y]) := hδ
      obtain ⟨x0, xy⟩ : 0 ≤ x ∧ x < y := okδ
      apply r_seq; refine no (v := "lift") rfl (by decide +kernel) ?_; apply r_next
      apply r_seq; refine no (v := "lift") rfl (by decide +kernel) ?_; apply r_next
      apply r_seq; refine no (v := "lift") rfl (by decide +kernel) ?_; apply r_next
      apply r_seq; refine no (v := "lift") rfl (by decide +kernel) ?_; apply r_next
      apply r_seq; refine yes (v := "lift") rfl (by decide +kernel) ?_
      apply r_ret
      apply e_callS
      apply e_consV; walk_at "val"
      apply e_consV; walk_at "val"
      apply e_consV; walk_at "val"
      apply e_nil
      refine ⟨a, cs, x, y, rfl, hcs, w100, fun ds e1 H1 r k1 hr1 => ?_, fun _ z => ?_⟩
      · obtain ⟨wd, hd⟩ := lift_due e1 wf xy
        exact q1 _ r ds k1.en (hT.ext k1.same) hr1 wd hd
      · intro H' d fs kk hd hl
        refine ⟨T.m_BadCut, fun b hb => ?_⟩
        apply r_ret
        apply e_lst
        apply e_consV; walk_at "val"
        apply e_cons
        refine val_var rfl _ ⟨rfl, rfl, d, fs, _, rfl, hd, hl, ?_⟩
        apply e_nil
        exact ⟨sz (by simp), fun p' hp' => q2 _ _ _ upd_same⟩
    | rout x y =>
      have hp : H p = some (.lst [.int x, .int y]) := hδ
      obtain ⟨x0, xy⟩ : 0 ≤ x ∧ x < y := okδ
      apply r_seq; refine no (v := "ripple out") rfl (by decide +kernel) ?_; apply r_next
      apply r_seq; refine no (v := "ripple out") rfl (by decide +kernel) ?_; apply r_next
      apply r_seq; refine no (v := "ripple out") rfl (by decide +kernel) ?_; apply r_next
      apply r_seq; refine no (v := "ripple out") rfl (by decide +kernel) ?_; apply r_next
      apply r_seq; refine no (v := "ripple out") rfl (by decide +kernel) ?_; apply r_next
      apply r_seq; refine no (v := "ripple out") rfl (by decide +kernel) ?_; apply r_next
      apply r_seq; refine yes (v := "ripple out") rfl (by decide +kernel) ?_
      apply r_ret
      apply e_callS
      apply e_consV; walk_at "val"
      apply e_consV; walk_at "val"
      apply e_consV; walk_at "val"
      apply e_nil
      refine ⟨a, cs, x, y, rfl, hcs, w100, fun ds e1 H1 r k1 hr1 => ?_, fun _ z => ?_⟩
      · obtain ⟨wd, hd⟩ := rout_due e1 wf x0 xy
        exact q1 _ r ds k1.en (hT.ext k1.same) hr1 wd hd
      · intro H' d fs kk hd hl
        refine ⟨T.m_BadCut, fun b hb => ?_⟩
        apply r_ret
        apply e_lst
        apply e_consV; walk_at "val"
        apply e_cons
        refine val_var rfl _ ⟨rfl, rfl, d, fs, _, rfl, hd, hl, ?_⟩
        apply e_nil
        exact ⟨sz (by simp), fun p' hp' => q2 _ _ _ upd_same⟩
    | rin x y =>
      have hp : H p = some (.lst [.int x, .int y]) := hδ
      obtain ⟨x0, y1, y2⟩ : 0 ≤ x ∧ 1 ≤ y ∧ y ≤ 20 := okδ
      apply r_seq; refine no (v := "ripple in") rfl (by decide +kernel) ?_; apply r_next
      apply r_seq; refine no (v := "ripple in") rfl (by decide +kernel) ?_; apply r_next
      apply r_seq; refine no (v := "ripple in") rfl (by decide +kernel) ?_; apply r_next
      apply r_seq; refine no (v := "ripple in") rfl (by decide +kernel) ?_; apply r_next
      apply r_seq; refine no (v := "ripple in") rfl (by decide +kernel) ?_; apply r_next
      apply r_seq; refine no (v := "ripple in") rfl (by decide +kernel) ?_; apply r_next
      apply r_seq; refine no (v := "ripple in") rfl (by decide +kernel) ?_; apply r_next
      apply r_ret
      apply e_callS
      apply e_consV; walk_at "val"
      apply e_consV; walk_at "val"
      apply e_consV; walk_at "val"
      apply e_nil
      refine ⟨a, cs, x, y, rfl, hcs, w100, fun ds e1 H1 r k1 hr1 => ?_, fun _ z => ?_⟩
      · obtain ⟨wd, hd⟩ := rin_due e1 wf y1 y2
        exact q1 _ r ds k1.en (hT.ext k1.same) hr1 wd hd
      · intro H' d fs kk hd hl
        refine ⟨T.m_BadCut, fun b hb => ?_⟩
        apply r_ret
        apply e_lst
        apply e_consV; walk_at "val"
        apply e_cons
        refine val_var rfl _ ⟨rfl, rfl, d, fs, _, rfl, hd, hl, ?_⟩
        apply e_nil
        exact ⟨sz (by simp), fun p' hp' => q2 _ _ _ upd_same⟩
    | place c =>
      obtain ⟨v, hp, hv⟩ := hδ
      apply r_seq; refine no (v := "place") rfl (by decide +kernel) ?_; apply r_next
      apply r_seq; refine no (v := "place") rfl (by decide +kernel) ?_; apply r_next
      apply r_seq; refine no (v := "place") rfl (by decide +kernel) ?_; apply r_next
      apply r_seq; refine no (v := "place") rfl (by decide +kernel) ?_; apply r_next
      apply r_seq; refine no (v := "place") rfl (by decide +kernel) ?_; apply r_next
      apply r_seq; refine yes (v := "place") rfl (by decide +kernel) ?_
      apply r_ret
      apply e_callS
      apply e_consV; walk_at "val"
      apply e_consV; walk_at "val"
      apply e_nil
      refine ⟨a, v, cs, c, rfl, hcs, hv, w100, hT, fun ms ds e1 pi H1 r en T1 hr1 => ?_, fun z => ?_⟩
      · obtain ⟨wd, hd⟩ := place_due e1 wf okδ pi
        exact q1 _ r ds en T1 hr1 wd hd
      · intro H' d fs kk hd hl
        refine ⟨T.m_BadCut, fun b hb => ?_⟩
        apply r_ret
        apply e_lst
        apply e_consV; walk_at "val"
        apply e_cons
        refine val_var rfl _ ⟨rfl, rfl, d, fs, _, rfl, hd, hl, ?_⟩
        apply e_nil
        exact ⟨sz (by simp), fun p' hp' => q2 _ _ _ upd_same⟩
end
end K34
end

section
set_option Elab.async false
set_option linter.all false
set_option maxRecDepth 100000
set_option maxHeartbeats 4000000
namespace K34
open PySem PySem.Spec PyProof.Rows L2 LamX
local macro_rules | `(tactic| walk_at "leaf") => `(tactic| first
  | exact fun Q q => ⟨_, _, rfl, rfl, q⟩
  | exact fun Q q => ⟨rfl, q⟩
  | exact fun Q q => .inl ⟨_, rfl, q⟩
  | exact fun Q q => ⟨_, rfl, q⟩
  | exact fun Q q => ⟨_, _, rfl, q⟩
  | exact ixt (by assumption) rfl
  | exact ixl (by assumption) rfl
  | exact isi_tt (by assumption)
  | exact isi_ii
  | exact isi_ib
  | exact len_t (by assumption)
  | exact len_l (by assumption)
  | exact isi_ll (by assumption)
  | exact isi_tl (by assumption)
  | exact fun Q q => ⟨_, _, rfl, rfl, by first | exact .inl ⟨by omega, by omega⟩ | exact .inr ⟨by omega, by omega⟩ | (refine ⟨?_, ?_⟩ <;> omega) | omega, q⟩)
local macro_rules | `(tactic| walk_at "val") => `(tactic| first
  | exact val_var rfl
  | exact val_c
  | ((with_reducible apply val_op); (walk_at "val"); (walk_at "val"); (walk_at "leaf"))
  | ((with_reducible apply val_cb1); (walk_at "val"); (walk_at "leaf"))
  | ((with_reducible apply val_cb2); (walk_at "val"); (walk_at "val"); (walk_at "leaf"))
  | ((with_reducible apply val_chain); (walk_at "val"); (walk_at "val"); (walk_at "leaf"); (walk_at "val"); (walk_at "leaf"))
  | ((with_reducible apply val_and); (walk_at "val"); (intro _); (walk_at "val"))
  | ((with_reducible apply val_or); (walk_at "val"); (intro _); (walk_at "val"))
  | ((with_reducible apply val_not); (walk_at "val"))
  | ((with_reducible apply val_un); (walk_at "val"); (walk_at "leaf"))
  | ((with_reducible apply val_call1); (walk_at "val"); (walk_at "spec"))
  | ((with_reducible apply val_call2); (walk_at "val"); (walk_at "val"); (walk_at "spec"))
  | ((with_reducible apply val_call3); (walk_at "val"); (walk_at "val"); (walk_at "val"); (walk_at "spec")))
local macro_rules | `(tactic| walk_at "ans") => `(tactic| first
  | ((with_reducible apply ans_t); (walk_at "val"))
  | ((with_reducible apply ans_val); (walk_at "val"))
  | ((with_reducible apply ans_not); (walk_at "ans"))
  | ((with_reducible apply ans_and3); (walk_at "ans"); (intro _); (walk_at "ans"))
  | ((with_reducible apply ans_or3); (walk_at "ans"); (intro _); (walk_at "ans")))
local macro_rules | `(tactic| walk_at "spec") => `(tactic| first
  | exact fun Q q => ⟨_, _, rfl, by assumption, q⟩
  | exact fun Q q => ⟨_, _, _, rfl, q⟩
  | exact fun Q q => ⟨_, _, rfl, by assumption, by assumption, q⟩
  | exact fun Q q => ⟨_, _, _, rfl, by assumption, by assumption, q⟩)

theorem r_par {i j : Nat} {ta : TA} {σ : L2.St} {H : Hp} {n : L2.St → Hp → Prop} {rt : VK} {bk ct : L2.St → Hp → Prop} (h : ta σ H fun vs H1 => ∃ v w, vs = [v, w] ∧ n ((σ.set i (some v)).set j (some w)) H1) : tPar i j ta ⟨n, rt, bk, ct⟩ σ H := h
theorem Wf.fade {adj : Bool} {B : Int} {k : Nat} {cs : List Clip} (w : Wf adj B k cs) (h : B ≤ 100000) : ∀ c ∈ cs, 0 ≤ c.a ∧ c.a ≤ 100000 ∧ 0 ≤ c.b ∧ c.b ≤ 100000 := fun c hc => by
  obtain ⟨s0, n1, eB, a0, b0, ab, _, _⟩ := w.ok c hc
  have e0 : c.e = c.s + c.n := rfl
  omega
theorem COk.fade {adj : Bool} {B : Int} {c : Clip} (w : COk adj B c) (h : B ≤ 100000) : 0 ≤ c.a ∧ c.a ≤ 100000 ∧ 0 ≤ c.b ∧ c.b ≤ 100000 := by
  obtain ⟨s0, n1, eB, a0, b0, ab, _, _⟩ := w
  have e0 : c.e = c.s + c.n := rfl
  omega
section
variable {P : Program} {w : World} {K : PySem.W.Frag} {mg : Str → Option Value} {base : Heap}
def spDue (K : PySem.W.Frag) : Sp := fun vs H Q _ => ∃ (δ : Deed) (a p : Addr) (cs : List Clip) (adj : Bool) (B : Int) (k : Nat) (f : Int), vs = [.str δ.word, .ref a, .ref p, .int f] ∧ ClipsAt H a cs ∧ Wf adj B k cs ∧ B ≤ 90000 ∧ DeedAt H p δ ∧ DeedOk adj B δ ∧
  ∀ H' v, Kp S0 H H' → LaneAt H' v (due δ cs f) → Q v H'
theorem ok_Ldue (T : Tx K mg) : FK P w K mg base CX0 4 "_law_due" ["_law_word", "_law_clips_here", "_law_numbers_here", "_law_frame_here"] (spDue K) := by
  have F_L_end := ok_Lend (P := P) (w := w) (base := base) T
  have F_L_level := ok_Llevel (P := P) (w := w) (base := base) T
  have F_L_lane := ok_Llane (P := P) (w := w) (base := base) T
  refine fk0 T.d_L_due T.g_L_due sc_L_due (fun vs H Q E h => ?_) (fun _ _ _ _ _ _ us hl => match us, hl with | [_, _, _, _], _ => rfl) (fun cdv A outer s H vs Q E hr h => ?_)
  · obtain ⟨δ, a, p, cs, adj, B, k, f, rfl, _⟩ := h
    rfl
  · obtain ⟨δ, a, p, cs, adj, B, k, f, rfl, hcs, wf, hB, hδ, okδ, q⟩ := h
    have hfade := wf.fade (by omega)
    refine ⟨_, (pss_cons (ps_if (pt_cmpR op_eq (pv 0) pe_str (nomark _))
      (pss_cons (ps_set (i := 4) sc_L_due.nd rfl (Or.inl rfl) (pe_ix (r := rIxL K) ix_list (pv 2) pe_int (fun _ _ => rfl)))
      (pss_cons (ps_if (PW.pt (pw_and (pt_cmpR op_le (pe_ix (r := rIxT K) ix_tup (pv 4) pe_int (fun _ _ => rfl)) (pv 3) (nomark _)) (pw_and1 (pt_cmpR op_lt (pv 3) (pe_fk F_L_end (hr.mono (by decide)) (by rfl) pass0 (pa_cons (pv 4) pa_nil)) (nomark _)))))
        (pss_one (ps_ret (pe_tup (pa_cons (pe_ix (r := rIxT K) ix_tup (pv 4) pe_int (fun _ _ => rfl)) (pa_cons (pe_fk F_L_level (hr.mono (by decide)) (by rfl) pass0 (pa_cons (pv 4) (pa_cons (pv 3) pa_nil))) pa_nil)))))
        pss_nil)
      (pss_one (ps_ret (pe_fk F_L_lane (hr.mono (by decide)) (by rfl) pass0 (pa_cons (pv 1) (pa_cons (pv 3) pa_nil)))))))
      pss_nil)
    (pss_cons (ps_par (i := 5) (j := 6) rfl sc_L_due.nd rfl rfl (by decide) rfl rfl (pa_cons (pe_ix (r := rIxL K) ix_list (pv 2) pe_int (fun _ _ => rfl)) (pa_cons (pe_ix (r := rIxL K) ix_list (pv 2) pe_int (fun _ _ => rfl)) pa_nil)) (by rfl))
    (pss_cons (ps_if (pt_cmpR op_lt (pv 3) (pv 5) (nomark _))
      (pss_one (ps_ret (pe_fk F_L_lane (hr.mono (by decide)) (by rfl) pass0 (pa_cons (pv 1) (pa_cons (pv 3) pa_nil)))))
      pss_nil)
    (pss_cons (ps_if (pt_cmpR op_eq (pv 0) pe_str (nomark _))
      (pss_one (ps_ret (pe_fk F_L_lane (hr.mono (by decide)) (by rfl) pass0 (pa_cons (pv 1) (pa_cons (pe_op op_sub (pe_op op_add (pv 3) (pv 6)) (pv 5)) pa_nil)))))
      pss_nil)
    (pss_cons (ps_if (pt_cmpR op_eq (pv 0) pe_str (nomark _))
      (pss_cons (ps_if (pt_cmpR op_lt (pv 3) (pe_op op_add (pv 5) (pv 6)) (nomark _))
        (pss_one (ps_ret pe_non))
        pss_nil)
      (pss_one (ps_ret (pe_fk F_L_lane (hr.mono (by decide)) (by rfl) pass0 (pa_cons (pv 1) (pa_cons (pe_op op_sub (pv 3) (pv 6)) pa_nil))))))
      pss_nil)
    (pss_cons (ps_if (pt_cmpR op_lt (pv 3) (pv 6) (nomark _))
      (pss_one (ps_ret pe_non))
      pss_nil)
    (pss_one (ps_ret (pe_fk F_L_lane (hr.mono (by decide)) (by rfl) pass0 (pa_cons (pv 1) (pa_cons (pv 3) pa_nil))))))))))), ?_⟩
    have no : ∀ {n t1 t2 bk ct} {u v : Str} {σ : L2.St} (hs : σ[0]? = some (some (.str v))) (hu : decide (v = u) = false) (h : t2 ⟨n, Q, bk, ct⟩ σ H), tIfS (tTest (tOp rEq (tVar 0) (tC (.str u)))) t1 t2 ⟨n, Q, bk, ct⟩ σ H := fun {n t1 t2 bk ct u v σ} hs hu h => r_no (ans_t (val_op (val_var hs) val_c fun Q q => ⟨rfl, q⟩)) (by rw [dec_str]; exact hu) h
    have yes : ∀ {n t1 t2 bk ct} {u v : Str} {σ : L2.St} (hs : σ[0]? = some (some (.str v))) (hu : decide (v = u) = true) (h : t1 ⟨n, Q, bk, ct⟩ σ H), tIfS (tTest (tOp rEq (tVar 0) (tC (.str u)))) t1 t2 ⟨n, Q, bk, ct⟩ σ H := fun {n t1 t2 bk ct u v σ} hs hu h => r_yes (ans_t (val_op (val_var hs) val_c fun Q q => ⟨rfl, q⟩)) (by rw [dec_str]; exact hu) h
    cases δ with
    | place c =>
      obtain ⟨v, hp, hv⟩ := hδ
      have okc : COk adj (B + 400) c := okδ
      have fc := okc.fade (by omega)
      obtain ⟨av, u, rfl, hav, hpu⟩ := id hv
      apply r_seq; refine yes (v := "place") rfl (by decide +kernel) ?_
      apply r_seq; apply r_setV; walk_at "val"
      apply r_seq; apply r_if; walk_at "ans"
      · intro hb
        have hb : c.s ≤ f ∧ f < c.e := split_tests hb
        have ed : due (.place c) cs f = some (c.p, level c f) := if_pos hb
        rw [ed] at q
        apply r_ret
        apply e_tup
        apply e_consV; walk_at "val"
        apply e_cons
        apply e_call
        apply e_consV; walk_at "val"
        apply e_consV; walk_at "val"
        apply e_nil
        refine ⟨_, c, f, rfl, hv, fc, ?_⟩
        apply e_nil
        refine ⟨sz (by simp), fun p hp => ?_⟩
        exact q _ _ (.new hp) ⟨p, u, rfl, upd_same, hpu.kp (.new hp : Kp S0 _ _)⟩
      · intro hb
        have hb : ¬ (c.s ≤ f ∧ f < c.e) := fun z => by
          obtain ⟨z1, z2⟩ := z
          simp [z1, z2] at hb
        have ed : due (.place c) cs f = lane cs f := if_neg hb
        rw [ed] at q
        apply r_next
        apply r_ret
        apply e_call
        apply e_consV; walk_at "val"
        apply e_consV; walk_at "val"
        apply e_nil
        exact ⟨a, cs, f, rfl, hcs, hfade, q⟩
    | lift x y =>
      have hp : H p = some (.lst [.int x, .int y]) := hδ
      apply r_seq; refine no (v := "lift") rfl (by decide +kernel) ?_; apply r_next
      apply r_seq; apply r_par
      apply e_consV; walk_at "val"
      apply e_consV; walk_at "val"
      apply e_nil
      refine ⟨_, _, rfl, ?_⟩
      apply r_seq; apply r_if; walk_at "ans"
      · intro h1
        have h1 : f < x := of_decide_eq_true h1
        rw [show due (.lift x y) cs f = lane cs f from if_pos h1] at q
        apply r_ret
        apply e_call
        apply e_consV; walk_at "val"
        apply e_consV; walk_at "val"
        apply e_nil
        exact ⟨a, cs, _, rfl, hcs, hfade, q⟩
      · intro h1
        have h1 : ¬ f < x := of_decide_eq_false h1
        apply r_next
        apply r_seq; refine no (v := "lift") rfl (by decide +kernel) ?_; apply r_next
        apply r_seq; refine no (v := "lift") rfl (by decide +kernel) ?_; apply r_next
        apply r_seq; apply r_if; walk_at "ans"
        · intro h2
          have h2 : f < y := of_decide_eq_true h2
          rw [show due (.lift x y) cs f = none from (if_neg h1).trans (if_pos h2)] at q
          apply r_retV; walk_at "val"
          exact q _ _ (.refl _ _) rfl
        · intro h2
          have h2 : ¬ f < y := of_decide_eq_false h2
          rw [show due (.lift x y) cs f = lane cs f from (if_neg h1).trans (if_neg h2)] at q
          apply r_next
          apply r_ret
          apply e_call
          apply e_consV; walk_at "val"
          apply e_consV; walk_at "val"
          apply e_nil
          exact ⟨a, cs, _, rfl, hcs, hfade, q⟩
    | rout x y =>
      have hp : H p = some (.lst [.int x, .int y]) := hδ
      apply r_seq; refine no (v := "ripple out") rfl (by decide +kernel) ?_; apply r_next
      apply r_seq; apply r_par
      apply e_consV; walk_at "val"
      apply e_consV; walk_at "val"
      apply e_nil
      refine ⟨_, _, rfl, ?_⟩
      apply r_seq; apply r_if; walk_at "ans"
      · intro h1
        have h1 : f < x := of_decide_eq_true h1
        rw [show due (.rout x y) cs f = lane cs f from if_pos h1] at q
        apply r_ret
        apply e_call
        apply e_consV; walk_at "val"
        apply e_consV; walk_at "val"
        apply e_nil
        exact ⟨a, cs, _, rfl, hcs, hfade, q⟩
      · intro h1
        have h1 : ¬ f < x := of_decide_eq_false h1
        rw [show due (.rout x y) cs f = lane cs (f + y - x) from if_neg h1] at q
        apply r_next
        apply r_seq; refine yes (v := "ripple out") rfl (by decide +kernel) ?_
        apply r_ret
        apply e_call
        apply e_consV; walk_at "val"
        apply e_consV; walk_at "val"
        apply e_nil
        exact ⟨a, cs, _, rfl, hcs, hfade, q⟩
    | rin x y =>
      have hp : H p = some (.lst [.int x, .int y]) := hδ
      apply r_seq; refine no (v := "ripple in") rfl (by decide +kernel) ?_; apply r_next
      apply r_seq; apply r_par
      apply e_consV; walk_at "val"
      apply e_consV; walk_at "val"
      apply e_nil
      refine ⟨_, _, rfl, ?_⟩
      apply r_seq; apply r_if; walk_at "ans"
      · intro h1
        have h1 : f < x := of_decide_eq_true h1
        rw [show due (.rin x y) cs f = lane cs f from if_pos h1] at q
        apply r_ret
        apply e_call
        apply e_consV; walk_at "val"
        apply e_consV; walk_at "val"
        apply e_nil
        exact ⟨a, cs, _, rfl, hcs, hfade, q⟩
      · intro h1
        have h1 : ¬ f < x := of_decide_eq_false h1
        apply r_next
        apply r_seq; refine no (v := "ripple in") rfl (by decide +kernel) ?_; apply r_next
        apply r_seq; refine yes (v := "ripple in") rfl (by decide +kernel) ?_
        apply r_seq; apply r_if; walk_at "ans"
        · intro h2
          have h2 : f < x + y := of_decide_eq_true h2
          rw [show due (.rin x y) cs f = none from (if_neg h1).trans (if_pos h2)] at q
          apply r_retV; walk_at "val"
          exact q _ _ (.refl _ _) rfl
        · intro h2
          have h2 : ¬ f < x + y := of_decide_eq_false h2
          rw [show due (.rin x y) cs f = lane cs (f - y) from (if_neg h1).trans (if_neg h2)] at q
          apply r_next
          apply r_ret
          apply e_call
          apply e_consV; walk_at "val"
          apply e_consV; walk_at "val"
          apply e_nil
          exact ⟨a, cs, _, rfl, hcs, hfade, q⟩
end
end K34
end

section
set_option Elab.async false
set_option linter.all false
set_option maxRecDepth 100000
set_option maxHeartbeats 4000000
namespace K34
open PySem PySem.Spec PyProof.Rows L2 LamX
local macro_rules | `(tactic| walk_at "leaf") => `(tactic| first
  | exact fun Q q => ⟨_, _, rfl, rfl, q⟩
  | exact fun Q q => ⟨rfl, q⟩
  | exact fun Q q => .inl ⟨_, rfl, q⟩
  | exact fun Q q => ⟨_, rfl, q⟩
  | exact fun Q q => ⟨_, _, rfl, q⟩
  | exact ixt (by assumption) rfl
  | exact ixl (by assumption) rfl
  | exact isi_tt (by assumption)
  | exact isi_ii
  | exact isi_ib
  | exact len_t (by assumption)
  | exact len_l (by assumption)
  | exact isi_ll (by assumption)
  | exact isi_tl (by assumption)
  | exact fun Q q => ⟨_, _, rfl, rfl, by first | exact .inl ⟨by omega, by omega⟩ | exact .inr ⟨by omega, by omega⟩ | (refine ⟨?_, ?_⟩ <;> omega) | omega, q⟩)
local macro_rules | `(tactic| walk_at "val") => `(tactic| first
  | exact val_var rfl
  | exact val_c
  | ((with_reducible apply val_op); (walk_at "val"); (walk_at "val"); (walk_at "leaf"))
  | ((with_reducible apply val_cb1); (walk_at "val"); (walk_at "leaf"))
  | ((with_reducible apply val_cb2); (walk_at "val"); (walk_at "val"); (walk_at "leaf"))
  | ((with_reducible apply val_chain); (walk_at "val"); (walk_at "val"); (walk_at "leaf"); (walk_at "val"); (walk_at "leaf"))
  | ((with_reducible apply val_and); (walk_at "val"); (intro _); (walk_at "val"))
  | ((with_reducible apply val_or); (walk_at "val"); (intro _); (walk_at "val"))
  | ((with_reducible apply val_not); (walk_at "val"))
  | ((with_reducible apply val_un); (walk_at "val"); (walk_at "leaf"))
  | ((with_reducible apply val_call1); (walk_at "val"); (walk_at "spec"))
  | ((with_reducible apply val_call2); (walk_at "val"); (walk_at "val"); (walk_at "spec"))
  | ((with_reducible apply val_call3); (walk_at "val"); (walk_at "val"); (walk_at "val"); (walk_at "spec")))
local macro_rules | `(tactic| walk_at "ans") => `(tactic| first
  | ((with_reducible apply ans_t); (walk_at "val"))
  | ((with_reducible apply ans_val); (walk_at "val"))
  | ((with_reducible apply ans_not); (walk_at "ans"))
  | ((with_reducible apply ans_and3); (walk_at "ans"); (intro _); (walk_at "ans"))
  | ((with_reducible apply ans_or3); (walk_at "ans"); (intro _); (walk_at "ans")))
local macro_rules | `(tactic| walk_at "spec") => `(tactic| first
  | exact fun Q q => ⟨_, _, rfl, by assumption, q⟩
  | exact fun Q q => ⟨_, _, _, rfl, q⟩
  | exact fun Q q => ⟨_, _, rfl, by assumption, by assumption, q⟩
  | exact fun Q q => ⟨_, _, _, rfl, by assumption, by assumption, q⟩)

/-! ### the data of a lane is laid -/
theorem depth_ints : ∀ ns : List Int, PyData.depthAll (ns.map PyData.int) = 0
  | [] => by simp [PyData.depthAll]
  | n :: r => by simp [PyData.depthAll, PyData.depth, depth_ints r]
theorem can_ints0 : ∀ ns : List Int, PyData.canLayAll0 (ns.map PyData.int) = true
  | [] => by simp [PyData.canLayAll0]
  | n :: r => by simp [PyData.canLayAll0, PyData.canLay0, can_ints0 r]
theorem ptD_ok (q : Option Pt) : (ptD q).canLay0 = true ∧ (ptD q).depth ≤ 4 := by
  cases q with
  | none => simp [ptD, PyData.canLay0, PyData.depth]
  | some p =>
    cases p with
    | solid n =>
      simp [ptD, Pt.d, PyData.canLay0, PyData.canLayAll0, PyData.depth, PyData.depthAll]
      decide +kernel
    | steps x y n =>
      simp [ptD, Pt.d, PyData.canLay0, PyData.canLayAll0, PyData.depth, PyData.depthAll]
      decide +kernel
    | pic w h vs cs =>
      simp [ptD, Pt.d, PyData.canLay0, PyData.canLayAll0, PyData.depth, PyData.depthAll, depth_ints, can_ints0]
      decide +kernel
theorem lane_shaped (q : Option (Option Pt × Int)) : SeqAt.shaped (laneD q) = true := by
  unfold SeqAt.shaped
  cases q with
  | none => simp [laneD, PyData.canLay0, PyData.depth]
  | some r =>
    obtain ⟨p, l⟩ := r
    obtain ⟨h1, h2⟩ := ptD_ok p
    simp [laneD, PyData.canLay0, PyData.canLayAll0, PyData.depth, PyData.depthAll, h1]
    omega
theorem lane_eqv (q : Option (Option Pt × Int)) : PyData.eqv (laneD q) (laneD q) = true := SeqAt.eqv_refl _ (SeqAt.canLay_of_shaped (lane_shaped q))
theorem cat2 {K : PySem.W.Frag} {H : Hp} {a b : Addr} {xs ys : List V} {Q : VK} (ha : H a = some (.tup xs)) (hb : H b = some (.tup ys)) (hz : xs.length + ys.length ≤ 1000) (q : ∀ H' p, Kp S0 H H' → H' p = some (.tup (xs ++ ys)) → Q (.ref p) H') : rCatA K (.ref a) (.ref b) H Q := by
  refine ⟨a, b, xs, ys, rfl, rfl, .of ha, .of hb, sz hz, fun e => ?_, fun _ e => ?_, fun _ _ p hp => q _ p (.new hp) upd_same⟩
  · refine q H b (.refl _ _) ?_
    rw [e]
    exact hb
  · refine q H a (.refl _ _) ?_
    rw [e, List.append_nil]
    exact ha
theorem Deck.en {H H' : Hp} {d s : Addr} (h : Deck H d s) (k : ExtN H H') : Deck H' d s := by
  obtain ⟨x0, x1, x2, kk, ns, h1, h2, h3, h4⟩ := h
  exact ⟨x0, x1, x2, kk, ns, k _ _ h1 (fun ps z => by cases z), h2, h3, k _ _ h4 (fun ps z => by cases z)⟩
theorem DeedAt.en {H H' : Hp} {p : Addr} {δ : Deed} (h : DeedAt H p δ) (k : ExtN H H') : DeedAt H' p δ := by
  cases δ with
  | place c =>
    obtain ⟨v, h1, h2⟩ := h
    exact ⟨v, k _ _ h1 (fun ps z => by cases z), h2.kp (extN_kp k)⟩
  | lift a b => exact k _ _ h (fun ps z => by cases z)
  | rout a b => exact k _ _ h (fun ps z => by cases z)
  | rin a b => exact k _ _ h (fun ps z => by cases z)
theorem DeedAt.sa {H H' : Hp} {p d : Addr} {δ : Deed} (h : DeedAt H p δ) (n : p ≠ d) (k : Kp (SA d) H H') : DeedAt H' p δ := by
  cases δ with
  | place c =>
    obtain ⟨v, h1, h2⟩ := h
    exact ⟨v, k.all _ _ n h1, h2.kp k⟩
  | lift a b => exact k.all _ _ n h
  | rout a b => exact k.all _ _ n h
  | rin a b => exact k.all _ _ n h
theorem deed_ne {H : Hp} {p d s : Addr} {δ : Deed} (h : DeedAt H p δ) (D : Deck H d s) : p ≠ d := fun e => by
  obtain ⟨x0, x1, x2, kk, ns, h1, _⟩ := D
  rw [e] at h
  cases δ with
  | place c =>
    obtain ⟨v, h2, _⟩ := h
    rw [h1] at h2
    cases h2
  | lift a b =>
    have h2 : H d = _ := h
    rw [h1] at h2
    cases h2
  | rout a b =>
    have h2 : H d = _ := h
    rw [h1] at h2
    cases h2
  | rin a b =>
    have h2 : H d = _ := h
    rw [h1] at h2
    cases h2
theorem ite_no {c : Bool} {A B : Prop} (e : c = false) (h : B) : if c = true then A else B := by
  rw [e]
  exact iteF h
section
variable {P : Program} {w : World} {K : PySem.W.Frag} {mg : Str → Option Value} {base : Heap}
def spLaw (K : PySem.W.Frag) : Sp := fun vs H Q _ => ∃ (a : Addr) (ns : List Int), vs = [.ref a] ∧ SqL K H a (ns.map V.int) ∧ Tabs (tbl K) H ∧ ∀ H', Q (.bl true) H'
theorem ok_law (T : Tx K mg) (TB : TabB base mg (He.cT K ("put", none)).1 (He.cT K ("put", none)).2) {fd : FuncData} (F : FunD K "law" "law" (defArgs s_law) (defBody s_law) (defScope s_law) [] [] (He.ga K "law") fd) : FnOk P w K mg base CX0 9 (He.ga K "law") fd ["_law_script"] (spLaw K) := by
  have F_L_deck := ok_deck (P := P) (w := w) (base := base) T
  have F_L_draw := ok_draw (P := P) (w := w) (base := base) T
  have F_L_clips := ok_Lclips (P := P) (w := w) (base := base) T
  have F_L_numbers := ok_Lnumbers (P := P) (w := w) (base := base) T
  have F_L_told := ok_Ltold (P := P) (w := w) (base := base) T TB
  have F_L_frames := ok_Lframes (P := P) (w := w) (base := base) T
  have F_L_due := ok_Ldue (P := P) (w := w) (base := base) T
  have F_check_clips := ok_check_clips (P := P) (w := w) (base := base) T
  have F_lane := ok_lane (P := P) (w := w) (base := base) T
  refine F.ok sc_law (fun vs H Q E h => ?_) (fun cdv A outer s H vs Q E hr h => ?_)
  · obtain ⟨a, ns, rfl, _⟩ := h
    rfl
  · obtain ⟨a, ns, rfl, ha, hT, q⟩ := h
    refine ⟨_, PSs.nox (pss_cons (ps_set (i := 1) sc_law.nd rfl (Or.inl rfl) (pe_fk F_L_deck (hr.mono (by decide)) (by rfl) pass0 (pa_cons (pv 0) pa_nil)))
    (pss_cons (ps_set (i := 2) sc_law.nd rfl (Or.inl rfl) (pe_cmpR op_eq (pe_fk F_L_draw (hr.mono (by decide)) (by rfl) pass0 (pa_cons (pv 1) (pa_cons pe_int pa_nil))) pe_int (nomark _)))
    (pss_cons (ps_set (i := 3) sc_law.nd rfl (Or.inl rfl) (pe_fk F_L_clips (hr.mono (by decide)) (by rfl) pass0 (pa_cons (pv 1) (pa_cons pe_int (pa_cons (pv 2) pa_nil)))))
    (pss_cons (ps_for PassesOwn.never rfl (pi_range1 (by rfl) T.z_range (pa_cons pe_int pa_nil)) (pg_name (i := 4) sc_law.nd rfl (Or.inl rfl))
      (pss_cons (ps_set (i := 5) sc_law.nd rfl (Or.inl rfl) (pe_ix (r := rIxL K) ix_list (pe_lst (pa_cons pe_str (pa_cons pe_str (pa_cons pe_str (pa_cons pe_str pa_nil))))) (pe_fk F_L_draw (hr.mono (by decide)) (by rfl) pass0 (pa_cons (pv 1) (pa_cons pe_int pa_nil))) (fun _ _ => rfl)))
      (pss_cons (ps_set (i := 6) sc_law.nd rfl (Or.inl rfl) (pe_fk F_L_numbers (hr.mono (by decide)) (by rfl) pass0 (pa_cons (pv 1) (pa_cons (pv 5) (pa_cons (pv 3) (pa_cons (pv 2) pa_nil))))))
      (pss_cons (ps_set (i := 7) sc_law.nd rfl (Or.inl rfl) (pe_fk F_L_told (hr.mono (by decide)) (by rfl) pass0 (pa_cons (pv 5) (pa_cons (pv 3) (pa_cons (pv 6) pa_nil)))))
      (pss_cons (ps_if (pt_val (pe_callB call_isi (by rfl) T.z_isinstance (by decide +kernel) (pa_cons (pv 7) (pa_cons (pe_bty (T := "list") (by rfl) T.z_list (by decide +kernel)) pa_nil))))
        (pss_one (ps_ret (pe_cmpR op_eq (pe_ix (r := rIxL K) ix_list (pv 7) pe_int (fun _ _ => rfl)) pe_str (nomark _))))
        pss_nil)
      (pss_cons (ps_if (pt_cmpR op_notN (pe_fk F_check_clips (hr.mono (by decide)) (by rfl) pass0 (pa_cons (pv 7) (pa_cons (pv 2) pa_nil))) pe_non (nomark _))
        (pss_one (ps_ret pe_bl))
        pss_nil)
      (pss_cons (ps_for PassesOwn.never rfl (pi_list (pe_fk F_L_frames (hr.mono (by decide)) (by rfl) pass0 (pa_cons (pe_op op_catA (pv 3) (pv 7)) (pa_cons (pe_lst (pa_cons (pe_fk F_L_draw (hr.mono (by decide)) (by rfl) pass0 (pa_cons (pv 1) (pa_cons pe_int pa_nil))) pa_nil)) pa_nil)))) (pg_name (i := 8) sc_law.nd rfl (Or.inl rfl))
        (pss_one (ps_if (pt_cmpR (op_neD hr.units) (pe_fk F_lane (hr.mono (by decide)) (by rfl) pass0 (pa_cons (pv 7) (pa_cons (pv 8) pa_nil))) (pe_fk F_L_due (hr.mono (by decide)) (by rfl) pass0 (pa_cons (pv 5) (pa_cons (pv 3) (pa_cons (pv 6) (pa_cons (pv 8) pa_nil))))) (nomark _))
          (pss_one (ps_ret pe_bl))
          pss_nil)))
      (pss_one (ps_set (i := 3) sc_law.nd rfl (Or.inl rfl) (pv 7))))))))))
    (pss_one (ps_ret pe_bl)))))), ?_⟩
    apply r_seq; apply r_set
    apply e_call
    apply e_consV; walk_at "val"
    apply e_nil
    refine ⟨a, ns, rfl, ha, fun H1 d sA k1 D1 => ?_⟩
    have T1 := hT.ext k1.same
    apply r_seq; apply r_set
    apply e_op
    refine e_draw (val_var rfl) val_c D1 (by omega) (by omega) fun H2 v2 k2 D2 c0 c1 => ?_
    have T2 := D1.tabs k2 T1
    apply e_val; walk_at "val"
    obtain ⟨adj, hadj⟩ : ∃ adj : Bool, adj = decide (V.int v2 = V.int 0) := ⟨_, rfl⟩
    refine ⟨rfl, ?_⟩
    rw [← hadj]
    apply r_seq; apply r_set
    apply e_call
    apply e_consV; walk_at "val"
    apply e_consV; walk_at "val"
    apply e_consV; walk_at "val"
    apply e_nil
    refine ⟨d, sA, adj, rfl, D2, fun H3 a3 cs3 k3 D3 hc3 w3 => ?_⟩
    have T3 := D2.tabs k3 T2
    apply r_seq; apply r_for
    apply i_rng1
    apply e_consV; walk_at "val"
    apply e_nil
    refine ⟨2, rfl, by omega, by omega, ?_⟩
    refine for_rangeR (fun i σ' H' => ∃ (b : Addr) (cs : List Clip) (y4 y5 y6 y7 y8 : Option V), σ' = [some (.ref a), some (.ref d), some (.bl adj), some (.ref b), y4, y5, y6, y7, y8] ∧ Deck H' d sA ∧ Tabs (tbl K) H' ∧ ClipsAt H' b cs ∧ Wf adj (7000 + 400 * i) (5 + 3 * i) cs)
      ⟨a3, cs3, _, _, _, _, _, rfl, D3, T3, hc3, w3⟩ (fun i σ' H' hi h => ?_) (fun σ' H' h => ?_)
    · obtain ⟨b, cs, y4, y5, y6, y7, y8, rfl, D4, T4, hc4, w4⟩ := h
      have hi : i < 2 := hi
      apply r_seq; apply r_set
      apply e_op
      apply e_lst
      apply e_consV; walk_at "val"
      apply e_consV; walk_at "val"
      apply e_consV; walk_at "val"
      apply e_consV; walk_at "val"
      apply e_nil
      refine ⟨sz (by simp), fun p5 hp5 => ?_⟩
      have k5 : Kp S0 H' (upd H' p5 (.lst [.str "lift", .str "place", .str "ripple out", .str "ripple in"])) := .new hp5
      have D5 := D4.new hp5 (o := .lst [.str "lift", .str "place", .str "ripple out", .str "ripple in"])
      refine e_draw (val_var rfl) val_c D5 (by omega) (by omega) fun H6 v6 k6 D6 d0 d1 => ?_
      have hl6 := k6.all _ _ (fun z => (D4.ne hp5).1 z.symm) upd_same
      have T6 := D5.tabs k6 (T4.ext k5.same)
      have hc6 := (hc4.kp k5).kp k6
      obtain ⟨wd, hwd, hw4⟩ : ∃ wd : Str, atI [V.str "lift", .str "place", .str "ripple out", .str "ripple in"] v6 = some (.str wd) ∧ (wd = "lift" ∨ wd = "place" ∨ wd = "ripple out" ∨ wd = "ripple in") := by
        have z : v6 = 0 ∨ v6 = 1 ∨ v6 = 2 ∨ v6 = 3 := by omega
        rcases z with rfl | rfl | rfl | rfl
        · exact ⟨_, rfl, .inl rfl⟩
        · exact ⟨_, rfl, .inr (.inl rfl)⟩
        · exact ⟨_, rfl, .inr (.inr (.inl rfl))⟩
        · exact ⟨_, rfl, .inr (.inr (.inr rfl))⟩
      refine ⟨_, _, _, _, rfl, rfl, .of hl6, hwd, ?_⟩
      apply r_seq; apply r_set
      apply e_call
      apply e_consV; walk_at "val"
      apply e_consV; walk_at "val"
      apply e_consV; walk_at "val"
      apply e_consV; walk_at "val"
      apply e_nil
      refine ⟨d, sA, wd, b, cs, adj, _, _, rfl, D6, hc6, w4, by omega, by omega, hw4, fun H7 p7 δ k7 D7 hδ7 eδ okδ => ?_⟩
      subst eδ
      have T7 := D6.tabs k7 T6
      have hc7 := hc6.kp k7
      apply r_seq; apply r_set
      apply e_call
      apply e_consV; walk_at "val"
      apply e_consV; walk_at "val"
      apply e_consV; walk_at "val"
      apply e_nil
      refine ⟨δ, b, p7, cs, adj, _, _, rfl, hc7, w4, by omega, hδ7, okδ, T7, fun H8 b8 ds en8 T8 hc8 w8 hdue => ?_, fun H8 b8 z hb8 => ?_⟩
      · obtain ⟨xs8, ha8, hx8⟩ := id hc8
        have hl8 : xs8.length = ds.length := Paired.length hx8
        have D8 := D7.en en8
        have hb8 := hc7.kp (extN_kp en8)
        obtain ⟨xsb, hab, hxb⟩ := id hb8
        have hlb : xsb.length = cs.length := Paired.length hxb
        have hδ8 := hδ7.en en8
        have l4 := w4.len
        have l8 := w8.len
        apply r_seq; apply r_no; walk_at "ans"
        · rfl
        apply r_next
        apply r_seq; apply r_ifH; apply e_test; apply e_op
        apply e_call
        apply e_consV; walk_at "val"
        apply e_consV; walk_at "val"
        apply e_nil
        refine ⟨b8, ds, adj, rfl, hc8, w8.mono (by omega) (by omega), fun H9 k9 => ?_⟩
        apply e_val; walk_at "val"
        refine ⟨rfl, _, rfl, ite_no rfl ?_⟩
        apply r_next
        have D9 := D8.kp k9
        have T9 := T8.ext k9.same
        have ha9 := k9.tup _ _ ha8
        have hab9 := k9.tup _ _ hab
        have hδ9 := hδ8.kp k9
        apply r_seq; apply r_for
        apply i_list
        apply e_call
        apply e_cons
        apply e_op
        apply e_val; walk_at "val"
        apply e_val; walk_at "val"
        refine cat2 hab9 ha9 (by omega) fun H10 p10 k10 hp10 => ?_
        have D10 := D9.kp k10
        apply e_cons
        apply e_lst
        apply e_cons
        refine e_draw (val_var rfl) val_c D10 (by omega) (by omega) fun H11 v11 k11 D11 f0 f1 => ?_
        have T11 := D10.tabs k11 (T9.ext k10.same)
        have hδ11 := (hδ9.kp k10).sa (deed_ne (hδ9.kp k10) D10) k11
        have hall11 : ClipsAt H11 p10 (cs ++ ds) := ClipsAt.kp k11 ⟨_, hp10, Pd.append (Paired.kp k10 (Paired.kp k9 hxb)) (Paired.kp k10 (Paired.kp k9 hx8))⟩
        have hcs11 := ((hb8.kp k9).kp k10).kp k11
        have hds11 := ((hc8.kp k9).kp k10).kp k11
        apply e_nil
        refine ⟨sz (by simp), fun p12 hp12 => ?_⟩
        have k12 : Kp S0 H11 (upd H11 p12 (.lst [.int v11])) := .new hp12
        apply e_nil
        refine ⟨p10, cs ++ ds, adj, 7000 + 400 * i + 400, p12, v11, rfl, hall11.kp k12, fun c hc => ?_, by simp; omega, by omega, upd_same, f0, by omega, fun H13 p13 ms k13 hp13 => ?_⟩
        · rcases List.mem_append.mp hc with hc | hc
          · exact (w4.ok c hc).mono (by omega)
          · exact w8.ok c hc
        have D13 := (D11.kp k12).kp k13
        have T13 := (T11.ext k12.same).ext k13.same
        have hδ13 := (hδ11.kp k12).kp k13
        have hcs13 := (hcs11.kp k12).kp k13
        have hds13 := (hds11.kp k12).kp k13
        refine ⟨p13, rfl, ⟨_, .of hp13⟩, ?_⟩
        refine for_listR (xs := ms.map V.int) (fun j σ' H14 => ∃ y8, σ' = [some (.ref a), some (.ref d), some (.bl adj), some (.ref b), some (.int (0 + (i : Nat))), some (.str δ.word), some (.ref p7), some (.ref b8), y8] ∧ Kp S0 H13 H14)
          ⟨_, rfl, .refl _ _⟩ (fun j σ' H14 _ h => ?_) (fun j x σ' H14 hxj h => ?_) (fun σ' H14 h => ?_)
        · obtain ⟨_, _, k⟩ := h
          exact .of (k.all _ _ (fun z => z) hp13)
        · obtain ⟨y8, rfl, k14⟩ := h
          obtain ⟨f, _, rfl⟩ := List.mem_map.mp (List.mem_of_getElem? hxj)
          apply r_ifH; apply e_test; apply e_op
          apply e_call
          apply e_consV; walk_at "val"
          apply e_consV; walk_at "val"
          apply e_nil
          refine ⟨b8, ds, f, rfl, hds13.kp k14, w8.fade (by omega), fun H15 v15 k15 hv15 => ?_⟩
          apply e_call
          apply e_consV; walk_at "val"
          apply e_consV; walk_at "val"
          apply e_consV; walk_at "val"
          apply e_consV; walk_at "val"
          apply e_nil
          refine ⟨δ, b, p7, cs, adj, _, _, f, rfl, (hcs13.kp k14).kp k15, w4, by omega, (hδ13.kp k14).kp k15, okδ, fun H16 v16 k16 hv16 => ?_⟩
          rw [← hdue f] at hv16
          refine ⟨_, _, (hv15.kp k16).dp, hv16.dp, lane_shaped _, lane_shaped _, _, rfl, ite_no ?_ ?_⟩
          · rw [lane_eqv]
            rfl
          · apply r_next
            exact ⟨_, rfl, (k14.trans k15).trans k16⟩
        · obtain ⟨y8, rfl, k14⟩ := h
          apply r_setV; walk_at "val"
          exact ⟨b8, ds, _, _, _, _, _, rfl, D13.kp k14, T13.ext k14.same, hds13.kp k14, w8.mono (by omega) (by omega)⟩
      · apply r_seq; apply r_yes; walk_at "ans"
        · rfl
        apply r_retV; walk_at "val"
        have e : decide (V.str "cut" = V.str "cut") = true := decide_eq_true rfl
        show Q (.bl (decide (V.str "cut" = V.str "cut"))) H8
        rw [e]
        exact q _
    · apply r_retV; walk_at "val"
      exact q _
end
end K34
end

section
set_option Elab.async false
set_option linter.all false
set_option maxRecDepth 100000
set_option maxHeartbeats 0
namespace K34
open PySem PySem.Spec PyProof.Rows L2 LamX
theorem tabs_nil {K : PySem.W.Frag} {H : Hp} (h : H (He.cT K ("put", none)).2 = some (.tbl #[])) : Tabs (tbl K) H := fun p hp => by
  rw [List.mem_singleton.mp hp]
  exact TabS.nil h
theorem law_at {w : World} {h : Heap} {K : PySem.W.Frag} {mg : Str → Option Value} {f : Addr} (X : K.In h) (G : h.Ns mainGlobals mg) (hf : mg ("law" : Str) = some (.ref f)) (c : He.SaysX fa fn [] tf ex w h K) :
    LawAtS PySem.Challenge.rw_onlythedirt_k34_whole_lanes w K CX0 9 63 "_law_script" mg f h := by
  have T := tx_mk X G c
  have e := hf.symm.trans T.g_law
  cases e
  obtain ⟨fd, F⟩ := T.d_law
  have b := FunD.bindsA (ps := ["_law_script"]) F fun _ _ _ _ _ _ us hl => match us, hl with | [_], _ => rfl
  have htf : (("put", none) : He.Defn) ∈ tf := List.mem_singleton.mpr rfl
  refine ⟨fd, [He.cT K ("put", none)], spLaw K, fun p hp => ?_, fun p hp => ?_, fun p hp => ?_, fun s u => b s [u] rfl, fun H a ns _ _ hT hS => ⟨a, ns, rfl, hS, tabs_nil (hT _ (List.mem_singleton.mpr rfl)), fun _ => rfl⟩, fun base _ Gb hB => ok_law T (hB _ (List.mem_singleton.mpr rfl)) F⟩
  · rw [List.mem_singleton.mp hp]
    exact c.empty _ htf
  · rw [List.mem_singleton.mp hp]
    exact c.out _ htf
  · rw [List.mem_singleton.mp hp]
    exact PySem.W.codeHd_of_K X (c.hd _ htf)
end K34
open PySem PySem.W PySem.Calls PyProof.Rows
theorem PySem.Challenge.cw_onlythedirt_k34_whole_lanes_holds : PySem.Challenge.rw_onlythedirt_k34_whole_lanes.Holds := by
  w_on; o_law
  refine HandSHeadRun.head_any (r := OpenLaw.row PySem.Challenge.rw_onlythedirt_k34_whole_lanes) (q := view (OpenLaw.row PySem.Challenge.rw_onlythedirt_k34_whole_lanes).prog [64]) (H := K34.hk) (ob := K34.ob) (M := 4000) (loose := K34.names) (d := HandSHeadRun.topDef (OpenLaw.row PySem.Challenge.rw_onlythedirt_k34_whole_lanes).prog 64) (kwd := []) K34.ob_eq
    (by kernel_rfl) (fun s => by kernel_rfl) K34.run (by kernel_rfl) (by kernel_rfl) (by kernel_rfl) (by rfl) (by first | assumption | decide +kernel) (by decide +kernel) ⟨rfl, rfl, rfl, rfl, rfl, by decide +kernel⟩ ?hw ?hc
  case hw => w_witness2
  case hc =>
    refine LamX.walk_ofTsE (l := PySem.Challenge.rw_onlythedirt_k34_whole_lanes) (n := 63) (k := 9) (x := "_law_script") (CX := fun _ => L2.CX0) rfl (by decide) (by kernel_rfl) ⟨rfl, by decide, by decide⟩ ?F (fun _ _ _ _ _ z => z)
    intro w mg fa h Y G hmg0
    obtain ⟨K, KX, c⟩ := Y
    have hmg : mg ("law" : PySem.Str) = some (.ref fa) := by
      have e : (HandSHeadRun.topDef (OpenLaw.row PySem.Challenge.rw_onlythedirt_k34_whole_lanes).prog 64).name = ("law" : PySem.Str) := by kernel_rfl
      rw [← e]
      exact hmg0
    exact ⟨K, KX, K34.law_at KX G hmg c⟩
end
