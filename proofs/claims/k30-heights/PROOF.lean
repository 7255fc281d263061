import PyProof.Rows.All
import Wide.All
import OpenK.AllK
import Wide.FinOn
import PyProof.ListStr
import KE.KSortTup
import KE.KSortTupAny
import KE.KSortTupG
import HandS.Sort
import HandS.ForMost
import HandS.Codes
import HandS.Conv
import HandS.Walk
import HandS.IsInst
import HandS.TupAny
import HandS.TupLe
import HandS.StrMore
import PySem.Challenge.RW_greedycuts_k30_whole_heights_by_whomever
set_option Elab.async false
set_option linter.all false
set_option maxRecDepth 100000
set_option maxHeartbeats 4000000
/-! The mathematics: words with costs, right heights, cuts, the rows that the cuts loop makes. Core Lean alone. -/
namespace K30
abbrev Wd := List Nat
abbrev WL := List (Wd × Int)

/-- a word's cost: of the first entry with this word -/
def costOf (W : WL) (w : Wd) : Int := match W.find? (fun e => decide (e.1 = w)) with
  | some e => e.2
  | none => 0
def costR (W : WL) (r : List Wd) : Int := (r.map (costOf W)).sum

/-- the words are different -/
def NdW (W : WL) : Prop := (W.map (·.1)).Nodup

theorem costOf_mem {W : WL} (nd : NdW W) {w : Wd} {c : Int} (h : (w, c) ∈ W) : costOf W w = c := by
  induction W with
  | nil => exact absurd h (by simp)
  | cons e r ih =>
    obtain ⟨w0, c0⟩ := e
    have nd' : w0 ∉ r.map (·.1) ∧ (r.map (·.1)).Nodup := List.nodup_cons.mp nd
    unfold costOf
    rw [List.find?_cons]
    by_cases hw : w0 = w
    · have e1 : decide ((w0, c0).1 = w) = true := decide_eq_true hw
      rw [e1]
      rcases List.mem_cons.mp h with h | h
      · exact (Prod.mk.inj h).2.symm
      · exact absurd (List.mem_map.mpr ⟨_, h, hw.symm⟩) nd'.1
    · have e1 : decide ((w0, c0).1 = w) = false := decide_eq_false hw
      rw [e1]
      rcases List.mem_cons.mp h with h | h
      · exact absurd (Prod.mk.inj h).1.symm hw
      · exact ih nd'.2 h

/-- the texts' and words' form that the proofs lean on -/
structure Good (W : WL) (T : Wd) : Prop where
  nd : NdW W
  pos : ∀ w c, (w, c) ∈ W → 1 ≤ w.length
  txt : ∀ x ∈ T, ∃ c, ([x], c) ∈ W

/-- right heights -/
structure Right (W : WL) (T : Wd) (ns : List Int) : Prop where
  len : ns.length = T.length + 1
  zero : ns[0]? = some 0
  step : ∀ (i : Nat) (w : Wd) (c a b : Int), (w, c) ∈ W → i < T.length → w <+: T.drop i → ns[i]? = some a → ns[i + w.length]? = some b → b ≤ a + c

/-- a row of words of the list -/
def InW (W : WL) (r : List Wd) : Prop := ∀ w ∈ r, ∃ c, (w, c) ∈ W

theorem get_lt {ns : List Int} {i : Nat} (h : i < ns.length) : ∃ a, ns[i]? = some a := ⟨ns[i], List.getElem?_eq_getElem h⟩

/-- along a row right heights rise by at most its cost -/
theorem rise {W : WL} {T : Wd} {ns : List Int} (G : Good W T) (R : Right W T ns) : ∀ (r : List Wd) (i : Nat) (a b : Int), InW W r → r.flatten <+: T.drop i → ns[i]? = some a → ns[i + r.flatten.length]? = some b → b ≤ a + costR W r := by
  intro r
  induction r with
  | nil =>
    intro i a b _ _ ha hb
    have e : ns[i]? = some b := hb
    rw [ha] at e
    have e' := Option.some.inj e
    show b ≤ a + ([] : List Int).sum
    rw [List.sum_nil]
    omega
  | cons w r ih =>
    intro i a b hr hp ha hb
    obtain ⟨c, hc⟩ := hr w List.mem_cons_self
    rw [List.flatten_cons] at hp hb
    have hw : w <+: T.drop i := (List.prefix_append w r.flatten).trans hp
    have h1 := G.pos w c hc
    have hl := hp.length_le
    rw [List.length_append, List.length_drop] at hl
    have hi : i < T.length := by omega
    obtain ⟨m, hm⟩ : ∃ m, ns[i + w.length]? = some m := get_lt (by rw [R.len]; omega)
    have s1 := R.step i w c a m hc hi hw ha hm
    have hp2 : r.flatten <+: T.drop (i + w.length) := by
      obtain ⟨t, ht⟩ := hp
      refine ⟨t, ?_⟩
      rw [← List.drop_drop, ← ht, List.append_assoc, List.drop_left]
    have s2 := ih (i + w.length) m b (fun v hv => hr v (List.mem_cons_of_mem _ hv)) hp2 hm (by rw [Nat.add_assoc, ← List.length_append]; exact hb)
    have e : costR W (w :: r) = c + costR W r := by
      unfold costR
      rw [List.map_cons, List.sum_cons, costOf_mem G.nd hc]
    rw [e]
    omega

/-- .. of a whole cut -/
theorem rise_cut {W : WL} {T : Wd} {ns : List Int} (G : Good W T) (R : Right W T ns) {r : List Wd} (hr : InW W r) (e : r.flatten = T) {b : Int} (hb : ns[T.length]? = some b) : b ≤ costR W r := by
  have h := rise G R r 0 0 b hr (by rw [e, List.drop_zero]; exact List.prefix_refl T) R.zero (by rw [Nat.zero_add, e]; exact hb)
  omega

/-- what costs_ahead makes -/
structure Ahead (W : WL) (T : Wd) (n : Nat) (ns : List Int) : Prop where
  len : ns.length = n + 1
  zero : ns[0]? = some 0
  low : ∀ (e : Nat) (w : Wd) (c a b : Int), 1 ≤ e → e ≤ n → (w, c) ∈ W → w <:+ T.take e → ns[e - w.length]? = some a → ns[e]? = some b → b ≤ a + c
  att : ∀ e : Nat, 1 ≤ e → e ≤ n → ∃ (w : Wd) (c a : Int), (w, c) ∈ W ∧ w <:+ T.take e ∧ ns[e - w.length]? = some a ∧ ns[e]? = some (a + c)

theorem Ahead.one {W : WL} {T : Wd} : Ahead W T 0 [0] := ⟨rfl, rfl, fun e _ _ _ _ h1 h2 => absurd h1 (by omega), fun e h1 h2 => absurd h1 (by omega)⟩
theorem get_app {ns : List Int} {m : Int} {i : Nat} (h : i < ns.length) : (ns ++ [m])[i]? = ns[i]? := List.getElem?_append_left h
theorem get_new {ns : List Int} {m : Int} : (ns ++ [m])[ns.length]? = some m := by simp
/-- one more -/
theorem Ahead.more {W : WL} {T : Wd} {n : Nat} {ns : List Int} {m : Int} (A : Ahead W T n ns) (hp : ∀ w c, (w, c) ∈ W → 1 ≤ w.length)
    (hlow : ∀ (w : Wd) (c a : Int), (w, c) ∈ W → w <:+ T.take (n + 1) → ns[n + 1 - w.length]? = some a → m ≤ a + c)
    (hatt : ∃ (w : Wd) (c a : Int), (w, c) ∈ W ∧ w <:+ T.take (n + 1) ∧ ns[n + 1 - w.length]? = some a ∧ m = a + c) : Ahead W T (n + 1) (ns ++ [m]) := by
  have el : (ns ++ [m]).length = n + 2 := by rw [List.length_append, A.len]; rfl
  have eN : (ns ++ [m])[n + 1]? = some m := by rw [← A.len]; exact get_new
  refine ⟨el, by rw [get_app (by rw [A.len]; omega)]; exact A.zero, fun e w c a b h1 h2 hw hs ha hb => ?_, fun e h1 h2 => ?_⟩
  · have h3 := hp w c hw
    rw [get_app (by rw [A.len]; omega)] at ha
    by_cases he : e = n + 1
    · subst he
      rw [eN] at hb
      cases hb
      exact hlow w c a hw hs ha
    · rw [get_app (by rw [A.len]; omega)] at hb
      exact A.low e w c a b h1 (by omega) hw hs ha hb
  · by_cases he : e = n + 1
    · subst he
      obtain ⟨w, c, a, hw, hs, ha, hm⟩ := hatt
      have h3 := hp w c hw
      refine ⟨w, c, a, hw, hs, ?_, ?_⟩
      · rw [get_app (by rw [A.len]; omega)]
        exact ha
      · rw [eN, hm]
    · obtain ⟨w, c, a, hw, hs, ha, hb⟩ := A.att e h1 (by omega)
      have h3 := hp w c hw
      refine ⟨w, c, a, hw, hs, ?_, ?_⟩
      · rw [get_app (by rw [A.len]; omega)]
        exact ha
      · rw [get_app (by rw [A.len]; omega)]
        exact hb

theorem take_add_pre {T w : Wd} {i : Nat} (h : w <+: T.drop i) (hi : i ≤ T.length) : T.take (i + w.length) = T.take i ++ w := by
  obtain ⟨t, ht⟩ := h
  rw [List.take_add, ← ht, List.take_left]
theorem suf_pre {T w : Wd} {i : Nat} (h : w <+: T.drop i) (hi : i ≤ T.length) : w <:+ T.take (i + w.length) := by
  rw [take_add_pre h hi]
  exact List.suffix_append _ _
theorem suf_split {T w : Wd} {e : Nat} (h : w <:+ T.take e) (he : e ≤ T.length) : w.length ≤ e ∧ T.take e = T.take (e - w.length) ++ w := by
  have hl := h.length_le
  rw [List.length_take] at hl
  have h1 : w.length ≤ e := by omega
  refine ⟨h1, ?_⟩
  obtain ⟨t, ht⟩ := h
  have e1 : t.length = e - w.length := by
    have := congrArg List.length ht
    rw [List.length_append, List.length_take] at this
    omega
  have e2 : T.take (e - w.length) = t := by
    have : (T.take e).take (e - w.length) = t := by rw [← ht, ← e1, List.take_left]
    rw [List.take_take, Nat.min_eq_left (Nat.sub_le _ _)] at this
    exact this
  rw [e2, ht]

/-- costs_ahead makes right heights -/
theorem Ahead.right {W : WL} {T : Wd} {ns : List Int} (A : Ahead W T T.length ns) (hp : ∀ w c, (w, c) ∈ W → 1 ≤ w.length) : Right W T ns := by
  refine ⟨A.len, A.zero, fun i w c a b hw hi hx ha hb => ?_⟩
  have h1 := hp w c hw
  have h2 := hx.length_le
  rw [List.length_drop] at h2
  refine A.low (i + w.length) w c a b (by omega) (by omega) hw (suf_pre hx (by omega)) ?_ hb
  rw [Nat.add_sub_cancel]
  exact ha
theorem costR_snoc {W : WL} {r : List Wd} {w : Wd} : costR W (r ++ [w]) = costR W r + costOf W w := by
  unfold costR
  rw [List.map_append, List.sum_append]
  simp
/-- .. and the last one is a cut's cost -/
theorem Ahead.cut {W : WL} {T : Wd} {ns : List Int} (G : Good W T) (A : Ahead W T T.length ns) : ∀ (e : Nat) (b : Int), e ≤ T.length → ns[e]? = some b → ∃ r, InW W r ∧ r.flatten = T.take e ∧ costR W r = b := by
  intro e
  induction e using Nat.strongRecOn with
  | ind e ih =>
    intro b he hb
    by_cases h0 : e = 0
    · subst h0
      refine ⟨[], fun w hw => absurd hw (by simp), rfl, ?_⟩
      rw [A.zero] at hb
      cases hb
      rfl
    · obtain ⟨w, c, a, hw, hs, ha, hb'⟩ := A.att e (by omega) he
      obtain ⟨h1, h2⟩ := suf_split hs he
      have h3 := G.pos w c hw
      obtain ⟨r, hr, hf, hc⟩ := ih (e - w.length) (by omega) a (by omega) ha
      refine ⟨r ++ [w], fun v hv => ?_, ?_, ?_⟩
      · rcases List.mem_append.mp hv with hv | hv
        · exact hr v hv
        · rw [List.mem_singleton.mp hv]
          exact ⟨c, hw⟩
      · rw [List.flatten_append, hf, h2]
        simp
      · rw [costR_snoc, hc, costOf_mem G.nd hw]
        rw [hb] at hb'
        exact (Option.some.inj hb').symm

/-! ### the rows that the cuts loop makes: a family of lists of rows, by the index up to which they reach -/
abbrev Fam := Nat → List (List Wd)
def fam0 : Fam := fun j => if j = 0 then [[]] else []
/-- the first k rows at s, each with w behind it, put behind the rows at s + |w| -/
def putK (F : Fam) (s : Nat) (w : Wd) (k : Nat) : Fam := fun j => if j = s + w.length then F j ++ ((F s).take k).map (fun r => r ++ [w]) else F j
def put (F : Fam) (s : Nat) (w : Wd) : Fam := fun j => if j = s + w.length then F j ++ (F s).map (fun r => r ++ [w]) else F j
def stepW (T : Wd) (s : Nat) (F : Fam) (e : Wd × Int) : Fam := if e.1 <+: T.drop s then put F s e.1 else F
def stepS (W : WL) (T : Wd) (F : Fam) (s : Nat) : Fam := W.foldl (stepW T s) F
def famS (W : WL) (T : Wd) (s : Nat) : Fam := (List.range s).foldl (stepS W T) fam0
theorem putK_zero {F : Fam} {s : Nat} {w : Wd} : putK F s w 0 = F := by
  funext j
  unfold putK
  split
  · simp
  · rfl
theorem putK_all {F : Fam} {s : Nat} {w : Wd} : putK F s w (F s).length = put F s w := by
  funext j
  unfold putK put
  rw [List.take_length]
theorem putK_succ {F : Fam} {s : Nat} {w : Wd} {k : Nat} {r : List Wd} (h : (F s)[k]? = some r) : putK F s w (k + 1) = fun j => if j = s + w.length then putK F s w k j ++ [r ++ [w]] else putK F s w k j := by
  funext j
  unfold putK
  split
  · rw [List.take_add_one, h, List.map_append, List.append_assoc]
    rfl
  · rfl
theorem putK_self {F : Fam} {s : Nat} {w : Wd} {k : Nat} (h : 1 ≤ w.length) : putK F s w k s = F s := by
  unfold putK
  rw [if_neg (by omega)]
theorem putK_len {F : Fam} {s : Nat} {w : Wd} {k : Nat} (j : Nat) : (putK F s w k j).length ≤ (F j).length + (F s).length := by
  unfold putK
  split
  · rw [List.length_append, List.length_map, List.length_take]
    omega
  · omega
theorem put_self {F : Fam} {s : Nat} {w : Wd} (h : 1 ≤ w.length) : put F s w s = F s := by
  rw [← putK_all]
  exact putK_self h
theorem famS_succ {W : WL} {T : Wd} {s : Nat} : famS W T (s + 1) = stepS W T (famS W T s) s := by
  unfold famS
  rw [List.range_succ, List.foldl_append]
  rfl
theorem foldl_take_succ {α β : Type} {f : β → α → β} {b : β} {l : List α} {i : Nat} {x : α} (h : l[i]? = some x) : (l.take (i + 1)).foldl f b = f ((l.take i).foldl f b) x := by
  rw [List.take_add_one, h, List.foldl_append]
  rfl
/-- words taken up to the i-th -/
def stepI (W : WL) (T : Wd) (F : Fam) (s i : Nat) : Fam := (W.take i).foldl (stepW T s) F
theorem stepI_zero {W : WL} {T : Wd} {F : Fam} {s : Nat} : stepI W T F s 0 = F := rfl
theorem stepI_all {W : WL} {T : Wd} {F : Fam} {s : Nat} : stepI W T F s W.length = stepS W T F s := by
  unfold stepI stepS
  rw [List.take_length]
theorem stepI_succ {W : WL} {T : Wd} {F : Fam} {s i : Nat} {e : Wd × Int} (h : W[i]? = some e) : stepI W T F s (i + 1) = stepW T s (stepI W T F s i) e := foldl_take_succ h
theorem stepI_yes {W : WL} {T : Wd} {F : Fam} {s i : Nat} {w : Wd} {c : Int} (h : W[i]? = some (w, c)) (hp : w <+: T.drop s) : stepI W T F s (i + 1) = put (stepI W T F s i) s w := by
  rw [stepI_succ h]
  unfold stepW
  rw [if_pos hp]
theorem stepI_no {W : WL} {T : Wd} {F : Fam} {s i : Nat} {w : Wd} {c : Int} (h : W[i]? = some (w, c)) (hp : ¬ w <+: T.drop s) : stepI W T F s (i + 1) = stepI W T F s i := by
  rw [stepI_succ h]
  unfold stepW
  rw [if_neg hp]

section
variable {W : WL} {T : Wd}
theorem mem_of_get {α : Type} {l : List α} {i : Nat} {x : α} (h : l[i]? = some x) : x ∈ l := List.mem_of_getElem? h
/-- any property of families that each put keeps -/
theorem stepI_ind {Pr : Fam → Prop} {F : Fam} {s : Nat} (h0 : Pr F) (hs : ∀ (i : Nat) (w : Wd) (c : Int), (w, c) ∈ W → w <+: T.drop s → Pr (stepI W T F s i) → Pr (put (stepI W T F s i) s w)) : ∀ i, i ≤ W.length → Pr (stepI W T F s i) := by
  intro i
  induction i with
  | zero => intro _; exact h0
  | succ i ih =>
    intro hi
    have hlt : i < W.length := by omega
    have e : W[i]? = some (W[i].1, W[i].2) := List.getElem?_eq_getElem hlt
    by_cases hp : W[i].1 <+: T.drop s
    · rw [stepI_yes e hp]
      exact hs i _ _ (mem_of_get e) hp (ih (by omega))
    · rw [stepI_no e hp]
      exact ih (by omega)
theorem stepI_self (hp : ∀ w c, (w, c) ∈ W → 1 ≤ w.length) {F : Fam} {s : Nat} {i : Nat} (hi : i ≤ W.length) : stepI W T F s i s = F s :=
  stepI_ind (Pr := fun G => G s = F s) rfl (fun i w c hw _ h => by rw [put_self (hp w c hw)]; exact h) i hi
/-- what a put keeps -/
theorem put_sub {F : Fam} {s : Nat} {w : Wd} {j : Nat} {r : List Wd} (h : r ∈ F j) : r ∈ put F s w j := by
  unfold put
  split
  · exact List.mem_append_left _ h
  · exact h
theorem stepI_sub {F : Fam} {s : Nat} {i : Nat} (hi : i ≤ W.length) {j : Nat} {r : List Wd} (h : r ∈ F j) : r ∈ stepI W T F s i j :=
  stepI_ind (Pr := fun G => r ∈ G j) h (fun _ _ _ _ _ h => put_sub h) i hi
theorem famS_sub {s : Nat} {j : Nat} {r : List Wd} (h : r ∈ famS W T s j) : ∀ t, s ≤ t → r ∈ famS W T t j := by
  intro t ht
  induction t with
  | zero =>
    have e : s = 0 := by omega
    subst e
    exact h
  | succ t ih =>
    by_cases e : s = t + 1
    · subst e
      exact h
    · rw [famS_succ, ← stepI_all]
      exact stepI_sub (Nat.le_refl _) (ih (by omega))
/-- soundness -/
def Sound (W : WL) (T : Wd) (F : Fam) : Prop := ∀ j r, r ∈ F j → InW W r ∧ r.flatten = T.take j
theorem sound0 : Sound W T fam0 := by
  intro j r h
  unfold fam0 at h
  split at h
  · rename_i e
    subst e
    rw [List.mem_singleton.mp h]
    exact ⟨fun w hw => absurd hw (by simp), rfl⟩
  · exact absurd h (by simp)
theorem sound_put {F : Fam} {s : Nat} {w : Wd} {c : Int} (hs : s ≤ T.length) (h : Sound W T F) (hw : (w, c) ∈ W) (hp : w <+: T.drop s) : Sound W T (put F s w) := by
  intro j r hr
  unfold put at hr
  split at hr
  · rename_i e
    rcases List.mem_append.mp hr with hr | hr
    · exact h j r hr
    · obtain ⟨r', hr', e'⟩ := List.mem_map.mp hr
      obtain ⟨h1, h2⟩ := h s r' hr'
      subst e'
      refine ⟨fun v hv => ?_, ?_⟩
      · rcases List.mem_append.mp hv with hv | hv
        · exact h1 v hv
        · rw [List.mem_singleton.mp hv]
          exact ⟨c, hw⟩
      · rw [List.flatten_append, h2, e, take_add_pre hp hs]
        simp
  · exact h j r hr
theorem sound_famS : ∀ s, s ≤ T.length → Sound W T (famS W T s) := by
  intro s
  induction s with
  | zero => intro _; exact sound0
  | succ s ih =>
    intro hs
    rw [famS_succ, ← stepI_all]
    exact stepI_ind (Pr := Sound W T) (ih (by omega)) (fun _ w c hw hp h => sound_put (by omega) h hw hp) _ (Nat.le_refl _)
/-- completeness -/
theorem step_has (hp : ∀ w c, (w, c) ∈ W → 1 ≤ w.length) {F : Fam} {s : Nat} {w : Wd} {c : Int} {r : List Wd} (hw : (w, c) ∈ W) (hx : w <+: T.drop s) (hr : r ∈ F s) : r ++ [w] ∈ stepS W T F s (s + w.length) := by
  obtain ⟨i, hi, e⟩ := List.getElem_of_mem hw
  have e1 : W[i]? = some (w, c) := by rw [List.getElem?_eq_getElem hi, e]
  have h1 : r ++ [w] ∈ stepI W T F s (i + 1) (s + w.length) := by
    rw [stepI_yes e1 hx]
    unfold put
    rw [if_pos rfl, stepI_self hp (by omega)]
    exact List.mem_append_right _ (List.mem_map.mpr ⟨r, hr, rfl⟩)
  have : ∀ k, i + 1 + k ≤ W.length → r ++ [w] ∈ stepI W T F s (i + 1 + k) (s + w.length) := by
    intro k
    induction k with
    | zero => intro _; exact h1
    | succ k ih =>
      intro hk
      have hlt : i + 1 + k < W.length := by omega
      have e2 : W[i + 1 + k]? = some (W[i + 1 + k].1, W[i + 1 + k].2) := List.getElem?_eq_getElem hlt
      rw [← Nat.add_assoc]
      by_cases hq : W[i + 1 + k].1 <+: T.drop s
      · rw [stepI_yes e2 hq]
        exact put_sub (ih (by omega))
      · rw [stepI_no e2 hq]
        exact ih (by omega)
  have h2 := this (W.length - (i + 1)) (by omega)
  rw [show i + 1 + (W.length - (i + 1)) = W.length by omega, stepI_all] at h2
  exact h2
theorem complete (hp : ∀ w c, (w, c) ∈ W → 1 ≤ w.length) : ∀ (n : Nat) (r : List Wd), r.length = n → InW W r → r.flatten <+: T → ∀ s, r.flatten.length ≤ s → r ∈ famS W T s r.flatten.length := by
  intro n
  induction n with
  | zero =>
    intro r hl _ _ s _
    have e : r = [] := List.length_eq_zero_iff.mp hl
    subst e
    have h0 : ([] : List Wd) ∈ famS W T 0 0 := by
      show [] ∈ fam0 0
      unfold fam0
      rw [if_pos rfl]
      exact List.mem_singleton.mpr rfl
    exact famS_sub h0 s (Nat.zero_le _)
  | succ n ih =>
    intro r hl hr hx s hs
    have hne : r ≠ [] := fun e => by subst e; simp at hl
    obtain ⟨q, w, e⟩ : ∃ q w, r = q ++ [w] := ⟨r.dropLast, r.getLast hne, (List.dropLast_concat_getLast hne).symm⟩
    subst e
    obtain ⟨c, hc⟩ := hr w (by simp)
    have hpw := hp w c hc
    have ef : (q ++ [w]).flatten = q.flatten ++ w := by rw [List.flatten_append]; simp
    rw [ef] at hx hs ⊢
    have hq : q.flatten <+: T := (List.prefix_append _ _).trans hx
    rw [List.length_append] at hs ⊢
    have h1 := ih q (by rw [List.length_append] at hl; simpa using hl) (fun v hv => hr v (List.mem_append_left _ hv)) hq q.flatten.length (Nat.le_refl _)
    have hx2 : w <+: T.drop q.flatten.length := by
      obtain ⟨t, ht⟩ := hx
      refine ⟨t, ?_⟩
      rw [← ht, List.append_assoc, List.drop_left]
    have h2 := step_has hp hc hx2 h1
    rw [← famS_succ] at h2
    exact famS_sub h2 s (by omega)
theorem complete_all (hp : ∀ w c, (w, c) ∈ W → 1 ≤ w.length) {r : List Wd} (hr : InW W r) (e : r.flatten = T) : r ∈ famS W T T.length T.length := by
  have h := complete hp r.length r rfl hr (by rw [e]; exact List.prefix_refl T) T.length (by rw [e]; exact Nat.le_refl _)
  rw [e] at h
  exact h
/-- how many -/
theorem stepI_len (hp : ∀ w c, (w, c) ∈ W → 1 ≤ w.length) {F : Fam} {s B : Nat} (hF : ∀ j, (F j).length ≤ B) : ∀ i, i ≤ W.length → ∀ j, (stepI W T F s i j).length ≤ B * (1 + i) := by
  intro i
  induction i with
  | zero => intro _ j; rw [Nat.add_zero, Nat.mul_one]; exact hF j
  | succ i ih =>
    intro hi j
    have hlt : i < W.length := by omega
    have e : W[i]? = some (W[i].1, W[i].2) := List.getElem?_eq_getElem hlt
    have h1 := ih (by omega) j
    have em : B * (1 + (i + 1)) = B * (1 + i) + B := by rw [← Nat.add_assoc, Nat.mul_add B (1 + i) 1, Nat.mul_one]
    by_cases hq : W[i].1 <+: T.drop s
    · rw [stepI_yes e hq, ← putK_all]
      have h2 := putK_len (F := stepI W T F s i) (s := s) (w := W[i].1) (k := (stepI W T F s i s).length) j
      have h3 : (stepI W T F s i s).length ≤ B := by
        rw [stepI_self hp (by omega)]
        exact hF s
      omega
    · rw [stepI_no e hq]
      omega
theorem famS_len (hp : ∀ w c, (w, c) ∈ W → 1 ≤ w.length) (h8 : W.length ≤ 8) : ∀ s j, (famS W T s j).length ≤ 9 ^ s := by
  intro s
  induction s with
  | zero =>
    intro j
    show (fam0 j).length ≤ 1
    unfold fam0
    split <;> simp
  | succ s ih =>
    intro j
    rw [famS_succ, ← stepI_all]
    have h := stepI_len (T := T) (s := s) hp ih W.length (Nat.le_refl _) j
    have h2 : 9 ^ s * (1 + W.length) ≤ 9 ^ s * 9 := Nat.mul_le_mul_left _ (by omega)
    rw [Nat.pow_succ]
    omega
end

/-- the least of the costs of all cuts is the last of what costs_ahead makes -/
theorem least_is {W : WL} {T : Wd} {ns : List Int} {b m : Int} (G : Good W T) (A : Ahead W T T.length ns) (hb : ns[T.length]? = some b)
    (hm : m ∈ (famS W T T.length T.length).map (costR W)) (hle : ∀ y ∈ (famS W T T.length T.length).map (costR W), m ≤ y) : b = m := by
  have hp := G.pos
  obtain ⟨r, hr, e⟩ := List.mem_map.mp hm
  obtain ⟨h1, h2⟩ := sound_famS (W := W) (T := T) T.length (Nat.le_refl _) _ r hr
  rw [List.take_length] at h2
  have h3 := rise_cut G (A.right hp) h1 h2 hb
  obtain ⟨q, q1, q2, q3⟩ := A.cut G T.length b (Nat.le_refl _) hb
  rw [List.take_length] at q2
  have h4 := hle _ (List.mem_map.mpr ⟨q, complete_all hp q1 q2, rfl⟩)
  omega
/-- there are cuts -/
theorem rows_ne {W : WL} {T : Wd} (G : Good W T) : famS W T T.length T.length ≠ [] := by
  have h1 : InW W (T.map fun x => [x]) := fun w hw => by
    obtain ⟨x, hx, e⟩ := List.mem_map.mp hw
    subst e
    exact G.txt x hx
  have h2 : (T.map fun x => [x]).flatten = T := by
    have : ∀ l : Wd, (l.map fun x => [x]).flatten = l := by
      intro l
      induction l with
      | nil => rfl
      | cons x l ih => rw [List.map_cons, List.flatten_cons, ih]; rfl
    exact this T
  exact List.ne_nil_of_mem (complete_all G.pos h1 h2)
/-- right heights that were accepted end no higher -/
theorem accepted_le {W : WL} {T : Wd} {ns hs : List Int} {b m : Int} (G : Good W T) (A : Ahead W T T.length ns) (hb : ns[T.length]? = some b) (R : Right W T hs) (hm : hs[T.length]? = some m) : m ≤ b := by
  obtain ⟨q, q1, q2, q3⟩ := A.cut G T.length b (Nat.le_refl _) hb
  rw [List.take_length] at q2
  have := rise_cut G R q1 q2 hm
  omega
end K30
/-! Rules of our own: list(text); sorted of a list of tuples (text, int). -/
namespace K30R
open PySem PySem.Spec PyProof.Rows L2

/-! ### list(text) -/
def signsV (l : List Nat) : List V := l.map fun c => V.str ⟨#[c]⟩
theorem signsV_vals {z : Str} {acc : Array Value} (h : ItemsOf (SignAt z) acc z.cps.size) : Vals (signsV z.cps.toList) acc.toList := by
  refine vals_of_at (by simp [signsV, h.1]) fun i x u hx hu => ?_
  obtain ⟨c, t, e1, e2⟩ := h.2 i u (by rw [← Array.getElem?_toList]; exact hu)
  have e3 : (signsV z.cps.toList)[i]? = some (.str ⟨#[c]⟩) := by
    unfold signsV
    rw [List.getElem?_map, Array.getElem?_toList, e1]
    rfl
  rw [e3] at hx
  cases hx
  exact ⟨t, e2⟩
def rListTxt : List V → Hp → VK → Prop := fun vs H Q => ∃ z : Str, vs = [.str z] ∧ z.cps.size ≤ sizeLine ∧ ∀ p, H p = none → Q (.ref p) (upd H p (.lst (signsV z.cps.toList)))
theorem call_list_txt {X : Cx} (hc : X.calm = true) : CallR X (.type "list") rListTxt := fun pins st σ H args vals Q I rv hr => by
  obtain ⟨z, rfl, hz, q⟩ := hr
  obtain ⟨u, rfl, t, rfl⟩ := vals1 rv
  refine call_list_str (I.ok.hd hc) z t (hn := hz) fun h' tk acc n kp at_ ia => ?_
  have sl : (signsV z.cps.toList).length ≤ sizeLine := by
    simp [signsV]
    exact hz
  have new := I.laid (o := .lst (signsV z.cps.toList)) (t' := tk) kp (Nat.le_refl st.heap.objs.size) ⟨sl, acc.toList, n, signsV_vals ia, by rw [Array.toArray_toList]; exact at_⟩
  exact ⟨.ref _, _, new, rfl, q _ I.fresh⟩

/-! ### sorted of tuples (text, int), over the library's sort of mixed tuples -/
abbrev SI := List Nat × Int
theorem ltL_tri {a b : List Nat} (h1 : ¬ a < b) (h2 : ¬ b < a) : a = b := List.le_antisymm (List.not_lt.mp h2) (List.not_lt.mp h1)
/-- the shape: a text, then ints -/
def shp (i : Nat) : Bool := decide (i = 0)
/-- u is a tuple of this text and this int -/
def EntO (h : Heap) (u : Value) (z : List Nat) (i : Int) : Prop := ∃ b ob t n m, u = .ref b ∧ h.get? b = some ob ∧ ob.cls = .type "tuple" ∧ ob.data = .seq #[.str ⟨z.toArray⟩ t, .int i n] m
theorem EntO.key {h : Heap} {u : Value} {z : List Nat} {i : Int} (x : EntO h u z i) : G.tupKeyC h shp u = some [.inr z, .inl i] := by
  obtain ⟨b, ob, t, n, m, rfl, e1, e2, e3⟩ := x
  unfold G.tupKeyC G.isTupObj tupKey
  simp [e1, e2, e3, tupItems, shp]
theorem EntO.tups {h : Heap} : ∀ {us : List Value}, (∀ u ∈ us, ∃ z i, EntO h u z i) → ∃ fs, TupsOf h shp us fs
  | [], _ => ⟨[], .nil⟩
  | u :: us, hu => by
    obtain ⟨fs, r⟩ := EntO.tups (us := us) fun v hv => hu v (List.mem_cons_of_mem u hv)
    obtain ⟨z, i, b, ob, t, n, m, e0, e1, e2, e3⟩ := hu u (List.mem_cons_self)
    exact ⟨.str ⟨z.toArray⟩ t :: fs, .cons ⟨b, ob, _, m, e0, e1, e2, e3, rfl, fun q => (nomatch q), fun _ => ⟨_, t, rfl⟩⟩ r⟩
/-- the words never fall -/
def Rising (k : V → SI) (ys : List V) : Prop := ys.Pairwise fun x y => ¬ (k y).1 < (k x).1
theorem key_order {x y : SI} (h : lexLt itemOrd [.inr y.1, .inl y.2] [.inr x.1, .inl x.2] = false) : ¬ y.1 < x.1 := fun q => by
  have h1 := (lex_false.mp h).1
  have h2 : decide (y.1 < x.1) = false := h1
  rw [decide_eq_true q] at h2
  cases h2
/-- what the sort's state says of its items -/
theorem rising_of {h : Heap} {k : V → SI} {its : List Value} {arr : Array (Value × Value)} (he : ∀ u ∈ its, EntO h u (k (backV u)).1 (k (backV u)).2) (p1 : arr.Perm (pairsOf its)) (p2 : SortedToK (G.tupKindC h shp) arr (pairsOf its).size) :
    Rising k (((arr.map (·.2)).toList).map backV) := by
  have each : ∀ (i : Nat) (hi : i < arr.size), arr[i].2 ∈ its ∧ KK (G.tupKindC h shp) arr i = [.inr (k (backV arr[i].2)).1, .inl (k (backV arr[i].2)).2] := fun i hi => by
    have m1 : arr[i] ∈ (pairsOf its).toList := by
      have := Array.perm_iff_toList_perm.mp p1
      exact this.mem_iff.mp (Array.getElem_mem_toList hi)
    rw [pairsOf_toList] at m1
    obtain ⟨c1, c2⟩ := mem_zip_self m1
    rw [c1] at c2
    refine ⟨c2, ?_⟩
    have e : arr[i]? = some arr[i] := Array.getElem?_eq_getElem hi
    unfold KK
    rw [e]
    show (G.tupKeyC h shp arr[i].1).getD [] = _
    rw [c1, (he _ c2).key]
    rfl
  have sz : (pairsOf its).size = arr.size := p1.size_eq.symm
  unfold Rising
  rw [List.pairwise_iff_getElem]
  intro i j hi hj hij
  have hi2 : i < arr.size := by simpa using hi
  have hj2 : j < arr.size := by simpa using hj
  have o := p2 i j (Nat.le_of_lt hij) (by rw [sz]; exact hj2)
  rw [(each i hi2).2, (each j hj2).2] at o
  have q := key_order (x := k (backV arr[i].2)) (y := k (backV arr[j].2)) o
  simpa using q
/-- sorted(xs), xs a list of tuples (text, int), k says which: a new list of the same, the words rising -/
def rSortedSI (K : PySem.W.Frag) : List V → Hp → VK → Prop := fun vs H Q => ∃ (a : Addr) (xs : List V) (k : V → SI), vs = [V.ref a] ∧ SqL K H a xs ∧ (∀ x ∈ xs, ∃ t, x = V.ref t ∧ H t = some (.tup [.str ⟨(k x).1.toArray⟩, .int (k x).2])) ∧
  ∀ ys p, Rising k ys → ys.Perm xs → H p = none → Q (.ref p) (upd H p (.lst ys))
theorem cr_sortedSI {X : Cx} : CallR X (.builtin "sorted") (rSortedSI X.K) := fun pins st σ H args vals Q I rv hr => by
  obtain ⟨a, xs, k, rfl, hl, hx, q⟩ := hr
  obtain ⟨its, ri, pl, hz⟩ := I.list hl
  rw [Vals.ref1 rv]
  have rb := refs_back ri fun x hm => (hx x hm).imp fun _ z => z.1
  have len : its.length ≤ sizeLine := by rw [← ri.length]; exact hz
  have he : ∀ u ∈ its, EntO st.heap u (k (backV u)).1 (k (backV u)).2 := fun u hu => by
    obtain ⟨b, rfl⟩ := rb.2 u hu
    obtain ⟨b', e, hb⟩ := hx (.ref b) (by rw [rb.1]; exact List.mem_map.mpr ⟨.ref b, hu, rfl⟩)
    cases e
    obtain ⟨_, js, rj, ob, g1, g2, m, g3⟩ := I.hok b _ hb
    cases rj with
    | cons rz rj =>
      cases rj with
      | cons rn rj =>
        cases rj
        obtain ⟨t, rfl⟩ := rz
        obtain ⟨n, rfl⟩ := rn
        exact ⟨b, ob, t, n, m, rfl, g1, g2, g3⟩
  obtain ⟨fs, tu⟩ := EntO.tups fun u hu => ⟨_, _, he u hu⟩
  refine G.sorted_tups pl.isList tu (fun u hu => ⟨_, (he u hu).key⟩) len fun st' p1 p2 _ => ?_
  have pm := Srt.out_perm p1
  have rs := rising_of he p1 p2
  generalize (arrOf st').map (·.2) = out at pm rs
  obtain ⟨n, hn⟩ := sortedAll_at st.heap its out
  have pv : (out.toList.map backV).Perm xs := by
    rw [rb.1]
    exact pm.map backV
  have back : ∀ u ∈ out.toList, ∃ b, u = Value.ref b := fun u hu => rb.2 u (pm.mem_iff.mp hu)
  have new := I.laid (o := .lst (out.toList.map backV)) (t' := st.toks) (fun b o e => sortedAll_old e) (Nat.le_succ st.heap.objs.size) ⟨by rw [pv.length_eq]; exact hz, out.toList, n, vals_back back, by rw [Array.toArray_toList]; exact hn⟩
  exact ⟨.ref _, _, new, rfl, q _ _ rs pv (I.hok.fresh (Nat.le_succ _))⟩
end K30R
/-! The text by places, the data in the heap, texts by their codes, what stays. -/
namespace K30
open PySem PySem.Spec PyProof.Rows L2 K30R

/-! ### the text by places -/
def topS (i : Nat) : Stmt := PySem.Challenge.pw_greedycuts_k30_whole_heights_by_whomever.main.body.getD i (.Pass ⟨0, 0, 0, 0⟩)

/-! ### texts by codes -/
abbrev S (l : Wd) : Str := SX.S l
theorem S_cps (l : Wd) : (S l).cps.toList = l := rfl
theorem S_len (l : Wd) : (S l).length = l.length := SX.S_len l
theorem dec_iff {p q : Prop} [Decidable p] [Decidable q] (h : p ↔ q) : decide p = decide q := by
  by_cases hp : p
  · rw [decide_eq_true hp, decide_eq_true (h.mp hp)]
  · rw [decide_eq_false hp, decide_eq_false fun hq => hp (h.mpr hq)]
theorem sub_iff (T w : Wd) (i : Nat) : Builtin.Str.subAt (S T) (S w) i = true ↔ w <+: T.drop i := by
  rw [PySem.StrLaws.subAt_eq]
  show ((T.drop i).take (S w).length == w) = true ↔ _
  rw [beq_iff_eq, S_len]
  constructor
  · intro h
    have q := List.take_append_drop w.length (T.drop i)
    rw [h] at q
    exact ⟨_, q⟩
  · rintro ⟨t, ht⟩
    rw [← ht, List.take_left]
/-- text.startswith(word, i) -/
theorem starts_is (T w : Wd) {i : Nat} (hi : i ≤ T.length) : Txt.startswith3 (S T) (S w) (i : Int) = decide (w <+: T.drop i) := by
  have e : fromIndex (S T).length (i : Int) = i := by
    unfold fromIndex
    rw [if_neg (by omega)]
    omega
  unfold Txt.startswith3
  rw [e, S_len, S_len]
  by_cases h : w <+: T.drop i
  · have h1 := (sub_iff T w i).mpr h
    have h2 := h.length_le
    rw [List.length_drop] at h2
    rw [h1, decide_eq_true h, Bool.and_true]
    exact decide_eq_true (by omega)
  · have h1 : Builtin.Str.subAt (S T) (S w) i = false := by
      cases q : Builtin.Str.subAt (S T) (S w) i with
      | false => rfl
      | true => exact absurd ((sub_iff T w i).mp q) h
    rw [h1, decide_eq_false h, Bool.and_false]
/-- text.endswith(word) -/
theorem ends_is (T w : Wd) : Txt.endswith (S T) (S w) = decide (w <:+ T) := by
  unfold Txt.endswith
  rw [S_len, S_len, Nat.zero_add]
  by_cases h : w <:+ T
  · have h2 := h.length_le
    obtain ⟨t, ht⟩ := h
    have e : T.length - w.length = t.length := by rw [← ht, List.length_append]; omega
    have h1 : Builtin.Str.subAt (S T) (S w) (T.length - w.length) = true := by
      rw [sub_iff, e, ← ht, List.drop_left]
      exact List.prefix_refl _
    rw [h1, decide_eq_true (show w <:+ T from ⟨t, ht⟩), Bool.and_true]
    exact decide_eq_true h2
  · rw [decide_eq_false h]
    by_cases hl : w.length ≤ T.length
    · have h1 : Builtin.Str.subAt (S T) (S w) (T.length - w.length) = false := by
        cases q : Builtin.Str.subAt (S T) (S w) (T.length - w.length) with
        | false => rfl
        | true =>
          have p := (sub_iff T w _).mp q
          have e : w = T.drop (T.length - w.length) := p.eq_of_length (by rw [List.length_drop]; omega)
          exact absurd (by rw [e]; exact List.drop_suffix _ _) h
      rw [h1, Bool.and_false]
    · rw [decide_eq_false hl, Bool.false_and]
/-- text[:e] -/
theorem cut_is (T : Wd) (e : Nat) : cutS (S T) none (some (e : Int)) = S (T.take e) := by
  unfold cutS
  rw [HT.sIx_none, HT.sIx_nat, S_len]
  show (⟨(((T.drop 0).take (min e T.length - 0)).toArray)⟩ : Str) = S (T.take e)
  rw [List.drop_zero, Nat.sub_zero]
  show S (T.take (min e T.length)) = S (T.take e)
  by_cases h : e ≤ T.length
  · rw [Nat.min_eq_left h]
  · rw [Nat.min_eq_right (by omega), List.take_length, List.take_of_length_le (by omega)]
theorem joinL_nil : ∀ l : List Wd, TL.joinL [] l = l.flatten
  | [] => rfl
  | [p] => by
    show p = _
    simp
  | p :: q :: r => by
    show p ++ ([] ++ TL.joinL [] (q :: r)) = _
    rw [joinL_nil (q :: r), List.nil_append]
    rfl
/-- "".join(words) -/
theorem join_is (l : List Wd) : Txt.join (S []) (l.map S) = S l.flatten := by
  rw [SX.join_S, joinL_nil]
theorem mapS_len (l : List Wd) : (l.map S).map (·.length) = l.map (·.length) := SX.lens l
theorem eq_str_iff (a b : Wd) : decide (V.str (S a) = V.str (S b)) = decide (a = b) := dec_iff ⟨fun h => SX.S_inj (V.str.inj h), fun h => by rw [h]⟩

/-! ### what stays in the heap -/
theorem same_upd {H : Hp} {p : Addr} {o : HO} (h : H p = none) : Same H (upd H p o) := fun b x e => by
  rw [upd_ne (ne_of_none e h)]
  exact e
theorem same_upd2 {H0 H : Hp} {p : Addr} {o : HO} (s : Same H0 H) (h : H0 p = none) : Same H0 (upd H p o) := fun b x e => by
  rw [upd_ne (ne_of_none e h)]
  exact s b x e
/-- all tuples stay -/
def Tups (H H' : Hp) : Prop := ∀ b xs, H b = some (.tup xs) → H' b = some (.tup xs)
theorem Tups.of {H H' : Hp} (s : Same H H') : Tups H H' := fun b xs e => s b _ e
theorem Tups.trans {H H1 H2 : Hp} (a : Tups H H1) (b : Tups H1 H2) : Tups H H2 := fun c xs e => b c xs (a c xs e)

/-- the stream of a law's digits: its numbers, what is left of the one at hand, how many were taken -/
def Strm (H : Hp) (p : Addr) : Prop := ∃ (a : Addr) (ns : List Int) (c : Int) (k : Nat), H p = some (.lst [.ref a, .int c, .int (k : Int)]) ∧ H a = some (.lst (ns.map V.int))
/-- all but the stream stays, the stream is one again, over the same numbers -/
structure Kp (p : Addr) (H H' : Hp) : Prop where
  keep : ∀ b o, H b = some o → b ≠ p → H' b = some o
  strm : Strm H' p
  src : ∀ a x y, H p = some (.lst [.ref a, x, y]) → ∃ x' y', H' p = some (.lst [.ref a, x', y'])
theorem Kp.refl {p : Addr} {H : Hp} (h : Strm H p) : Kp p H H := ⟨fun _ _ e _ => e, h, fun a x y e => ⟨x, y, e⟩⟩
theorem Kp.trans {p : Addr} {H H1 H2 : Hp} (a : Kp p H H1) (b : Kp p H1 H2) : Kp p H H2 := ⟨fun c o e n => b.keep c o (a.keep c o e n) n, b.strm, fun c x y e => by
  obtain ⟨x', y', e'⟩ := a.src c x y e
  exact b.src c x' y' e'⟩
theorem Strm.same {p : Addr} {H H' : Hp} (h : Strm H p) (s : Same H H') : Strm H' p := by
  obtain ⟨a, ns, c, k, h1, h2⟩ := h
  exact ⟨a, ns, c, k, s _ _ h1, s _ _ h2⟩
theorem Kp.of {p : Addr} {H H' : Hp} (h : Strm H p) (s : Same H H') : Kp p H H' := ⟨fun b o e _ => s b o e, h.same s, fun a x y e => ⟨x, y, s _ _ e⟩⟩
theorem Kp.same {p : Addr} {H H1 H2 : Hp} (a : Kp p H H1) (s : Same H1 H2) : Kp p H H2 := a.trans (Kp.of a.strm s)
/-- what is new since H may change -/
theorem Kp.updNew {p D : Addr} {H H' : Hp} {o : HO} (h : Strm H p) (k : Kp p H H') (hD : H D = none) : Kp p H (upd H' D o) := by
  obtain ⟨a, ns, c, m, h1, h2⟩ := h
  have pD : p ≠ D := ne_of_none h1 hD
  have aD : a ≠ D := ne_of_none h2 hD
  refine ⟨fun b u e n => ?_, ?_, fun a' x y e => ?_⟩
  · rw [upd_ne (ne_of_none e hD)]
    exact k.keep b u e n
  · obtain ⟨a', ns', c', m', g1, g2⟩ := k.strm
    obtain ⟨x', y', e'⟩ := k.src a _ _ h1
    rw [g1] at e'
    have e2 := HO.lst.inj (Option.some.inj e')
    injection e2 with e3 _
    have e4 : a' = a := V.ref.inj e3
    refine ⟨a', ns', c', m', ?_, ?_⟩
    · rw [upd_ne pD]
      exact g1
    · rw [e4, upd_ne aD, ← e4]
      exact g2
  · obtain ⟨x', y', e'⟩ := k.src a' x y e
    refine ⟨x', y', ?_⟩
    rw [upd_ne pD]
    exact e'
theorem Strm.isL {p : Addr} {H : Hp} (h : Strm H p) : ∃ xs, H p = some (.lst xs) := by
  obtain ⟨a, ns, c, k, h1, _⟩ := h
  exact ⟨_, h1⟩
theorem Strm.nn {p : Addr} {H : Hp} (h : Strm H p) : H p ≠ none := by
  obtain ⟨xs, e⟩ := h.isL
  rw [e]
  exact fun z => nomatch z
theorem Strm.neT {p b : Addr} {H : Hp} {xs : List V} (h : Strm H p) (e : H b = some (.tup xs)) : b ≠ p := by
  obtain ⟨ys, e2⟩ := h.isL
  exact ne_of e e2 (fun z => nomatch z)
theorem Kp.tups {p : Addr} {H H' : Hp} (h : Strm H p) (a : Kp p H H') : Tups H H' := fun b xs e => a.keep b _ e (h.neT e)
theorem Kp.tup {p b : Addr} {H H' : Hp} {xs : List V} (h : Strm H p) (a : Kp p H H') (e : H b = some (.tup xs)) : H' b = some (.tup xs) := a.tups h b xs e
theorem Strm.neN {p b : Addr} {H : Hp} (h : Strm H p) (e : H b = none) : b ≠ p := fun z => h.nn (by rw [← z]; exact e)
/-- a list that is not the stream -/
theorem Strm.neL {p b : Addr} {H : Hp} {xs : List V} (h : Strm H p) (e : H b = some (.lst xs)) (hx : ∀ x, xs[0]? = some x → ∀ a, x ≠ .ref a) : b ≠ p := by
  obtain ⟨a, ns, c, k, h1, _⟩ := h
  intro z
  subst z
  rw [h1] at e
  cases e
  exact hx _ rfl a rfl
theorem Strm.neL2 {p b : Addr} {H : Hp} {xs : List V} (h : Strm H p) (e : H b = some (.lst xs)) (hx : xs.length ≠ 3) : b ≠ p := by
  obtain ⟨a, ns, c, k, h1, _⟩ := h
  intro z
  subst z
  rw [h1] at e
  cases e
  exact hx rfl

/-! ### words in the heap -/
/-- an entry: a tuple of a word and its cost -/
def EntAt (H : Hp) (x : V) (e : Wd × Int) : Prop := ∃ a, x = .ref a ∧ H a = some (.tup [.str (S e.1), .int e.2])
def EntsAt (H : Hp) (ys : List V) (W : WL) : Prop := ys.length = W.length ∧ ∀ (i : Nat) (x : V) (e : Wd × Int), ys[i]? = some x → W[i]? = some e → EntAt H x e
def WordsAt (H : Hp) (t : Addr) (W : WL) : Prop := ∃ ys : List V, H t = some (.tup ys) ∧ EntsAt H ys W
theorem EntAt.keep {H H' : Hp} {x : V} {e : Wd × Int} (h : EntAt H x e) (k : Tups H H') : EntAt H' x e := by
  obtain ⟨a, e1, e2⟩ := h
  exact ⟨a, e1, k _ _ e2⟩
theorem EntsAt.keep {H H' : Hp} {ys : List V} {W : WL} (h : EntsAt H ys W) (k : Tups H H') : EntsAt H' ys W := ⟨h.1, fun i x e h1 h2 => (h.2 i x e h1 h2).keep k⟩
theorem WordsAt.keep {H H' : Hp} {t : Addr} {W : WL} (h : WordsAt H t W) (k : Tups H H') : WordsAt H' t W := by
  obtain ⟨ys, h1, h2⟩ := h
  exact ⟨ys, k _ _ h1, h2.keep k⟩
theorem WordsAt.same {H H' : Hp} {t : Addr} {W : WL} (h : WordsAt H t W) (k : Same H H') : WordsAt H' t W := h.keep (.of k)
/-- at a turn of a walk over the entries -/
theorem EntsAt.at {H : Hp} {ys : List V} {W : WL} (h : EntsAt H ys W) {i : Nat} {x : V} (hx : ys[i]? = some x) : ∃ (w : Wd) (c : Int) (a : Addr), W[i]? = some (w, c) ∧ (w, c) ∈ W ∧ x = .ref a ∧ H a = some (.tup [.str (S w), .int c]) := by
  have hi : i < W.length := by
    have := (List.getElem?_eq_some_iff.mp hx).1
    rw [← h.1]
    exact this
  have e : W[i]? = some W[i] := List.getElem?_eq_getElem hi
  obtain ⟨a, e1, e2⟩ := h.2 i x W[i] hx e
  exact ⟨W[i].1, W[i].2, a, e, List.mem_of_getElem? e, e1, e2⟩

/-- a valid word list -/
structure GoodL (W : WL) : Prop where
  ne : 1 ≤ W.length
  most : W.length ≤ 8
  ent : ∀ w c, (w, c) ∈ W → 1 ≤ w.length ∧ w.length ≤ 4 ∧ (∀ x ∈ w, 97 ≤ x ∧ x ≤ 122) ∧ 1 ≤ c ∧ c ≤ 9 ∧ ∀ x ∈ w, ∃ c', ([x], c') ∈ W
  asc : ∀ (i : Nat) (a b : Wd × Int), W[i]? = some a → W[i + 1]? = some b → a.1 < b.1
  nd : NdW W
structure GoodT (W : WL) (T : Wd) : Prop where
  len : T.length ≤ 7
  txt : ∀ x ∈ T, ∃ c, ([x], c) ∈ W
theorem GoodL.good {W : WL} {T : Wd} (G : GoodL W) (h : GoodT W T) : Good W T := ⟨G.nd, fun w c hw => (G.ent w c hw).1, h.txt⟩
theorem GoodL.pos {W : WL} (G : GoodL W) : ∀ w c, (w, c) ∈ W → 1 ≤ w.length := fun w c hw => (G.ent w c hw).1

/-! ### a comprehension's list at D: H is the heap ahead of it -/
def Cw (H : Hp) (D : Addr) (acc : List V) (H' : Hp) : Prop := H D = none ∧ Same H H' ∧ H' D = some (.lst acc)
theorem Cw.start {H : Hp} {D : Addr} (h : H D = none) : Cw H D [] (upd H D (.lst [])) := ⟨h, same_upd h, upd_same⟩
theorem Cw.app {H H' H4 : Hp} {D : Addr} {acc acc' : List V} {y : V} (c : Cw H D acc H') (s : Same H' H4) (hl : acc.length < 100000) (e : acc' = acc ++ [y]) :
    ∃ a, H4 D = some (.lst a) ∧ a.length < sizeLine ∧ Cw H D acc' (upd H4 D (.lst (a ++ [y]))) := by
  obtain ⟨h1, h2, h3⟩ := c
  refine ⟨acc, s _ _ h3, by rw [sizeLine_eq]; omega, h1, same_upd2 (h2.trans s) h1, ?_⟩
  rw [upd_same, e]
theorem Cw.same {H H' H4 : Hp} {D : Addr} {acc : List V} (c : Cw H D acc H') (s : Same H' H4) : Cw H D acc H4 := ⟨c.1, c.2.1.trans s, s _ _ c.2.2⟩

/-- no test, and the item is kept -/
theorem tt_yes {σ : L2.St} {H : Hp} {A B : Bool → Hp → Prop} (h : A true H) : tYes σ H (fun b H3 => if b = true then A b H3 else B b H3) := h
theorem tt_yes2 {σ : L2.St} {H : Hp} {A B : Hp → Prop} (h : A H) : tYes σ H (fun b H3 => if b = true then A H3 else B H3) := h
/-! ### built-in names, the module's constants, the defs -/
structure Blt (mg : Str → Option Value) : Prop where
  isinstance : mg "isinstance" = none
  int : mg "int" = none
  bool : mg "bool" = none
  str : mg "str" = none
  tuple : mg "tuple" = none
  list : mg "list" = none
  len : mg "len" = none
  all : mg "all" = none
  range : mg "range" = none
  min : mg "min" = none
  abs : mg "abs" = none
  sorted : mg "sorted" = none
  longest : ∃ u, mg "LONGEST" = some u ∧ RelV (.int 4) u
  mostWords : ∃ u, mg "MOST_WORDS" = some u ∧ RelV (.int 8) u
  mostCost : ∃ u, mg "MOST_COST" = some u ∧ RelV (.int 9) u
  mostLetters : ∃ u, mg "MOST_LETTERS" = some u ∧ RelV (.int 30) u
  alphabet : ∃ u, mg "ALPHABET" = some u ∧ RelV (.str (Str.ofString "abcdefghijklmnopqrstuvwxyz")) u

/-- a def of the module as it stands behind the top -/
def Df (K : PySem.W.Frag) (mg : Str → Option Value) (x : Str) (st : Stmt) (ps : List Str) : Prop := ∃ (f : Addr) (fd : FuncData), Fun K x x st f fd ∧ mg x = some (.ref f) ∧ Binds K fd ps []
/-- a def that may be called by its name, with its promise -/
def Cal (P : Program) (w : World) (K : PySem.W.Frag) (mg : Str → Option Value) (base : Heap) (k : Nat) (x : Str) (sp : Sp) : Prop :=
  ∃ (f : Addr) (fd : FuncData) (ps : List Str), FnOk P w K mg base CX0 k f fd ps sp ∧ mg x = some (.ref f) ∧ PySem.W.keepIn K (.ref f) = true ∧ Binds K fd ps []
section
variable {P : Program} {w : World} {K : PySem.W.Frag} {mg : Str → Option Value} {base : Heap}
theorem Df.ok {x : Str} {st : Stmt} {N ps : List Str} {k : Nat} {sp : Sp} (D : Df K mg x st ps) (S : FnScope N ps (defScope st)) (len : ∀ vs H Q E, sp vs H Q E → vs.length = ps.length)
    (hbody : ∀ (f : Addr) (cdv : Value) (A : Around) (outer : List Env) (s : Shared) (H : Hp) (vs : List V) (Q : VK) (E : XK), Room k (A.deeper (envOfC x (defScope st) s.heap.objs.size f cdv)) → sp vs H Q E →
      ∃ t, PSs (cxOf CX0 P w K mg base N x (defScope st) f cdv A outer s H E).nox (defBody st) t ∧ t { nx := fun _ H' => Q .non H', rt := Q } (start N vs) H) : Cal P w K mg base (k + 1) x sp := by
  obtain ⟨f, fd, F, hm, b⟩ := D
  exact ⟨f, fd, ps, F.ok S len fun cdv A outer s H vs Q E => hbody f cdv A outer s H vs Q E, hm, F.kp, b⟩
end
section
variable {X : Cx} {k j : Nat} {x : Str} {sp : Sp} {p pos : Pos} {e : Expr} {es : List Expr} {t : TA}
theorem pc (c : Cal X.prog X.w X.K X.mg X.base k x sp) (hr : Room j X.A) (hk : k ≤ j) (hg : Gl X x) (ha : PA X (e :: es) t) (hdb : (x == ("__debug__" : Str)) = false := by decide)
    (he : starEach (e :: es) X.env = (false, eval e X.env) :: starEach es X.env := by rfl) (hpl : (backTo pos (starEach es X.env)).any (·.1) = false := by rfl) : PE X (.Call (.Name x p) (e :: es) [] pos) (tCall sp [] E0 t) := by
  obtain ⟨f, fd, ps, F, hm, kp, b⟩ := c
  exact pe_call F (hr.mono hk) hg hm kp b .nil pass0 ha hdb he hpl
/-- a global constant -/
theorem pgc {v : V} (h : ∃ u, X.mg x = some u ∧ RelV v u) (hg : Gl X x := by rfl) (hd : (x == ("__debug__" : Str)) = false := by decide) : PE X (.Name x pos) (tC v) := by
  obtain ⟨u, hm, r⟩ := h
  exact pe_glob hg hm r hd
end
end K30
/-! is_between, is_word, is_entry, is_integer, the law's is_integer. -/
namespace K30
open PySem PySem.Spec PyProof.Rows L2 K30R
section
variable {P : Program} {w : World} {K : PySem.W.Frag} {mg : Str → Option Value} {base : Heap}
abbrev t_is_between : Stmt := topS 9
abbrev n_is_between : List Str := ["value", "low", "high"]
abbrev p_is_between : List Str := ["value", "low", "high"]
theorem sc_is_between : FnScope n_is_between p_is_between (defScope t_is_between) := ⟨rfl, rfl, rfl, by decide +kernel, rfl, by decide +kernel, by decide +kernel⟩
def spIsBetween : Sp := fun vs H Q _ => ∃ v lo hi : Int, vs = [.int v, .int lo, .int hi] ∧ Q (.bl (decide (lo ≤ v) && decide (v ≤ hi))) H
theorem ok_is_between (D : Df K mg "is_between" t_is_between p_is_between) (B : Blt mg) : Cal P w K mg base 1 "is_between" spIsBetween := by
  refine D.ok sc_is_between (fun vs H Q E h => ?_) (fun f cdv A outer s H vs Q E hr h => ?_)
  · obtain ⟨v, lo, hi, rfl, _⟩ := h
    rfl
  · obtain ⟨v, lo, hi, rfl, q⟩ := h
    refine ⟨_, pss_one (ps_ret (pe_and (pe_callB call_isi (by rfl) B.isinstance (by decide +kernel) (pa_cons (pv 0) (pa_cons (pe_bltn (v := .ty "int") (by rfl) B.int (by decide +kernel) rfl) pa_nil))) (pe_and (pe_not (pe_callB call_isi (by rfl) B.isinstance (by decide +kernel) (pa_cons (pv 0) (pa_cons (pe_bltn (v := .ty "bool") (by rfl) B.bool (by decide +kernel) rfl) pa_nil)))) (pe_one (pe_chain op_le op_le (pv 1) (pv 0) (pv 2)))))), ?_⟩
    refine ⟨_, rfl, _, _, _, _, true, rfl, .ty _, .base (.int _), kit_ty (by decide +kernel), true, rfl, iteT ?_⟩
    refine ⟨_, rfl, _, _, _, _, false, rfl, .ty _, .base (.int _), kit_ty (by decide +kernel), false, rfl, _, rfl, iteT ?_⟩
    refine ⟨_, rfl, _, rfl, _, _, rfl, rfl, _, rfl, ?_⟩
    cases h1 : decide (lo ≤ v) with
    | false =>
      rw [h1] at q
      exact iteF q
    | true =>
      rw [h1] at q
      exact iteT ⟨_, rfl, _, _, rfl, rfl, q⟩
abbrev t_is_word : Stmt := topS 10
abbrev n_is_word : List Str := ["value", "letter"]
abbrev p_is_word : List Str := ["value"]
theorem sc_is_word : FnScope n_is_word p_is_word (defScope t_is_word) := ⟨rfl, rfl, rfl, by decide +kernel, rfl, by decide +kernel, by decide +kernel⟩
def spIsWord : Sp := fun vs H Q _ => ∃ l : Wd, vs = [.str (S l)] ∧ 1 ≤ l.length ∧ l.length ≤ 4 ∧ (∀ x ∈ l, 97 ≤ x ∧ x ≤ 122) ∧ ∀ H', Same H H' → Q (.bl true) H'
theorem alpha_mem {x : Nat} (h : 97 ≤ x ∧ x ≤ 122) : x ∈ (Str.ofString "abcdefghijklmnopqrstuvwxyz").cps.toList := by
  have e : ∀ y : Nat, y < 26 → (y + 97) ∈ (Str.ofString "abcdefghijklmnopqrstuvwxyz").cps.toList := by decide +kernel
  have := e (x - 97) (by omega)
  rw [show x - 97 + 97 = x by omega] at this
  exact this
theorem trues {n : Nat} : (List.replicate n (V.bl true)) = (List.replicate n true).map V.bl := by rw [List.map_replicate]
theorem ok_is_word (D : Df K mg "is_word" t_is_word p_is_word) (B : Blt mg) : Cal P w K mg base 1 "is_word" spIsWord := by
  refine D.ok sc_is_word (fun vs H Q E h => ?_) (fun f cdv A outer s H vs Q E hr h => ?_)
  · obtain ⟨l, rfl, _⟩ := h
    rfl
  · obtain ⟨l, rfl, h1, h4, ha, q⟩ := h
    refine ⟨_, pss_cons (ps_if (PW.pt (pw_or (pt_not (pt_val (pe_callB call_isi (by rfl) B.isinstance (by decide +kernel) (pa_cons (pv 0) (pa_cons (pe_bltn (v := .ty "str") (by rfl) B.str (by decide +kernel) rfl) pa_nil))))) (pw_or1 (pt_not (pt_chain op_le op_le pe_int (pe_callB call_len (by rfl) B.len PySem.boot_len (pa_cons (pv 0) pa_nil)) (pgc B.longest)))))) (pss_one (ps_ret pe_bl)) pss_nil)
      (pss_one (ps_ret (pe_callB (cr_all rfl) (by rfl) B.all (by decide +kernel) (pa_cons (pe_lc (own := [("letter", 1)]) (g := gName 1) rfl sc_is_word.nd (pi_str (pv 0)) (blkOk_by (N := n_is_word) (sc := defScope t_is_word) (by decide +kernel)) (fun _ _ _ _ _ => pg_name (i := 1) sc_is_word.nd rfl (Or.inl rfl)) (fun _ _ _ _ _ => pts_nil) (fun _ _ _ _ _ => (pe_cmpR op_in_sign (pv 1) (pgc B.alphabet) rfl))) pa_nil)))), ?_⟩
    have eS : (S l).length = l.length := S_len l
    refine ⟨_, rfl, _, _, _, _, true, rfl, .ty _, .base (.str _), kit_ty (by decide +kernel), true, rfl, iteF ?_⟩
    refine ⟨_, rfl, _, _, rfl, ⟨by rw [eS, sizeLine_eq]; omega, rfl⟩, _, _, rfl, rfl, _, rfl, ?_⟩
    rw [eS, decide_eq_true (show (1 : Int) ≤ (l.length : Int) by omega)]
    refine iteT ⟨_, _, rfl, rfl, _, rfl, ?_⟩
    rw [decide_eq_true (show (l.length : Int) ≤ 4 by omega)]
    refine iteF ?_
    -- all([letter in ALPHABET for letter in value])
    refine ⟨_, rfl, S l, rfl, fun D hD => lc_it walk_str (fun i H' => Cw H D (List.replicate i (.bl true)) H') (Cw.start hD) (fun _ _ _ _ => trivial) (fun i x H2 H3 hi c y => ?_) (fun H2 c => ?_)⟩
    · obtain ⟨rfl, k, hk, rfl⟩ := y
      refine ⟨rfl, tt_yes2 ?_⟩
      refine ⟨_, rfl, k, _, rfl, rfl, ?_⟩
      have hm : k ∈ l := by
        have : k ∈ (S l).cps.toList := by
          rw [← Array.getElem?_toList] at hk
          exact List.mem_of_getElem? hk
        exact this
      rw [decide_eq_true (alpha_mem (ha k hm))]
      refine c.app (Same.refl _) ?_ (by rw [List.replicate_succ'])
      rw [List.length_replicate]
      have : (S l).cps.size = l.length := eS
      omega
    · refine ⟨D, _, rfl, SqL.of (by rw [← trues]; exact c.2.2), ?_⟩
      rw [show (List.replicate (S l).cps.size true).all id = true by simp]
      exact q H2 c.2.1
abbrev t_is_entry : Stmt := topS 11
abbrev n_is_entry : List Str := ["value"]
abbrev p_is_entry : List Str := ["value"]
theorem sc_is_entry : FnScope n_is_entry p_is_entry (defScope t_is_entry) := ⟨rfl, rfl, rfl, by decide +kernel, rfl, by decide +kernel, by decide +kernel⟩
def spIsEntry : Sp := fun vs H Q _ => ∃ (a : Addr) (l : Wd) (c : Int), vs = [.ref a] ∧ H a = some (.tup [.str (S l), .int c]) ∧ 1 ≤ l.length ∧ l.length ≤ 4 ∧ (∀ x ∈ l, 97 ≤ x ∧ x ≤ 122) ∧ 1 ≤ c ∧ c ≤ 9 ∧ ∀ H', Same H H' → Q (.bl true) H'
theorem ok_is_entry (D : Df K mg "is_entry" t_is_entry p_is_entry) (B : Blt mg) (C1 : Cal P w K mg base 1 "is_between" spIsBetween) (C2 : Cal P w K mg base 1 "is_word" spIsWord) : Cal P w K mg base 2 "is_entry" spIsEntry := by
  refine D.ok sc_is_entry (fun vs H Q E h => ?_) (fun f cdv A outer s H vs Q E hr h => ?_)
  · obtain ⟨a, l, c, rfl, _⟩ := h
    rfl
  · obtain ⟨a, l, c, rfl, ha, h1, h4, hx, c1, c9, q⟩ := h
    refine ⟨_, pss_one (ps_ret (pe_and (pe_callB call_isi (by rfl) B.isinstance (by decide +kernel) (pa_cons (pv 0) (pa_cons (pe_bltn (v := .ty "tuple") (by rfl) B.tuple (by decide +kernel) rfl) pa_nil))) (pe_and (pe_cmpR op_eq (pe_callB call_len (by rfl) B.len PySem.boot_len (pa_cons (pv 0) pa_nil)) pe_int (nomark _)) (pe_and (pc C2 hr (by decide) (by rfl) (pa_cons (pe_ix (r := rIxT K) ix_tup (pv 0) pe_int (fun _ _ => rfl)) pa_nil)) (pe_one (pc C1 hr (by decide) (by rfl) (pa_cons (pe_ix (r := rIxT K) ix_tup (pv 0) pe_int (fun _ _ => rfl)) (pa_cons pe_int (pa_cons (pgc B.mostCost) pa_nil))))))))), ?_⟩
    refine ⟨_, rfl, _, _, _, _, true, rfl, .ty _, .base (.tup ha), kit_ty (by decide +kernel), true, rfl, iteT ?_⟩
    refine ⟨_, rfl, _, _, rfl, .inr ⟨_, SqT.of ha, rfl⟩, rfl, true, rfl, iteT ?_⟩
    refine ⟨_, rfl, a, _, _, _, rfl, rfl, SqT.of ha, atI_nat (j := 0) rfl, l, rfl, h1, h4, hx, fun H1 s1 => ?_⟩
    refine ⟨true, rfl, iteT ?_⟩
    refine ⟨_, rfl, a, _, _, _, rfl, rfl, SqT.of (s1 _ _ ha), atI_nat (j := 1) rfl, c, 1, 9, rfl, ?_⟩
    rw [decide_eq_true c1, decide_eq_true c9]
    exact q H1 s1

/-! ### integers -/
def isI : V → Bool
  | .int _ => true
  | _ => false
/-- None, a bool, an int, a text -/
def sc4 : V → Prop
  | .non => True
  | .bl _ => True
  | .int _ => True
  | .str _ => True
  | _ => False
abbrev t_is_integer : Stmt := topS 24
abbrev n_is_integer : List Str := ["value"]
abbrev p_is_integer : List Str := ["value"]
theorem sc_is_integer : FnScope n_is_integer p_is_integer (defScope t_is_integer) := ⟨rfl, rfl, rfl, by decide +kernel, rfl, by decide +kernel, by decide +kernel⟩
def spIsInt : Sp := fun vs H Q _ => ∃ x : V, vs = [x] ∧ sc4 x ∧ Q (.bl (isI x)) H
theorem ok_is_integer (D : Df K mg "is_integer" t_is_integer p_is_integer) (B : Blt mg) : Cal P w K mg base 1 "is_integer" spIsInt := by
  refine D.ok sc_is_integer (fun vs H Q E h => ?_) (fun f cdv A outer s H vs Q E hr h => ?_)
  · obtain ⟨x, rfl, _⟩ := h
    rfl
  · obtain ⟨x, rfl, hx, q⟩ := h
    refine ⟨_, pss_one (ps_ret (pe_and (pe_callB call_isi (by rfl) B.isinstance (by decide +kernel) (pa_cons (pv 0) (pa_cons (pe_bltn (v := .ty "int") (by rfl) B.int (by decide +kernel) rfl) pa_nil))) (pe_one (pe_not (pe_callB call_isi (by rfl) B.isinstance (by decide +kernel) (pa_cons (pv 0) (pa_cons (pe_bltn (v := .ty "bool") (by rfl) B.bool (by decide +kernel) rfl) pa_nil))))))), ?_⟩
    cases x with
    | non => exact ⟨_, rfl, _, _, _, _, false, rfl, .ty _, .base .non, kit_ty (by decide +kernel), false, rfl, iteF q⟩
    | bl b => exact ⟨_, rfl, _, _, _, _, true, rfl, .ty _, .base (.bl _), kit_ty (by decide +kernel), true, rfl, iteT ⟨_, rfl, _, _, _, _, true, rfl, .ty _, .base (.bl _), kit_ty (by decide +kernel), true, rfl, q⟩⟩
    | int i => exact ⟨_, rfl, _, _, _, _, true, rfl, .ty _, .base (.int _), kit_ty (by decide +kernel), true, rfl, iteT ⟨_, rfl, _, _, _, _, false, rfl, .ty _, .base (.int _), kit_ty (by decide +kernel), false, rfl, q⟩⟩
    | str z => exact ⟨_, rfl, _, _, _, _, false, rfl, .ty _, .base (.str _), kit_ty (by decide +kernel), false, rfl, iteF q⟩
    | byt _ => exact hx.elim
    | flt _ => exact hx.elim
    | ref _ => exact hx.elim
    | ty _ => exact hx.elim
abbrev t__law_is_integer : Stmt := topS 30
abbrev n__law_is_integer : List Str := ["_law_actual"]
abbrev p__law_is_integer : List Str := ["_law_actual"]
theorem sc__law_is_integer : FnScope n__law_is_integer p__law_is_integer (defScope t__law_is_integer) := ⟨rfl, rfl, rfl, by decide +kernel, rfl, by decide +kernel, by decide +kernel⟩
theorem ok_law_is_integer (D : Df K mg "_law_is_integer" t__law_is_integer p__law_is_integer) (B : Blt mg) : Cal P w K mg base 1 "_law_is_integer" spIsInt := by
  refine D.ok sc__law_is_integer (fun vs H Q E h => ?_) (fun f cdv A outer s H vs Q E hr h => ?_)
  · obtain ⟨x, rfl, _⟩ := h
    rfl
  · obtain ⟨x, rfl, hx, q⟩ := h
    refine ⟨_, pss_one (ps_ret (pe_and (pe_callB call_isi (by rfl) B.isinstance (by decide +kernel) (pa_cons (pv 0) (pa_cons (pe_bltn (v := .ty "int") (by rfl) B.int (by decide +kernel) rfl) pa_nil))) (pe_one (pe_not (pe_callB call_isi (by rfl) B.isinstance (by decide +kernel) (pa_cons (pv 0) (pa_cons (pe_bltn (v := .ty "bool") (by rfl) B.bool (by decide +kernel) rfl) pa_nil))))))), ?_⟩
    cases x with
    | non => exact ⟨_, rfl, _, _, _, _, false, rfl, .ty _, .base .non, kit_ty (by decide +kernel), false, rfl, iteF q⟩
    | bl b => exact ⟨_, rfl, _, _, _, _, true, rfl, .ty _, .base (.bl _), kit_ty (by decide +kernel), true, rfl, iteT ⟨_, rfl, _, _, _, _, true, rfl, .ty _, .base (.bl _), kit_ty (by decide +kernel), true, rfl, q⟩⟩
    | int i => exact ⟨_, rfl, _, _, _, _, true, rfl, .ty _, .base (.int _), kit_ty (by decide +kernel), true, rfl, iteT ⟨_, rfl, _, _, _, _, false, rfl, .ty _, .base (.int _), kit_ty (by decide +kernel), false, rfl, q⟩⟩
    | str z => exact ⟨_, rfl, _, _, _, _, false, rfl, .ty _, .base (.str _), kit_ty (by decide +kernel), false, rfl, iteF q⟩
    | byt _ => exact hx.elim
    | flt _ => exact hx.elim
    | ref _ => exact hx.elim
    | ty _ => exact hx.elim
end
end K30
/-! is_list, check_list, letters_in, is_text_of, is_text, check_text. -/
namespace K30
open PySem PySem.Spec PyProof.Rows L2 K30R
theorem nil_str : (Str.ofString "") = S [] := by decide +kernel
def namesV (W : WL) : List V := W.map fun e => V.str (S e.1)
theorem namesV_len (W : WL) : (namesV W).length = W.length := List.length_map _
theorem namesV_get {W : WL} {i : Nat} {e : Wd × Int} (h : W[i]? = some e) : (namesV W)[i]? = some (.str (S e.1)) := by
  unfold namesV
  rw [List.getElem?_map, h]
  rfl
theorem namesV_eq (W : WL) : namesV W = ((W.map (·.1)).map S).map V.str := by
  unfold namesV
  rw [List.map_map, List.map_map]
  rfl
theorem namesV_flat (W : WL) : (namesV W).all flatV = true := by
  rw [List.all_eq_true]
  intro x hx
  obtain ⟨e, _, rfl⟩ := List.mem_map.mp hx
  rfl
theorem sum_le {l : List Wd} {b : Nat} (h : ∀ w ∈ l, w.length ≤ b) : (l.map (·.length)).sum ≤ b * l.length := by
  induction l with
  | nil => simp
  | cons w r ih =>
    have h1 := h w List.mem_cons_self
    have h2 := ih fun v hv => h v (List.mem_cons_of_mem _ hv)
    rw [List.map_cons, List.sum_cons, List.length_cons, Nat.mul_add, Nat.mul_one]
    omega
theorem take_map_succ {α β : Type} {f : α → β} {l : List α} {i : Nat} {x : α} (h : l[i]? = some x) : (l.take (i + 1)).map f = (l.take i).map f ++ [f x] := by
  rw [List.take_add_one, h, List.map_append]
  rfl
/-- x in names -/
theorem inV_str {W : WL} {x : Nat} (h : ∃ c, ([x], c) ∈ W) : inV (.str ⟨#[x]⟩) (namesV W) = true := by
  obtain ⟨c, hc⟩ := h
  unfold inV
  rw [List.any_eq_true]
  exact ⟨.str (S [x]), List.mem_map.mpr ⟨_, hc, rfl⟩, by simp [eqV]⟩
section
variable {P : Program} {w : World} {K : PySem.W.Frag} {mg : Str → Option Value} {base : Heap}
abbrev t_is_list : Stmt := topS 12
abbrev n_is_list : List Str := ["value", "names", "one", "entry", "at", "letter"]
abbrev p_is_list : List Str := ["value"]
theorem sc_is_list : FnScope n_is_list p_is_list (defScope t_is_list) := ⟨rfl, rfl, rfl, by decide +kernel, rfl, by decide +kernel, by decide +kernel⟩
def spIsList : Sp := fun vs H Q _ => ∃ (t : Addr) (W : WL), vs = [.ref t] ∧ WordsAt H t W ∧ GoodL W ∧ ∀ H', Same H H' → Q (.bl true) H'
theorem ok_is_list (D : Df K mg "is_list" t_is_list p_is_list) (B : Blt mg) (C1 : Cal P w K mg base 2 "is_entry" spIsEntry) : Cal P w K mg base 3 "is_list" spIsList := by
  refine D.ok sc_is_list (fun vs H Q E h => ?_) (fun f cdv A outer s H vs Q E hr h => ?_)
  · obtain ⟨a, W, rfl, _⟩ := h
    rfl
  · obtain ⟨t, W, rfl, hW, G, q⟩ := h
    obtain ⟨ys, ht, hy⟩ := id hW
    have ey : ys.length = W.length := hy.1
    have m8 := G.most
    have m1 := G.ne
    refine ⟨_, pss_cons (ps_if (PW.pt (pw_or (pt_not (pt_val (pe_callB call_isi (by rfl) B.isinstance (by decide +kernel) (pa_cons (pv 0) (pa_cons (pe_bltn (v := .ty "tuple") (by rfl) B.tuple (by decide +kernel) rfl) pa_nil))))) (pw_or (pt_not (pt_chain op_le op_le pe_int (pe_callB call_len (by rfl) B.len PySem.boot_len (pa_cons (pv 0) pa_nil)) (pgc B.mostWords)))
        (pw_or1 (pt_not (pt_val (pe_callB (cr_all rfl) (by rfl) B.all (by decide +kernel) (pa_cons (pe_lc (own := [("one", 2)]) (g := gName 2) rfl sc_is_list.nd (pi_tup (pv 0)) (blkOk_by (N := n_is_list) (sc := defScope t_is_list) (by decide +kernel)) (fun _ _ _ _ _ => pg_name (i := 2) sc_is_list.nd rfl (Or.inl rfl)) (fun _ _ _ _ _ => pts_nil) (fun _ _ _ _ _ => (pc C1 hr (by decide) (by rfl) (pa_cons (pv 2) pa_nil)))) pa_nil)))))))) (pss_one (ps_ret pe_bl)) pss_nil)
      (pss_cons (ps_set (i := 1) sc_is_list.nd rfl (Or.inr rfl) (pe_lc (own := [("entry", 3)]) (g := gName 3) rfl sc_is_list.nd (pi_tup (pv 0)) (blkOk_by (N := n_is_list) (sc := defScope t_is_list) (by decide +kernel)) (fun _ _ _ _ _ => pg_name (i := 3) sc_is_list.nd rfl (Or.inl rfl)) (fun _ _ _ _ _ => pts_nil) (fun _ _ _ _ _ => (pe_ix (r := rIxT K) ix_tup (pv 3) pe_int (fun _ _ => rfl)))))
      (pss_cons (ps_if (pt_not (pt_val (pe_callB (cr_all rfl) (by rfl) B.all (by decide +kernel) (pa_cons (pe_lc (own := [("at", 4)]) (g := gName 4) rfl sc_is_list.nd (pi_range1 rfl B.range (pa_cons (pe_op op_sub (pe_callB call_len (by rfl) B.len PySem.boot_len (pa_cons (pv 1) pa_nil)) pe_int) pa_nil)) (blkOk_by (N := n_is_list) (sc := defScope t_is_list) (by decide +kernel)) (fun _ _ _ _ _ => pg_name (i := 4) sc_is_list.nd rfl (Or.inl rfl)) (fun _ _ _ _ _ => pts_nil) (fun _ _ _ _ _ => (pe_cmpR op_lt_str (pe_ix (r := rIxL K) ix_list (pv 1) (pv 4) (fun _ _ => rfl)) (pe_ix (r := rIxL K) ix_list (pv 1) (pe_op op_add (pv 4) pe_int) (fun _ _ => rfl)) (nomark _)))) pa_nil)))) (pss_one (ps_ret pe_bl)) pss_nil)
      (pss_one (ps_ret (pe_callB (cr_all rfl) (by rfl) B.all (by decide +kernel) (pa_cons (pe_lc (own := [("letter", 5)]) (g := gName 5) rfl sc_is_list.nd (pi_str (pe_bm PySem.F.plainAttrs_str PySem.F.slot_str_join PySem.F.type_str_join mt_join pe_str (pa_cons (pv 1) pa_nil))) (blkOk_by (N := n_is_list) (sc := defScope t_is_list) (by decide +kernel)) (fun _ _ _ _ _ => pg_name (i := 5) sc_is_list.nd rfl (Or.inl rfl)) (fun _ _ _ _ _ => pts_nil) (fun _ _ _ _ _ => (pe_cmpR (r := rIn K false) op_in_seq (pv 5) (pv 1) rfl))) pa_nil)))))), ?_⟩
    -- isinstance(value, tuple)
    refine ⟨_, rfl, _, _, _, _, true, rfl, .ty _, .base (.tup ht), kit_ty (by decide +kernel), true, rfl, iteF ?_⟩
    -- 1 <= len(value) <= 8
    refine ⟨_, rfl, _, _, rfl, .inr ⟨_, SqT.of ht, rfl⟩, _, _, rfl, rfl, _, rfl, ?_⟩
    rw [ey, decide_eq_true (show (1 : Int) ≤ (W.length : Int) by omega)]
    refine iteT ⟨_, _, rfl, rfl, _, rfl, ?_⟩
    rw [decide_eq_true (show (W.length : Int) ≤ 8 by omega)]
    refine iteF ?_
    -- all([is_entry(one) for one in value])
    refine ⟨_, rfl, t, rfl, ⟨_, SqT.of ht⟩, fun D hD => lc_tup (xs := ys) (fun i H' => Cw H D (List.replicate i (.bl true)) H') (Cw.start hD) (fun _ _ _ c => SqT.of (c.2.1 _ _ ht)) (fun i x H2 hx c => ?_) (fun H2 c => ?_)⟩
    · obtain ⟨v, k, a, e1, e2, rfl, ha⟩ := hy.at hx
      obtain ⟨g1, g2, g3, g4, g5, g6⟩ := G.ent v k e2
      refine ⟨rfl, tt_yes2 ?_⟩
      refine ⟨_, rfl, a, v, k, rfl, c.2.1 _ _ ha, g1, g2, g3, g4, g5, fun H3 s3 => ?_⟩
      refine c.app s3 ?_ (by rw [List.replicate_succ'])
      have := (List.getElem?_eq_some_iff.mp hx).1
      rw [List.length_replicate]
      omega
    refine ⟨D, _, rfl, SqL.of (by rw [← trues]; exact c.2.2), ?_⟩
    rw [show (List.replicate ys.length true).all id = true by simp]
    refine ⟨true, rfl, iteF ?_⟩
    have s2 : Same H H2 := c.2.1
    have ht2 := s2 _ _ ht
    clear c
    -- names = [entry[0] for entry in value]
    refine ⟨_, rfl, t, rfl, ⟨_, SqT.of ht2⟩, fun D2 hD2 => lc_tup (xs := ys) (fun i H' => Cw H2 D2 (namesV (W.take i)) H') (Cw.start hD2) (fun _ _ _ c => SqT.of (c.2.1 _ _ ht2)) (fun i x H3 hx c => ?_) (fun H3 c => ?_)⟩
    · obtain ⟨v, k, a, e1, e2, rfl, ha⟩ := hy.at hx
      have ha3 := c.2.1 _ _ (s2 _ _ ha)
      refine ⟨rfl, tt_yes2 ?_⟩
      refine ⟨_, rfl, a, _, _, _, rfl, rfl, SqT.of ha3, atI_nat (j := 0) rfl, ?_⟩
      refine c.app (Same.refl _) ?_ (take_map_succ e1)
      have := (List.getElem?_eq_some_iff.mp hx).1
      rw [namesV_len, List.length_take]
      omega
    rw [ey, List.take_length] at c
    have s3 : Same H H3 := s2.trans c.2.1
    have hN : H3 D2 = some (.lst (namesV W)) := c.2.2
    clear c
    have nl : (namesV W).length = W.length := namesV_len W
    -- all([names[at] < names[at + 1] for at in range(len(names) - 1)])
    refine ⟨_, rfl, _, _, rfl, .inl ⟨_, SqL.of hN, rfl⟩, _, _, rfl, rfl, _, rfl, by omega, by omega, fun D3 hD3 => lc_range (fun i H' => Cw H3 D3 (List.replicate i (.bl true)) H') (Cw.start hD3) (fun i H4 hi c => ?_) (fun H4 c => ?_)⟩
    · have hi2 : i + 1 < W.length := by omega
      have e1 : W[i]? = some W[i] := List.getElem?_eq_getElem (by omega)
      have e2 : W[i + 1]? = some W[i + 1] := List.getElem?_eq_getElem hi2
      have hN4 := c.2.1 _ _ hN
      refine ⟨rfl, tt_yes2 ?_⟩
      refine ⟨_, rfl, _, rfl, D2, _, _, _, rfl, rfl, SqL.of hN4, at_of (j := i) (by omega) (namesV_get e1), ?_⟩
      refine ⟨_, rfl, _, rfl, _, _, rfl, rfl, D2, _, _, _, rfl, rfl, SqL.of hN4, at_of (j := i + 1) (by omega) (namesV_get e2), ?_⟩
      refine ⟨_, _, rfl, rfl, ?_⟩
      rw [decide_eq_true (show (S W[i].1).cps.toList < (S W[i + 1].1).cps.toList from G.asc i _ _ e1 e2)]
      refine c.app (Same.refl _) ?_ (by rw [List.replicate_succ'])
      rw [List.length_replicate]
      omega
    refine ⟨D3, _, rfl, SqL.of (by rw [← trues]; exact c.2.2), ?_⟩
    rw [show ∀ n : Nat, (List.replicate n true).all id = true by intro n; simp]
    refine ⟨true, rfl, iteF ?_⟩
    have s4 : Same H H4 := s3.trans c.2.1
    have hN4 := c.2.1 _ _ hN
    clear c
    -- all([letter in names for letter in "".join(names)])
    have h4 : ∀ v ∈ W.map (·.1), v.length ≤ 4 := fun v hv => by
      obtain ⟨e, he, rfl⟩ := List.mem_map.mp hv
      exact (G.ent e.1 e.2 he).2.1
    have hsum := sum_le h4
    rw [List.length_map] at hsum
    refine ⟨rfl, _, rfl, _, D2, (W.map (·.1)).map S, rfl, rfl, .inl (SqL.of (by rw [← namesV_eq]; exact hN4)), ?_, ?_⟩
    · rw [mapS_len, nil_str, S_len]
      show ((W.map (·.1)).map (·.length)).sum + ((W.map (·.1)).map S).length * 0 ≤ 16777216
      omega
    rw [nil_str, join_is]
    refine ⟨_, rfl, fun D4 hD4 => lc_it walk_str (fun i H' => Cw H4 D4 (List.replicate i (.bl true)) H') (Cw.start hD4) (fun _ _ _ _ => trivial) (fun i x H5 H6 hi c y => ?_) (fun H5 c => ?_)⟩
    · obtain ⟨rfl, k, hk, rfl⟩ := y
      have hm : k ∈ (W.map (·.1)).flatten := by
        rw [← Array.getElem?_toList] at hk
        exact List.mem_of_getElem? hk
      obtain ⟨v, hv, hkv⟩ := List.mem_flatten.mp hm
      obtain ⟨e, he, rfl⟩ := List.mem_map.mp hv
      refine ⟨rfl, tt_yes2 ?_⟩
      refine ⟨_, rfl, _, rfl, D2, _, rfl, .inl (SqL.of (c.2.1 _ _ hN4)), rfl, namesV_flat W, ?_⟩
      show ∃ acc, _
      rw [if_neg (by decide), inV_str ((G.ent e.1 e.2 he).2.2.2.2.2 k hkv)]
      refine c.app (Same.refl _) ?_ (by rw [List.replicate_succ'])
      have hz : (S (W.map (·.1)).flatten).cps.size = (W.map (·.1)).flatten.length := S_len _
      have hsum2 : ((W.map (·.1)).map List.length).sum ≤ 4 * W.length := hsum
      rw [List.length_flatten] at hz
      rw [List.length_replicate]
      omega
    · refine ⟨D4, _, rfl, SqL.of (by rw [← trues]; exact c.2.2), ?_⟩
      rw [show ∀ n : Nat, (List.replicate n true).all id = true by intro n; simp]
      exact q H5 (s4.trans c.2.1)
abbrev t_check_list : Stmt := topS 13
abbrev n_check_list : List Str := ["words"]
abbrev p_check_list : List Str := ["words"]
theorem sc_check_list : FnScope n_check_list p_check_list (defScope t_check_list) := ⟨rfl, rfl, rfl, by decide +kernel, rfl, by decide +kernel, by decide +kernel⟩
def spCheckList : Sp := fun vs H Q _ => ∃ (t : Addr) (W : WL), vs = [.ref t] ∧ WordsAt H t W ∧ GoodL W ∧ ∀ H', Same H H' → Q .non H'
theorem ok_check_list (D : Df K mg "check_list" t_check_list p_check_list) (C1 : Cal P w K mg base 3 "is_list" spIsList) : Cal P w K mg base 4 "check_list" spCheckList := by
  refine D.ok sc_check_list (fun vs H Q E h => ?_) (fun f cdv A outer s H vs Q E hr h => ?_)
  · obtain ⟨a, W, rfl, _⟩ := h
    rfl
  · obtain ⟨t, W, rfl, hW, G, q⟩ := h
    refine ⟨_, pss_one (ps_if (pt_not (pt_val (pc C1 hr (by decide) (by rfl) (pa_cons (pv 0) pa_nil)))) (pss_one ps_never) pss_nil), ?_⟩
    exact ⟨_, rfl, t, W, rfl, hW, G, fun H' s' => ⟨true, rfl, iteF (q H' s')⟩⟩

/-! ### the letters of a list -/
def lettersOf : WL → Wd
  | [] => []
  | e :: r => if e.1.length = 1 then e.1 ++ lettersOf r else lettersOf r
def shorts (W : WL) : List Wd := (W.filter fun e => decide (e.1.length = 1)).map (·.1)
theorem shorts_flat (W : WL) {x : Nat} {c : Int} (h : ([x], c) ∈ W) : x ∈ (shorts W).flatten :=
  List.mem_flatten.mpr ⟨[x], List.mem_map.mpr ⟨([x], c), List.mem_filter.mpr ⟨h, by simp⟩, rfl⟩, by simp⟩
theorem shorts_succ {W : WL} {i : Nat} {e : Wd × Int} (h : W[i]? = some e) : shorts (W.take (i + 1)) = if e.1.length = 1 then shorts (W.take i) ++ [e.1] else shorts (W.take i) := by
  unfold shorts
  rw [List.take_add_one, h, List.filter_append, List.map_append]
  by_cases q : e.1.length = 1
  · rw [if_pos q]
    simp [q]
  · rw [if_neg q]
    simp [q]
theorem shorts_len (W : WL) : (shorts W).length ≤ W.length := by
  unfold shorts
  rw [List.length_map]
  exact List.length_filter_le _ _
theorem shorts_one (W : WL) : ∀ v ∈ shorts W, v.length ≤ 1 := fun v hv => by
  obtain ⟨e, he, rfl⟩ := List.mem_map.mp hv
  have := (List.mem_filter.mp he).2
  have := of_decide_eq_true this
  omega
abbrev t_letters_in : Stmt := topS 14
abbrev n_letters_in : List Str := ["words", "entry"]
abbrev p_letters_in : List Str := ["words"]
theorem sc_letters_in : FnScope n_letters_in p_letters_in (defScope t_letters_in) := ⟨rfl, rfl, rfl, by decide +kernel, rfl, by decide +kernel, by decide +kernel⟩
def spLettersIn : Sp := fun vs H Q _ => ∃ (t : Addr) (W : WL), vs = [.ref t] ∧ WordsAt H t W ∧ GoodL W ∧ ∀ H', Same H H' → Q (.str (S (shorts W).flatten)) H'
theorem ok_letters_in (D : Df K mg "letters_in" t_letters_in p_letters_in) (B : Blt mg) : Cal P w K mg base 1 "letters_in" spLettersIn := by
  refine D.ok sc_letters_in (fun vs H Q E h => ?_) (fun f cdv A outer s H vs Q E hr h => ?_)
  · obtain ⟨a, W, rfl, _⟩ := h
    rfl
  · obtain ⟨t, W, rfl, hW, G, q⟩ := h
    obtain ⟨ys, ht, hy⟩ := id hW
    have ey : ys.length = W.length := hy.1
    have m8 := G.most
    refine ⟨_, pss_one (ps_ret (pe_bm PySem.F.plainAttrs_str PySem.F.slot_str_join PySem.F.type_str_join mt_join pe_str (pa_cons (pe_lc (own := [("entry", 1)]) (g := gName 1) rfl sc_letters_in.nd (pi_tup (pv 0)) (blkOk_by (N := n_letters_in) (sc := defScope t_letters_in) (by decide +kernel)) (fun _ _ _ _ _ => pg_name (i := 1) sc_letters_in.nd rfl (Or.inl rfl)) (fun _ _ _ _ _ => pts_one (pt_cmpR op_eq (pe_callB call_len_str (by rfl) B.len PySem.boot_len (pa_cons (pe_ix (r := rIxT K) ix_tup (pv 1) pe_int (fun _ _ => rfl)) pa_nil)) pe_int (nomark _))) (fun _ _ _ _ _ => (pe_ix (r := rIxT K) ix_tup (pv 1) pe_int (fun _ _ => rfl)))) pa_nil))), ?_⟩
    refine ⟨rfl, _, rfl, t, rfl, ⟨_, SqT.of ht⟩, fun D hD => lc_tup (xs := ys) (fun i H' => Cw H D ((shorts (W.take i)).map fun v => .str (S v)) H') (Cw.start hD) (fun _ _ _ c => SqT.of (c.2.1 _ _ ht)) (fun i x H2 hx c => ?_) (fun H2 c => ?_)⟩
    · obtain ⟨v, k, a, e1, e2, rfl, ha⟩ := hy.at hx
      have hi := (List.getElem?_eq_some_iff.mp hx).1
      have ha2 := c.2.1 _ _ ha
      have h4 := (G.ent v k e2).2.1
      refine ⟨rfl, ?_⟩
      refine ⟨_, rfl, a, _, _, _, rfl, rfl, SqT.of ha2, atI_nat (j := 0) rfl, _, rfl, by rw [S_len, sizeLine_eq]; omega, rfl, _, rfl, ?_⟩
      rw [S_len]
      have es := shorts_succ e1
      by_cases hl : v.length = 1
      · rw [if_pos hl] at es
        rw [hl]
        refine iteT ?_
        refine ⟨_, rfl, a, _, _, _, rfl, rfl, SqT.of ha2, atI_nat (j := 0) rfl, ?_⟩
        refine c.app (Same.refl _) ?_ (by rw [es, List.map_append]; rfl)
        have := shorts_len (W.take i)
        rw [List.length_take] at this
        rw [List.length_map]
        omega
      · rw [if_neg hl] at es
        rw [decide_eq_false (show ¬ V.int ((v.length : Nat) : Int) = V.int 1 from fun z => hl (by have := V.int.inj z; omega))]
        refine iteF ?_
        rw [es]
        exact c
    · rw [ey, List.take_length] at c
      refine ⟨_, D, (shorts W).map S, rfl, rfl, .inl (SqL.of (by rw [List.map_map]; exact c.2.2)), ?_, ?_⟩
      · have h1 := sum_le (shorts_one W)
        have h2 := shorts_len W
        rw [mapS_len, nil_str, S_len]
        show ((shorts W).map (·.length)).sum + ((shorts W).map S).length * 0 ≤ 16777216
        omega
      · rw [nil_str, join_is]
        exact q H2 c.2.1
abbrev t_is_text_of : Stmt := topS 15
abbrev n_is_text_of : List Str := ["words", "value", "letters", "letter"]
abbrev p_is_text_of : List Str := ["words", "value"]
theorem sc_is_text_of : FnScope n_is_text_of p_is_text_of (defScope t_is_text_of) := ⟨rfl, rfl, rfl, by decide +kernel, rfl, by decide +kernel, by decide +kernel⟩
def spIsTextOf : Sp := fun vs H Q _ => ∃ (t : Addr) (W : WL) (T : Wd), vs = [.ref t, .str (S T)] ∧ WordsAt H t W ∧ GoodL W ∧ GoodT W T ∧ ∀ H', Same H H' → Q (.bl true) H'
theorem ok_is_text_of (D : Df K mg "is_text_of" t_is_text_of p_is_text_of) (B : Blt mg) (C1 : Cal P w K mg base 1 "letters_in" spLettersIn) : Cal P w K mg base 2 "is_text_of" spIsTextOf := by
  refine D.ok sc_is_text_of (fun vs H Q E h => ?_) (fun f cdv A outer s H vs Q E hr h => ?_)
  · obtain ⟨a, W, T, rfl, _⟩ := h
    rfl
  · obtain ⟨t, W, T, rfl, hW, G, GT, q⟩ := h
    have h7 := GT.len
    refine ⟨_, pss_cons (ps_if (PW.pt (pw_or (pt_not (pt_val (pe_callB call_isi (by rfl) B.isinstance (by decide +kernel) (pa_cons (pv 1) (pa_cons (pe_bltn (v := .ty "str") (by rfl) B.str (by decide +kernel) rfl) pa_nil))))) (pw_or1 (pt_cmpR op_gt (pe_callB call_len_str (by rfl) B.len PySem.boot_len (pa_cons (pv 1) pa_nil)) (pgc B.mostLetters) (nomark _))))) (pss_one (ps_ret pe_bl)) pss_nil)
      (pss_cons (ps_set (i := 2) sc_is_text_of.nd rfl (Or.inr rfl) (pc C1 hr (by decide) (by rfl) (pa_cons (pv 0) pa_nil)))
      (pss_one (ps_ret (pe_callB (cr_all rfl) (by rfl) B.all (by decide +kernel) (pa_cons (pe_lc (own := [("letter", 3)]) (g := gName 3) rfl sc_is_text_of.nd (pi_str (pv 1)) (blkOk_by (N := n_is_text_of) (sc := defScope t_is_text_of) (by decide +kernel)) (fun _ _ _ _ _ => pg_name (i := 3) sc_is_text_of.nd rfl (Or.inl rfl)) (fun _ _ _ _ _ => pts_nil) (fun _ _ _ _ _ => (pe_cmpR op_in_sign (pv 3) (pv 2) rfl))) pa_nil))))), ?_⟩
    refine ⟨_, rfl, _, _, _, _, true, rfl, .ty _, .base (.str _), kit_ty (by decide +kernel), true, rfl, iteF ?_⟩
    refine ⟨_, rfl, _, rfl, by rw [S_len, sizeLine_eq]; omega, _, _, rfl, rfl, _, rfl, ?_⟩
    rw [S_len, decide_eq_false (show ¬ (30 : Int) < (T.length : Int) by omega)]
    refine iteF ?_
    refine ⟨_, rfl, t, W, rfl, hW, G, fun H1 s1 => ?_⟩
    refine ⟨_, rfl, S T, rfl, fun D hD => lc_it walk_str (fun i H' => Cw H1 D (List.replicate i (.bl true)) H') (Cw.start hD) (fun _ _ _ _ => trivial) (fun i x H2 H3 hi c y => ?_) (fun H2 c => ?_)⟩
    · obtain ⟨rfl, k, hk, rfl⟩ := y
      have hm : k ∈ T := by
        rw [← Array.getElem?_toList] at hk
        exact List.mem_of_getElem? hk
      obtain ⟨k', hk'⟩ := GT.txt k hm
      refine ⟨rfl, tt_yes2 ?_⟩
      refine ⟨_, rfl, _, rfl, k, _, rfl, rfl, ?_⟩
      rw [decide_eq_true (show k ∈ (S (shorts W).flatten).cps.toList from shorts_flat W hk')]
      refine c.app (Same.refl _) ?_ (by rw [List.replicate_succ'])
      have hz : (S T).cps.size = T.length := S_len _
      rw [List.length_replicate]
      omega
    · refine ⟨D, _, rfl, SqL.of (by rw [← trues]; exact c.2.2), ?_⟩
      rw [show ∀ n : Nat, (List.replicate n true).all id = true by intro n; simp]
      exact q H2 (s1.trans c.2.1)
abbrev t_is_text : Stmt := topS 16
abbrev n_is_text : List Str := ["words", "value"]
abbrev p_is_text : List Str := ["words", "value"]
theorem sc_is_text : FnScope n_is_text p_is_text (defScope t_is_text) := ⟨rfl, rfl, rfl, by decide +kernel, rfl, by decide +kernel, by decide +kernel⟩
theorem ok_is_text (D : Df K mg "is_text" t_is_text p_is_text) (C1 : Cal P w K mg base 4 "check_list" spCheckList) (C2 : Cal P w K mg base 2 "is_text_of" spIsTextOf) : Cal P w K mg base 5 "is_text" spIsTextOf := by
  refine D.ok sc_is_text (fun vs H Q E h => ?_) (fun f cdv A outer s H vs Q E hr h => ?_)
  · obtain ⟨a, W, T, rfl, _⟩ := h
    rfl
  · obtain ⟨t, W, T, rfl, hW, G, GT, q⟩ := h
    refine ⟨_, pss_cons (ps_expr (pc C1 hr (by decide) (by rfl) (pa_cons (pv 0) pa_nil))) (pss_one (ps_ret (pc C2 hr (by decide) (by rfl) (pa_cons (pv 0) (pa_cons (pv 1) pa_nil))))), ?_⟩
    exact ⟨_, rfl, t, W, rfl, hW, G, fun H1 s1 => ⟨_, rfl, _, rfl, t, W, T, rfl, hW.same s1, G, GT, fun H2 s2 => q H2 (s1.trans s2)⟩⟩
abbrev t_check_text : Stmt := topS 18
abbrev n_check_text : List Str := ["words", "text"]
abbrev p_check_text : List Str := ["words", "text"]
theorem sc_check_text : FnScope n_check_text p_check_text (defScope t_check_text) := ⟨rfl, rfl, rfl, by decide +kernel, rfl, by decide +kernel, by decide +kernel⟩
def spCheckText : Sp := fun vs H Q _ => ∃ (t : Addr) (W : WL) (T : Wd), vs = [.ref t, .str (S T)] ∧ WordsAt H t W ∧ GoodL W ∧ GoodT W T ∧ ∀ H', Same H H' → Q .non H'
theorem ok_check_text (D : Df K mg "check_text" t_check_text p_check_text) (C1 : Cal P w K mg base 3 "is_list" spIsList) (C2 : Cal P w K mg base 5 "is_text" spIsTextOf) : Cal P w K mg base 6 "check_text" spCheckText := by
  refine D.ok sc_check_text (fun vs H Q E h => ?_) (fun f cdv A outer s H vs Q E hr h => ?_)
  · obtain ⟨a, W, T, rfl, _⟩ := h
    rfl
  · obtain ⟨t, W, T, rfl, hW, G, GT, q⟩ := h
    refine ⟨_, pss_cons (ps_if (pt_not (pt_val (pc C1 hr (by decide) (by rfl) (pa_cons (pv 0) pa_nil)))) (pss_one ps_never) pss_nil) (pss_one (ps_if (pt_not (pt_val (pc C2 hr (by decide) (by rfl) (pa_cons (pv 0) (pa_cons (pv 1) pa_nil))))) (pss_one ps_never) pss_nil)), ?_⟩
    refine ⟨_, rfl, t, W, rfl, hW, G, fun H1 s1 => ⟨true, rfl, iteF ?_⟩⟩
    exact ⟨_, rfl, _, rfl, t, W, T, rfl, hW.same s1, G, GT, fun H2 s2 => ⟨true, rfl, iteF (q H2 (s1.trans s2))⟩⟩
end
end K30
/-! costs_ahead, least_of, least_cost, costs_of. -/
namespace K30
open PySem PySem.Spec PyProof.Rows L2 K30R
/-- the row of the candidates at e -/
def rowsOf (W : WL) (T : Wd) (ns : List Int) (e : Nat) : List Int := (W.filter fun x => decide (x.1 <:+ T.take e)).map fun x => ns.getD (e - x.1.length) 0 + x.2
theorem rowsOf_succ {W : WL} {T : Wd} {ns : List Int} {e i : Nat} {x : Wd × Int} (h : W[i]? = some x) : rowsOf (W.take (i + 1)) T ns e = if x.1 <:+ T.take e then rowsOf (W.take i) T ns e ++ [ns.getD (e - x.1.length) 0 + x.2] else rowsOf (W.take i) T ns e := by
  unfold rowsOf
  rw [List.take_add_one, h, List.filter_append, List.map_append]
  by_cases q : x.1 <:+ T.take e
  · rw [if_pos q]
    simp [q]
  · rw [if_neg q]
    simp [q]
theorem rowsOf_len (W : WL) (T : Wd) (ns : List Int) (e : Nat) : (rowsOf W T ns e).length ≤ W.length := by
  unfold rowsOf
  rw [List.length_map]
  exact List.length_filter_le _ _
theorem rowsOf_mem {W : WL} {T : Wd} {ns : List Int} {e : Nat} {m : Int} : m ∈ rowsOf W T ns e ↔ ∃ w c, (w, c) ∈ W ∧ w <:+ T.take e ∧ m = ns.getD (e - w.length) 0 + c := by
  unfold rowsOf
  constructor
  · intro h
    obtain ⟨x, hx, e1⟩ := List.mem_map.mp h
    obtain ⟨h1, h2⟩ := List.mem_filter.mp hx
    exact ⟨x.1, x.2, h1, of_decide_eq_true h2, e1.symm⟩
  · rintro ⟨w, c, h1, h2, e1⟩
    exact List.mem_map.mpr ⟨(w, c), List.mem_filter.mpr ⟨h1, decide_eq_true h2⟩, e1.symm⟩
/-- the last letter is a word that ends there -/
theorem rowsOf_pos {W : WL} {T : Wd} {ns : List Int} {e : Nat} (GT : GoodT W T) (h1 : 1 ≤ e) (h2 : e ≤ T.length) : 0 < (rowsOf W T ns e).length := by
  obtain ⟨c, hc⟩ := GT.txt T[e - 1] (List.getElem_mem _)
  refine List.length_pos_of_mem (rowsOf_mem.mpr ⟨[T[e - 1]], c, hc, ⟨T.take (e - 1), ?_⟩, rfl⟩)
  have q := List.take_append_getElem (l := T) (i := e - 1) (h := by omega)
  rw [show e - 1 + 1 = e by omega] at q
  exact q
theorem getD_get {ns : List Int} {i : Nat} (h : i < ns.length) : ns[i]? = some (ns.getD i 0) := by
  rw [List.getD_eq_getElem?_getD, List.getElem?_eq_getElem h]
  rfl
theorem mapI_get {ns : List Int} {i : Nat} (h : i < ns.length) : (ns.map V.int)[i]? = some (.int (ns.getD i 0)) := by
  rw [List.getElem?_map, getD_get h]
  rfl
theorem Ahead.more_min {W : WL} {T : Wd} {i : Nat} {ns : List Int} {m : Int} (A : Ahead W T i ns) (hp : ∀ w c, (w, c) ∈ W → 1 ≤ w.length) (hm : m ∈ rowsOf W T ns (i + 1)) (hle : ∀ y, y ∈ rowsOf W T ns (i + 1) → m ≤ y) : Ahead W T (i + 1) (ns ++ [m]) := by
  refine A.more hp (fun w c a hw hs ha => ?_) ?_
  · have h := hle _ (rowsOf_mem.mpr ⟨w, c, hw, hs, rfl⟩)
    rw [List.getD_eq_getElem?_getD, ha] at h
    exact h
  · obtain ⟨w, c, hw, hs, e⟩ := rowsOf_mem.mp hm
    have h1 := hp w c hw
    exact ⟨w, c, ns.getD (i + 1 - w.length) 0, hw, hs, getD_get (by rw [A.len]; omega), e⟩
section
variable {P : Program} {w : World} {K : PySem.W.Frag} {mg : Str → Option Value} {base : Heap}
abbrev t_costs_ahead : Stmt := topS 19
abbrev n_costs_ahead : List Str := ["words", "text", "found", "end", "rows", "word", "cost"]
abbrev p_costs_ahead : List Str := ["words", "text"]
theorem sc_costs_ahead : FnScope n_costs_ahead p_costs_ahead (defScope t_costs_ahead) := ⟨rfl, rfl, rfl, by decide +kernel, rfl, by decide +kernel, by decide +kernel⟩
def spAhead : Sp := fun vs H Q _ => ∃ (t : Addr) (W : WL) (T : Wd), vs = [.ref t, .str (S T)] ∧ WordsAt H t W ∧ GoodL W ∧ GoodT W T ∧ ∀ H' p ns, Same H H' → H p = none → H' p = some (.lst (ns.map V.int)) → Ahead W T T.length ns → Q (.ref p) H'
theorem ok_costs_ahead (D : Df K mg "costs_ahead" t_costs_ahead p_costs_ahead) (B : Blt mg) : Cal P w K mg base 1 "costs_ahead" spAhead := by
  refine D.ok sc_costs_ahead (fun vs H Q E h => ?_) (fun f cdv A outer s H vs Q E hr h => ?_)
  · obtain ⟨a, W, T, rfl, _⟩ := h
    rfl
  · obtain ⟨t, W, T, rfl, hW, G, GT, q⟩ := h
    obtain ⟨ys, ht, hy⟩ := id hW
    have ey : ys.length = W.length := hy.1
    have m8 := G.most
    have m7 := GT.len
    refine ⟨_, pss_cons (ps_set (i := 2) sc_costs_ahead.nd rfl (Or.inr rfl) (pe_lst (pa_cons pe_int pa_nil)))
      (pss_cons (ps_for PassesOwn.never rfl (pi_range2 rfl B.range (pa_cons pe_int (pa_cons (pe_op op_add (pe_callB call_len_str (by rfl) B.len PySem.boot_len (pa_cons (pv 1) pa_nil)) pe_int) pa_nil))) (pg_name (i := 3) sc_costs_ahead.nd rfl (Or.inr rfl)) (pss_cons (ps_setLc (i := 4) (own := [("word", 5), ("cost", 6)]) (g := gTup K 2 (gCons (gName 5) (gCons (gName 6) gNil))) rfl sc_costs_ahead.nd rfl rfl (sw_true rfl rfl rfl (by decide +kernel)) (pi_tup (pv 0)) (blkOk_by (N := n_costs_ahead) (sc := defScope t_costs_ahead) (by decide +kernel)) (fun _ _ _ _ _ => pg_tup rfl (pgs_cons (pg_name (i := 5) sc_costs_ahead.nd rfl (Or.inl rfl)) (pgs_cons (pg_name (i := 6) sc_costs_ahead.nd rfl (Or.inl rfl)) pgs_nil))) (fun _ _ _ _ _ => pts_one (pt_val (pe_m1 PySem.F.slot_str_endswith PySem.F.type_str_endswith mt_endswith (pe_slice sl_str (pv 1) po_none (po_some (pv 3))) (pv 5)))) (fun _ _ _ _ _ => (pe_op op_add (pe_ix (r := rIxL K) ix_list (pv 2) (pe_op op_sub (pv 3) (pe_callB call_len_str (by rfl) B.len PySem.boot_len (pa_cons (pv 5) pa_nil))) (fun _ _ => rfl)) (pv 6))))
        (pss_one (ps_expr (pe_bm PySem.F.plainAttrs_list PySem.F.slot_list_append PySem.F.type_list_append mt_append (pv 2) (pa_cons (pe_callB (cr_min rfl) (by rfl) B.min (by decide +kernel) (pa_cons (pv 4) pa_nil)) pa_nil))))))
      (pss_one (ps_ret (pv 2)))), ?_⟩
    -- found = [0]
    refine ⟨by show 1 ≤ sizeLine; decide, fun p hp => ?_⟩
    -- for end in range(1, len(text) + 1)
    refine ⟨_, rfl, _, rfl, by rw [S_len, sizeLine_eq]; omega, _, _, rfl, rfl, 1, (T.length : Int) + 1, by rw [S_len], ⟨by omega, by omega, by omega, by omega⟩, for_range (fun i σ H' => ∃ ns y3 y4, σ = [some (.ref t), some (.str (S T)), some (.ref p), y3, y4, none, none] ∧ Same H H' ∧ H' p = some (.lst (ns.map V.int)) ∧ Ahead W T i ns)
      ⟨[0], none, none, rfl, same_upd hp, upd_same, Ahead.one⟩ (fun i σ H1 hi => ?_) (fun σ H1 => ?_)⟩
    · rintro ⟨ns, y3, y4, rfl, s1, hl, A1⟩
      have hi7 : i < T.length := by omega
      have en : (1 : Int) + (i : Int) = ((i + 1 : Nat) : Int) := by omega
      have ht1 := s1 _ _ ht
      -- rows = [..]
      refine ⟨_, rfl, t, rfl, ⟨_, SqT.of ht1⟩, fun D hD => lc_tup (xs := ys) (fun k H' => Cw H1 D ((rowsOf (W.take k) T ns (i + 1)).map V.int) H') (Cw.start hD) (fun _ _ _ c => SqT.of (c.2.1 _ _ ht1)) (fun k x H2 hx c => ?_) (fun H2 c => ?_)⟩
      · obtain ⟨v, z, a, e1, e2, rfl, ha⟩ := hy.at hx
        have ha2 := c.2.1 _ _ (s1 _ _ ha)
        obtain ⟨g1, g4, _⟩ := G.ent v z e2
        have es := rowsOf_succ (T := T) (ns := ns) (e := i + 1) e1
        refine ⟨a, _, rfl, SqT.of ha2, rfl, _, _, rfl, _, _, rfl, rfl, rfl, ?_⟩
        refine ⟨_, rfl, _, rfl, _, rfl, _, rfl, by rw [S_len, sizeLine_eq]; omega, ⟨_, rfl⟩, _, rfl, _, _, rfl, rfl, _, rfl, ?_⟩
        rw [en, cut_is, ends_is]
        by_cases hs : v <:+ T.take (i + 1)
        · rw [if_pos hs] at es
          have hlen := hs.length_le
          rw [List.length_take] at hlen
          rw [decide_eq_true hs]
          refine iteT ?_
          refine ⟨_, rfl, _, rfl, _, rfl, _, rfl, by rw [S_len, sizeLine_eq]; omega, _, _, rfl, rfl, p, _, _, _, rfl, rfl, SqL.of (c.2.1 _ _ hl), at_of (j := i + 1 - v.length) (by rw [S_len]; omega) (mapI_get (by rw [A1.len]; omega)), _, rfl, _, _, rfl, rfl, ?_⟩
          refine c.app (Same.refl _) ?_ (by rw [es, List.map_append]; rfl)
          have := rowsOf_len (W.take k) T ns (i + 1)
          rw [List.length_take] at this
          rw [List.length_map]
          omega
        · rw [if_neg hs] at es
          rw [decide_eq_false hs]
          refine iteF ?_
          rw [es]
          exact c
      · rw [ey, List.take_length] at c
        -- found.append(min(rows))
        refine ⟨_, rfl, .inl ⟨rfl, _, SqL.of (c.2.1 _ _ hl)⟩, _, rfl, D, _, rfl, SqL.of c.2.2, rowsOf_pos GT (by omega) (by omega), fun m hm hle => ?_⟩
        refine ⟨p, _, _, rfl, rfl, c.2.1 _ _ hl, by rw [List.length_map, A1.len, sizeLine_eq]; omega, ?_⟩
        refine ⟨ns ++ [m], _, _, rfl, same_upd2 (s1.trans c.2.1) hp, ?_, A1.more_min G.pos hm hle⟩
        rw [upd_same, List.map_append]
        rfl
    · rintro ⟨ns, y3, y4, rfl, s1, hl, A1⟩
      rw [show ((T.length : Int) + 1 - 1).toNat = T.length by omega] at A1
      exact ⟨_, rfl, q H1 p ns s1 hp hl A1⟩
theorem atI_end {xs : List V} {n : Nat} {v : V} (hl : xs.length = n + 1) (h : xs[n]? = some v) : atI xs (-1) = some v := by
  unfold atI ixN
  rw [if_neg (by omega), if_pos (by omega), show (-1 + ((xs.length : Nat) : Int)).toNat = n by omega]
  exact h
theorem mapI_some {ns : List Int} {i : Nat} {b : Int} (h : ns[i]? = some b) : (ns.map V.int)[i]? = some (.int b) := by
  rw [List.getElem?_map, h]
  rfl
abbrev t_least_of : Stmt := topS 20
abbrev n_least_of : List Str := ["words", "text"]
abbrev p_least_of : List Str := ["words", "text"]
theorem sc_least_of : FnScope n_least_of p_least_of (defScope t_least_of) := ⟨rfl, rfl, rfl, by decide +kernel, rfl, by decide +kernel, by decide +kernel⟩
def spLeast : Sp := fun vs H Q _ => ∃ (t : Addr) (W : WL) (T : Wd), vs = [.ref t, .str (S T)] ∧ WordsAt H t W ∧ GoodL W ∧ GoodT W T ∧ ∀ H' ns b, Same H H' → Ahead W T T.length ns → ns[T.length]? = some b → Q (.int b) H'
theorem ok_least_of (D : Df K mg "least_of" t_least_of p_least_of) (C1 : Cal P w K mg base 1 "costs_ahead" spAhead) : Cal P w K mg base 2 "least_of" spLeast := by
  refine D.ok sc_least_of (fun vs H Q E h => ?_) (fun f cdv A outer s H vs Q E hr h => ?_)
  · obtain ⟨a, W, T, rfl, _⟩ := h
    rfl
  · obtain ⟨t, W, T, rfl, hW, G, GT, q⟩ := h
    refine ⟨_, pss_one (ps_ret (pe_ix (r := rIxL K) ix_list (pc C1 hr (by decide) (by rfl) (pa_cons (pv 0) (pa_cons (pv 1) pa_nil))) (pe_un un_neg pe_int) (fun _ _ => rfl))), ?_⟩
    refine ⟨_, rfl, _, rfl, t, W, T, rfl, hW, G, GT, fun H1 p ns s1 hp hl A1 => ?_⟩
    obtain ⟨b, hb⟩ := get_lt (ns := ns) (i := T.length) (by rw [A1.len]; omega)
    exact ⟨_, rfl, p, _, _, _, rfl, rfl, SqL.of hl, atI_end (by rw [List.length_map, A1.len]) (mapI_some hb), q H1 ns b s1 A1 hb⟩
abbrev t_least_cost : Stmt := topS 21
abbrev n_least_cost : List Str := ["words", "text"]
abbrev p_least_cost : List Str := ["words", "text"]
theorem sc_least_cost : FnScope n_least_cost p_least_cost (defScope t_least_cost) := ⟨rfl, rfl, rfl, by decide +kernel, rfl, by decide +kernel, by decide +kernel⟩
theorem ok_least_cost (D : Df K mg "least_cost" t_least_cost p_least_cost) (C1 : Cal P w K mg base 6 "check_text" spCheckText) (C2 : Cal P w K mg base 2 "least_of" spLeast) : Cal P w K mg base 7 "least_cost" spLeast := by
  refine D.ok sc_least_cost (fun vs H Q E h => ?_) (fun f cdv A outer s H vs Q E hr h => ?_)
  · obtain ⟨a, W, T, rfl, _⟩ := h
    rfl
  · obtain ⟨t, W, T, rfl, hW, G, GT, q⟩ := h
    refine ⟨_, pss_cons (ps_expr (pc C1 hr (by decide) (by rfl) (pa_cons (pv 0) (pa_cons (pv 1) pa_nil)))) (pss_one (ps_ret (pc C2 hr (by decide) (by rfl) (pa_cons (pv 0) (pa_cons (pv 1) pa_nil))))), ?_⟩
    exact ⟨_, rfl, _, rfl, t, W, T, rfl, hW, G, GT, fun H1 s1 => ⟨_, rfl, _, rfl, t, W, T, rfl, hW.same s1, G, GT, fun H2 ns b s2 => q H2 ns b (s1.trans s2)⟩⟩
abbrev t_costs_of : Stmt := topS 22
abbrev n_costs_of : List Str := ["words", "text"]
abbrev p_costs_of : List Str := ["words", "text"]
theorem sc_costs_of : FnScope n_costs_of p_costs_of (defScope t_costs_of) := ⟨rfl, rfl, rfl, by decide +kernel, rfl, by decide +kernel, by decide +kernel⟩
def spCostsOf : Sp := fun vs H Q _ => ∃ (t : Addr) (W : WL) (T : Wd), vs = [.ref t, .str (S T)] ∧ WordsAt H t W ∧ GoodL W ∧ GoodT W T ∧ ∀ H' p ns, Same H H' → H' p = some (.tup (ns.map V.int)) → Ahead W T T.length ns → Q (.ref p) H'
theorem ok_costs_of (D : Df K mg "costs_of" t_costs_of p_costs_of) (B : Blt mg) (C1 : Cal P w K mg base 6 "check_text" spCheckText) (C2 : Cal P w K mg base 1 "costs_ahead" spAhead) : Cal P w K mg base 7 "costs_of" spCostsOf := by
  refine D.ok sc_costs_of (fun vs H Q E h => ?_) (fun f cdv A outer s H vs Q E hr h => ?_)
  · obtain ⟨a, W, T, rfl, _⟩ := h
    rfl
  · obtain ⟨t, W, T, rfl, hW, G, GT, q⟩ := h
    refine ⟨_, pss_cons (ps_expr (pc C1 hr (by decide) (by rfl) (pa_cons (pv 0) (pa_cons (pv 1) pa_nil)))) (pss_one (ps_ret (pe_callTy call_tuple_of (by rfl) B.tuple (by decide +kernel) (pa_cons (pc C2 hr (by decide) (by rfl) (pa_cons (pv 0) (pa_cons (pv 1) pa_nil))) pa_nil)))), ?_⟩
    refine ⟨_, rfl, _, rfl, t, W, T, rfl, hW, G, GT, fun H1 s1 => ?_⟩
    refine ⟨_, rfl, _, rfl, t, W, T, rfl, hW.same s1, G, GT, fun H2 p ns s2 hp hl A1 => ?_⟩
    exact ⟨p, _, rfl, .inl ⟨SqL.of hl, fun p2 hp2 => q _ p2 ns ((s1.trans s2).trans (same_upd hp2)) upd_same A1⟩⟩
end
end K30
/-! are_heights, accepts_heights, the law's are_heights. -/
namespace K30
open PySem PySem.Spec PyProof.Rows L2 K30R
/-- what may be given as heights -/
inductive HV (H : Hp) : V → Prop where
  | non : HV H .non
  | lst {a : Addr} {xs : List V} (e : H a = some (.lst xs)) : HV H (.ref a)
  | tup {a : Addr} {xs : List V} (e : H a = some (.tup xs)) (h : ∀ x ∈ xs, sc4 x) : HV H (.ref a)
theorem HV.same {H H' : Hp} {v : V} (h : HV H v) (s : Same H H') : HV H' v := by
  cases h with
  | non => exact .non
  | lst e => exact .lst (s _ _ e)
  | tup e h => exact .tup (s _ _ e) h
def RightV (W : WL) (T : Wd) (H : Hp) (v : V) : Prop := ∃ a ns, v = .ref a ∧ H a = some (.tup (ns.map V.int)) ∧ Right W T ns
theorem RightV.same {W : WL} {T : Wd} {H H' : Hp} {v : V} (h : HV H v) (s : Same H H') : RightV W T H' v ↔ RightV W T H v := by
  constructor
  · rintro ⟨a, ns, rfl, e, R⟩
    refine ⟨a, ns, rfl, ?_, R⟩
    cases h with
    | lst e2 =>
      rw [s _ _ e2] at e
      cases e
    | tup e2 _ =>
      have e3 := s _ _ e2
      rw [e] at e3
      rw [e2, e3]
  · rintro ⟨a, ns, rfl, e, R⟩
    exact ⟨a, ns, rfl, s _ _ e, R⟩
theorem ints_of_all : ∀ {xs : List V}, (xs.map isI).all id = true → ∃ ns : List Int, xs = ns.map V.int
  | [], _ => ⟨[], rfl⟩
  | x :: xs, h => by
    rw [List.map_cons, List.all_cons, Bool.and_eq_true] at h
    obtain ⟨ns, e⟩ := ints_of_all h.2
    cases x with
    | int i => exact ⟨i :: ns, by rw [e]; rfl⟩
    | _ => cases (show false = true from h.1)
theorem all_of_ints (ns : List Int) : ((ns.map V.int).map isI).all id = true := by
  rw [List.map_map, List.all_map, List.all_eq_true]
  intro x _
  rfl
theorem mapV_inj {ns ms : List Int} (h : ns.map V.int = ms.map V.int) : ns = ms := by
  induction ns generalizing ms with
  | nil =>
    cases ms with
    | nil => rfl
    | cons _ _ => cases h
  | cons n ns ih =>
    cases ms with
    | nil => cases h
    | cons m ms =>
      rw [List.map_cons, List.map_cons] at h
      injection h with h1 h2
      rw [V.int.inj h1, ih h2]
/-- one word at one place -/
def OkAt (T : Wd) (ns : List Int) (i : Nat) (w : Wd) (c : Int) : Prop := w <+: T.drop i → ns.getD (i + w.length) 0 ≤ ns.getD i 0 + c
theorem getD_of {ns : List Int} {i : Nat} {a : Int} (h : ns[i]? = some a) : ns.getD i 0 = a := by
  rw [List.getD_eq_getElem?_getD, h]
  rfl
theorem right_of {W : WL} {T : Wd} {ns : List Int} (h1 : ns.length = T.length + 1) (h2 : ns.getD 0 0 = 0) (h : ∀ i, i < T.length → ∀ w c, (w, c) ∈ W → OkAt T ns i w c) : Right W T ns := by
  refine ⟨h1, ?_, fun i w c a b hw hi hx ha hb => ?_⟩
  · rw [getD_get (by omega), h2]
  · have q := h i hi w c hw hx
    rw [getD_of ha, getD_of hb] at q
    exact q
theorem Right.okAt {W : WL} {T : Wd} {ns : List Int} (R : Right W T ns) {i : Nat} {w : Wd} {c : Int} (hi : i < T.length) (hw : (w, c) ∈ W) : OkAt T ns i w c := fun hx => by
  have hl := hx.length_le
  rw [List.length_drop] at hl
  exact R.step i w c _ _ hw hi hx (getD_get (by rw [R.len]; omega)) (getD_get (by rw [R.len]; omega))
section
variable {P : Program} {w : World} {K : PySem.W.Frag} {mg : Str → Option Value} {base : Heap}
def spHeights : Sp := fun vs H Q _ => ∃ (t : Addr) (W : WL) (T : Wd) (v : V), vs = [.ref t, .str (S T), v] ∧ WordsAt H t W ∧ GoodL W ∧ GoodT W T ∧ HV H v ∧ ∀ H' b, Same H H' → (b = true ↔ RightV W T H v) → Q (.bl b) H'
abbrev t_are_heights : Stmt := topS 25
abbrev n_are_heights : List Str := ["words", "text", "heights", "start", "word", "cost", "one"]
abbrev p_are_heights : List Str := ["words", "text", "heights"]
theorem sc_are_heights : FnScope n_are_heights p_are_heights (defScope t_are_heights) := ⟨rfl, rfl, rfl, by decide +kernel, rfl, by decide +kernel, by decide +kernel⟩
theorem ok_are_heights (D : Df K mg "are_heights" t_are_heights p_are_heights) (B : Blt mg) (C1 : Cal P w K mg base 1 "is_integer" spIsInt) : Cal P w K mg base 2 "are_heights" spHeights := by
  refine D.ok sc_are_heights (fun vs H Q E h => ?_) (fun f cdv A outer s H vs Q E hr h => ?_)
  · obtain ⟨a, W, T, v, rfl, _⟩ := h
    rfl
  · obtain ⟨t, W, T, v, rfl, hW, G, GT, hv, q⟩ := h
    obtain ⟨ys, ht, hy⟩ := id hW
    have ey : ys.length = W.length := hy.1
    have m7 := GT.len
    refine ⟨_, pss_cons (ps_if (PW.pt (pw_or (pt_not (pt_val (pe_callB call_isi (by rfl) B.isinstance (by decide +kernel) (pa_cons (pv 2) (pa_cons (pe_bltn (v := .ty "tuple") (by rfl) B.tuple (by decide +kernel) rfl) pa_nil))))) (pw_or (pt_cmpR op_ne (pe_callB call_len (by rfl) B.len PySem.boot_len (pa_cons (pv 2) pa_nil)) (pe_op op_add (pe_callB call_len_str (by rfl) B.len PySem.boot_len (pa_cons (pv 1) pa_nil)) pe_int) (nomark _))
        (pw_or1 (pt_not (pt_val (pe_callB (cr_all rfl) (by rfl) B.all (by decide +kernel) (pa_cons (pe_lc (own := [("one", 6)]) (g := gName 6) rfl sc_are_heights.nd (pi_tup (pv 2)) (blkOk_by (N := n_are_heights) (sc := defScope t_are_heights) (by decide +kernel)) (fun _ _ _ _ _ => pg_name (i := 6) sc_are_heights.nd rfl (Or.inl rfl)) (fun _ _ _ _ _ => pts_nil) (fun _ _ _ _ _ => (pc C1 hr (by decide) (by rfl) (pa_cons (pv 6) pa_nil)))) pa_nil)))))))) (pss_one (ps_ret pe_bl)) pss_nil)
      (pss_cons (ps_if (pt_cmpR op_ne (pe_ix (r := rIxT K) ix_tup (pv 2) pe_int (fun _ _ => rfl)) pe_int (nomark _)) (pss_one (ps_ret pe_bl)) pss_nil)
      (pss_cons (ps_for PassesOwn.never rfl (pi_range1 rfl B.range (pa_cons (pe_callB call_len_str (by rfl) B.len PySem.boot_len (pa_cons (pv 1) pa_nil)) pa_nil)) (pg_name (i := 3) sc_are_heights.nd rfl (Or.inl rfl)) (pss_one (ps_for PassesOwn.never rfl (pi_tup (pv 0)) (pg_tup rfl (pgs_cons (pg_name (i := 4) sc_are_heights.nd rfl (Or.inl rfl)) (pgs_cons (pg_name (i := 5) sc_are_heights.nd rfl (Or.inl rfl)) pgs_nil))) (pss_one (ps_if (PW.pt (pw_and (pt_val (pe_bm PySem.F.plainAttrs_str PySem.F.slot_str_startswith PySem.F.type_str_startswith mt_startswith3 (pv 1) (pa_cons (pv 4) (pa_cons (pv 3) pa_nil)))) (pw_and1 (pt_cmpR op_gt (pe_ix (r := rIxT K) ix_tup (pv 2) (pe_op op_add (pv 3) (pe_callB call_len_str (by rfl) B.len PySem.boot_len (pa_cons (pv 4) pa_nil))) (fun _ _ => rfl)) (pe_op op_add (pe_ix (r := rIxT K) ix_tup (pv 2) (pv 3) (fun _ _ => rfl)) (pv 5)) (nomark _))))) (pss_one (ps_ret pe_bl)) pss_nil)))))
      (pss_one (ps_ret pe_bl)))), ?_⟩
    cases hv with
    | non =>
      refine ⟨_, rfl, _, _, _, _, false, rfl, .ty _, .base .non, kit_ty (by decide +kernel), false, rfl, iteT ?_⟩
      exact q H false (Same.refl _) ⟨fun z => (nomatch z), fun ⟨a, ns, e, _⟩ => (nomatch e)⟩
    | @lst a xs e =>
      refine ⟨_, rfl, _, _, _, _, false, rfl, .ty _, .base (.lst e), kit_ty (by decide +kernel), false, rfl, iteT ?_⟩
      refine q H false (Same.refl _) ⟨fun z => (nomatch z), fun ⟨b, ns, e1, e2, _⟩ => ?_⟩
      cases e1
      rw [e] at e2
      cases e2
    | @tup a xs e hx =>
      refine ⟨_, rfl, _, _, _, _, true, rfl, .ty _, .base (.tup e), kit_ty (by decide +kernel), true, rfl, iteF ?_⟩
      have out : ∀ H', Same H H' → ¬ RightV W T H (.ref a) → Q (.bl false) H' := fun H' s' n => q H' false s' ⟨fun z => (nomatch z), fun r => absurd r n⟩
      refine ⟨_, rfl, _, _, rfl, .inr ⟨_, SqT.of e, rfl⟩, _, rfl, _, rfl, by rw [S_len, sizeLine_eq]; omega, _, _, rfl, rfl, rfl, _, rfl, ?_⟩
      rw [S_len]
      by_cases hl : xs.length = T.length + 1
      case neg =>
        rw [decide_eq_false (show ¬ V.int ((xs.length : Nat) : Int) = V.int ((T.length : Int) + 1) from fun z => hl (by have := V.int.inj z; omega))]
        refine iteT (out H (Same.refl _) fun ⟨b, ns, e1, e2, R⟩ => ?_)
        cases e1
        rw [e] at e2
        cases e2
        rw [List.length_map, R.len] at hl
        exact hl rfl
      rw [decide_eq_true (show V.int ((xs.length : Nat) : Int) = V.int ((T.length : Int) + 1) by rw [hl]; rfl)]
      refine iteF ?_
      -- all([is_integer(one) for one in heights])
      refine ⟨_, rfl, a, rfl, ⟨_, SqT.of e⟩, fun D hD => lc_tup (xs := xs) (fun i H' => Cw H D (((xs.take i).map isI).map V.bl) H') (Cw.start hD) (fun _ _ _ c => SqT.of (c.2.1 _ _ e)) (fun i x H2 hi c => ?_) (fun H2 c => ?_)⟩
      · refine ⟨rfl, tt_yes2 ?_⟩
        refine ⟨_, rfl, x, rfl, hx x (List.mem_of_getElem? hi), ?_⟩
        refine c.app (Same.refl _) ?_ (by rw [take_map_succ hi, List.map_append]; rfl)
        have := (List.getElem?_eq_some_iff.mp hi).1
        rw [List.length_map, List.length_map, List.length_take]
        omega
      rw [List.take_length] at c
      have s2 : Same H H2 := c.2.1
      refine ⟨D, _, rfl, SqL.of c.2.2, ?_⟩
      clear c
      cases hall : (xs.map isI).all id with
      | false =>
        refine ⟨false, rfl, iteT (out H2 s2 fun ⟨b, ns, e1, e2, R⟩ => ?_)⟩
        cases e1
        rw [e] at e2
        cases e2
        rw [all_of_ints] at hall
        cases hall
      | true =>
      refine ⟨true, rfl, iteF ?_⟩
      obtain ⟨ns, rfl⟩ := ints_of_all hall
      rw [List.length_map] at hl
      have out2 : ∀ H', Same H H' → ¬ Right W T ns → Q (.bl false) H' := fun H' s' n => out H' s' fun ⟨b, ms, e1, e2, R⟩ => by
        cases e1
        rw [e] at e2
        have e3 := HO.tup.inj (Option.some.inj e2)
        rw [mapV_inj e3] at n
        exact n R
      have e2 := s2 _ _ e
      -- heights[0] != 0
      refine ⟨_, rfl, a, _, _, _, rfl, rfl, SqT.of e2, atI_nat (j := 0) (mapI_get (by omega)), rfl, _, rfl, ?_⟩
      by_cases h0 : ns.getD 0 0 = 0
      case neg =>
        rw [decide_eq_false (show ¬ V.int (ns.getD 0 0) = V.int 0 from fun z => h0 (V.int.inj z))]
        refine iteT (out2 H2 s2 fun R => h0 ?_)
        rw [getD_of R.zero]
      rw [h0, decide_eq_true rfl]
      refine iteF ?_
      -- the loops
      refine ⟨_, rfl, _, rfl, by rw [S_len, sizeLine_eq]; omega, (T.length : Int), by rw [S_len], by omega, by omega, for_range (fun i σ H' => ∃ y3 y4 y5, σ = [some (.ref t), some (.str (S T)), some (.ref a), y3, y4, y5, none] ∧ Same H H' ∧ ∀ i', i' < i → ∀ w c, (w, c) ∈ W → OkAt T ns i' w c)
        ⟨none, none, none, rfl, s2, fun i' h => absurd h (by omega)⟩ (fun i σ H3 hi => ?_) (fun σ H3 => ?_)⟩
      · rintro ⟨y3, y4, y5, rfl, s3, ok⟩
        have hi7 : i < T.length := by omega
        have ht3 := s3 _ _ ht
        have ei : (0 : Int) + (i : Int) = (i : Int) := by omega
        refine ⟨_, rfl, t, rfl, ⟨_, SqT.of ht3⟩, for_tup (xs := ys) (fun k σ H' => ∃ y4 y5, σ = [some (.ref t), some (.str (S T)), some (.ref a), some (.int (i : Int)), y4, y5, none] ∧ Same H H' ∧ ∀ k' w c, k' < k → W[k']? = some (w, c) → OkAt T ns i w c)
          ⟨y4, y5, by rw [ei]; rfl, s3, fun k' _ _ h => absurd h (by omega)⟩ (fun k σ H4 _ ⟨_, _, _, s4, _⟩ => SqT.of (s4 _ _ ht)) (fun k x σ H4 hx => ?_) (fun σ H4 => ?_)⟩
        · rintro ⟨y4, y5, rfl, s4, ok2⟩
          obtain ⟨v, z, b, e1, e3, rfl, hb⟩ := hy.at hx
          have hb4 := s4 _ _ hb
          have e4 := s4 _ _ e
          obtain ⟨g1, g4, _⟩ := G.ent v z e3
          refine ⟨b, _, rfl, SqT.of hb4, rfl, _, _, rfl, _, _, rfl, rfl, ?_⟩
          refine ⟨_, rfl, rfl, _, rfl, _, rfl, _, _, _, rfl, rfl, _, rfl, ?_⟩
          rw [starts_is T v (by omega)]
          have next : OkAt T ns i v z → ∃ y4 y5, [some (V.ref t), some (.str (S T)), some (.ref a), some (.int (i : Int)), some (.str (S v)), some (.int z), none] = [some (V.ref t), some (.str (S T)), some (.ref a), some (.int (i : Int)), y4, y5, none] ∧ Same H H4 ∧ ∀ k' w c, k' < k + 1 → W[k']? = some (w, c) → OkAt T ns i w c := fun o => by
            refine ⟨_, _, rfl, s4, fun k' w c hk hw => ?_⟩
            by_cases ek : k' = k
            · subst ek
              rw [e1] at hw
              cases hw
              exact o
            · exact ok2 k' w c (by omega) hw
          by_cases hp : v <+: T.drop i
          case neg =>
            rw [decide_eq_false hp]
            refine iteF (iteF ?_)
            exact next fun z => absurd z hp
          have hlen := hp.length_le
          rw [List.length_drop] at hlen
          rw [decide_eq_true hp]
          refine iteT ?_
          refine ⟨_, rfl, _, rfl, _, rfl, _, rfl, by rw [S_len, sizeLine_eq]; omega, _, _, rfl, rfl, a, _, _, _, rfl, rfl, SqT.of e4, at_of (j := i + v.length) (by rw [S_len]; omega) (mapI_get (by omega)), ?_⟩
          refine ⟨_, rfl, _, rfl, a, _, _, _, rfl, rfl, SqT.of e4, atI_nat (j := i) (mapI_get (by omega)), _, rfl, _, _, rfl, rfl, _, _, rfl, rfl, _, rfl, ?_⟩
          by_cases hb5 : ns.getD i 0 + z < ns.getD (i + v.length) 0
          · rw [decide_eq_true hb5]
            refine iteT (out2 H4 s4 fun R => ?_)
            have := R.okAt hi7 e3 hp
            omega
          · rw [decide_eq_false hb5]
            refine iteF ?_
            exact next fun _ => by omega
        · rintro ⟨y4, y5, rfl, s4, ok2⟩
          refine ⟨_, y4, y5, rfl, s4, fun i' hi' w c hw => ?_⟩
          by_cases ei' : i' = i
          · subst ei'
            obtain ⟨k, hk, ek⟩ := List.getElem_of_mem hw
            exact ok2 k w c (by omega) (by rw [List.getElem?_eq_getElem hk, ek])
          · exact ok i' (by omega) w c hw
      · rintro ⟨y3, y4, y5, rfl, s3, ok⟩
        refine q H3 true s3 ⟨fun _ => ⟨a, ns, rfl, e, right_of hl h0 fun i hi w c hw => ok i (by omega) w c hw⟩, fun _ => rfl⟩
abbrev t_accepts_heights : Stmt := topS 26
abbrev n_accepts_heights : List Str := ["words", "text", "heights"]
abbrev p_accepts_heights : List Str := ["words", "text", "heights"]
theorem sc_accepts_heights : FnScope n_accepts_heights p_accepts_heights (defScope t_accepts_heights) := ⟨rfl, rfl, rfl, by decide +kernel, rfl, by decide +kernel, by decide +kernel⟩
theorem ok_accepts_heights (D : Df K mg "accepts_heights" t_accepts_heights p_accepts_heights) (C1 : Cal P w K mg base 6 "check_text" spCheckText) (C2 : Cal P w K mg base 2 "are_heights" spHeights) : Cal P w K mg base 7 "accepts_heights" spHeights := by
  refine D.ok sc_accepts_heights (fun vs H Q E h => ?_) (fun f cdv A outer s H vs Q E hr h => ?_)
  · obtain ⟨a, W, T, v, rfl, _⟩ := h
    rfl
  · obtain ⟨t, W, T, v, rfl, hW, G, GT, hv, q⟩ := h
    refine ⟨_, pss_cons (ps_expr (pc C1 hr (by decide) (by rfl) (pa_cons (pv 0) (pa_cons (pv 1) pa_nil)))) (pss_one (ps_ret (pc C2 hr (by decide) (by rfl) (pa_cons (pv 0) (pa_cons (pv 1) (pa_cons (pv 2) pa_nil)))))), ?_⟩
    exact ⟨_, rfl, _, rfl, t, W, T, rfl, hW, G, GT, fun H1 s1 => ⟨_, rfl, _, rfl, _, rfl, t, W, T, v, rfl, hW.same s1, G, GT, hv.same s1, fun H2 b s2 e => q H2 b (s1.trans s2) (e.trans (RightV.same hv s1))⟩⟩
abbrev t__law_are_heights : Stmt := topS 39
abbrev n__law_are_heights : List Str := ["_law_words_here", "_law_text_here", "_law_heights_here", "_law_start", "_law_word", "_law_cost_here", "_law_one"]
abbrev p__law_are_heights : List Str := ["_law_words_here", "_law_text_here", "_law_heights_here"]
theorem sc__law_are_heights : FnScope n__law_are_heights p__law_are_heights (defScope t__law_are_heights) := ⟨rfl, rfl, rfl, by decide +kernel, rfl, by decide +kernel, by decide +kernel⟩
theorem ok_law_are_heights (D : Df K mg "_law_are_heights" t__law_are_heights p__law_are_heights) (B : Blt mg) (C1 : Cal P w K mg base 1 "_law_is_integer" spIsInt) : Cal P w K mg base 2 "_law_are_heights" spHeights := by
  refine D.ok sc__law_are_heights (fun vs H Q E h => ?_) (fun f cdv A outer s H vs Q E hr h => ?_)
  · obtain ⟨a, W, T, v, rfl, _⟩ := h
    rfl
  · obtain ⟨t, W, T, v, rfl, hW, G, GT, hv, q⟩ := h
    obtain ⟨ys, ht, hy⟩ := id hW
    have ey : ys.length = W.length := hy.1
    have m7 := GT.len
    refine ⟨_, pss_cons (ps_if (PW.pt (pw_or (pt_not (pt_val (pe_callB call_isi (by rfl) B.isinstance (by decide +kernel) (pa_cons (pv 2) (pa_cons (pe_bltn (v := .ty "tuple") (by rfl) B.tuple (by decide +kernel) rfl) pa_nil))))) (pw_or1 (pt_cmpR op_ne (pe_callB call_len (by rfl) B.len PySem.boot_len (pa_cons (pv 2) pa_nil)) (pe_op op_add (pe_callB call_len_str (by rfl) B.len PySem.boot_len (pa_cons (pv 1) pa_nil)) pe_int) (nomark _))))) (pss_one (ps_ret pe_bl)) pss_nil)
      (pss_cons (ps_if (PW.pt (pw_or (pt_not (pt_val (pe_callB (cr_all rfl) (by rfl) B.all (by decide +kernel) (pa_cons (pe_lc (own := [("_law_one", 6)]) (g := gName 6) rfl sc__law_are_heights.nd (pi_tup (pv 2)) (blkOk_by (N := n__law_are_heights) (sc := defScope t__law_are_heights) (by decide +kernel)) (fun _ _ _ _ _ => pg_name (i := 6) sc__law_are_heights.nd rfl (Or.inl rfl)) (fun _ _ _ _ _ => pts_nil) (fun _ _ _ _ _ => (pc C1 hr (by decide) (by rfl) (pa_cons (pv 6) pa_nil)))) pa_nil)))) (pw_or1 (pt_cmpR op_ne (pe_ix (r := rIxT K) ix_tup (pv 2) pe_int (fun _ _ => rfl)) pe_int (nomark _))))) (pss_one (ps_ret pe_bl)) pss_nil)
      (pss_cons (ps_for PassesOwn.never rfl (pi_range1 rfl B.range (pa_cons (pe_callB call_len_str (by rfl) B.len PySem.boot_len (pa_cons (pv 1) pa_nil)) pa_nil)) (pg_name (i := 3) sc__law_are_heights.nd rfl (Or.inl rfl)) (pss_one (ps_for PassesOwn.never rfl (pi_tup (pv 0)) (pg_tup rfl (pgs_cons (pg_name (i := 4) sc__law_are_heights.nd rfl (Or.inl rfl)) (pgs_cons (pg_name (i := 5) sc__law_are_heights.nd rfl (Or.inl rfl)) pgs_nil))) (pss_one (ps_if (PW.pt (pw_and (pt_val (pe_bm PySem.F.plainAttrs_str PySem.F.slot_str_startswith PySem.F.type_str_startswith mt_startswith3 (pv 1) (pa_cons (pv 4) (pa_cons (pv 3) pa_nil)))) (pw_and1 (pt_cmpR op_gt (pe_op op_sub (pe_ix (r := rIxT K) ix_tup (pv 2) (pe_op op_add (pv 3) (pe_callB call_len_str (by rfl) B.len PySem.boot_len (pa_cons (pv 4) pa_nil))) (fun _ _ => rfl)) (pe_ix (r := rIxT K) ix_tup (pv 2) (pv 3) (fun _ _ => rfl))) (pv 5) (nomark _))))) (pss_one (ps_ret pe_bl)) pss_nil)))))
      (pss_one (ps_ret pe_bl)))), ?_⟩
    cases hv with
    | non =>
      refine ⟨_, rfl, _, _, _, _, false, rfl, .ty _, .base .non, kit_ty (by decide +kernel), false, rfl, iteT ?_⟩
      exact q H false (Same.refl _) ⟨fun z => (nomatch z), fun ⟨a, ns, e, _⟩ => (nomatch e)⟩
    | @lst a xs e =>
      refine ⟨_, rfl, _, _, _, _, false, rfl, .ty _, .base (.lst e), kit_ty (by decide +kernel), false, rfl, iteT ?_⟩
      refine q H false (Same.refl _) ⟨fun z => (nomatch z), fun ⟨b, ns, e1, e2, _⟩ => ?_⟩
      cases e1
      rw [e] at e2
      cases e2
    | @tup a xs e hx =>
      refine ⟨_, rfl, _, _, _, _, true, rfl, .ty _, .base (.tup e), kit_ty (by decide +kernel), true, rfl, iteF ?_⟩
      have out : ∀ H', Same H H' → ¬ RightV W T H (.ref a) → Q (.bl false) H' := fun H' s' n => q H' false s' ⟨fun z => (nomatch z), fun r => absurd r n⟩
      refine ⟨_, rfl, _, _, rfl, .inr ⟨_, SqT.of e, rfl⟩, _, rfl, _, rfl, by rw [S_len, sizeLine_eq]; omega, _, _, rfl, rfl, rfl, _, rfl, ?_⟩
      rw [S_len]
      by_cases hl : xs.length = T.length + 1
      case neg =>
        rw [decide_eq_false (show ¬ V.int ((xs.length : Nat) : Int) = V.int ((T.length : Int) + 1) from fun z => hl (by have := V.int.inj z; omega))]
        refine iteT (out H (Same.refl _) fun ⟨b, ns, e1, e2, R⟩ => ?_)
        cases e1
        rw [e] at e2
        cases e2
        rw [List.length_map, R.len] at hl
        exact hl rfl
      rw [decide_eq_true (show V.int ((xs.length : Nat) : Int) = V.int ((T.length : Int) + 1) by rw [hl]; rfl)]
      refine iteF ?_
      -- all([_law_is_integer(one) for one in heights])
      refine ⟨_, rfl, a, rfl, ⟨_, SqT.of e⟩, fun D hD => lc_tup (xs := xs) (fun i H' => Cw H D (((xs.take i).map isI).map V.bl) H') (Cw.start hD) (fun _ _ _ c => SqT.of (c.2.1 _ _ e)) (fun i x H2 hi c => ?_) (fun H2 c => ?_)⟩
      · refine ⟨rfl, tt_yes2 ?_⟩
        refine ⟨_, rfl, x, rfl, hx x (List.mem_of_getElem? hi), ?_⟩
        refine c.app (Same.refl _) ?_ (by rw [take_map_succ hi, List.map_append]; rfl)
        have := (List.getElem?_eq_some_iff.mp hi).1
        rw [List.length_map, List.length_map, List.length_take]
        omega
      rw [List.take_length] at c
      have s2 : Same H H2 := c.2.1
      refine ⟨D, _, rfl, SqL.of c.2.2, ?_⟩
      clear c
      cases hall : (xs.map isI).all id with
      | false =>
        refine ⟨false, rfl, iteT (out H2 s2 fun ⟨b, ns, e1, e2, R⟩ => ?_)⟩
        cases e1
        rw [e] at e2
        cases e2
        rw [all_of_ints] at hall
        cases hall
      | true =>
      refine ⟨true, rfl, iteF ?_⟩
      obtain ⟨ns, rfl⟩ := ints_of_all hall
      rw [List.length_map] at hl
      have out2 : ∀ H', Same H H' → ¬ Right W T ns → Q (.bl false) H' := fun H' s' n => out H' s' fun ⟨b, ms, e1, e2, R⟩ => by
        cases e1
        rw [e] at e2
        have e3 := HO.tup.inj (Option.some.inj e2)
        rw [mapV_inj e3] at n
        exact n R
      have e2 := s2 _ _ e
      -- heights[0] != 0
      refine ⟨_, rfl, a, _, _, _, rfl, rfl, SqT.of e2, atI_nat (j := 0) (mapI_get (by omega)), rfl, _, rfl, ?_⟩
      by_cases h0 : ns.getD 0 0 = 0
      case neg =>
        rw [decide_eq_false (show ¬ V.int (ns.getD 0 0) = V.int 0 from fun z => h0 (V.int.inj z))]
        refine iteT (out2 H2 s2 fun R => h0 ?_)
        rw [getD_of R.zero]
      rw [h0, decide_eq_true rfl]
      refine iteF ?_
      -- the loops
      refine ⟨_, rfl, _, rfl, by rw [S_len, sizeLine_eq]; omega, (T.length : Int), by rw [S_len], by omega, by omega, for_range (fun i σ H' => ∃ y3 y4 y5, σ = [some (.ref t), some (.str (S T)), some (.ref a), y3, y4, y5, none] ∧ Same H H' ∧ ∀ i', i' < i → ∀ w c, (w, c) ∈ W → OkAt T ns i' w c)
        ⟨none, none, none, rfl, s2, fun i' h => absurd h (by omega)⟩ (fun i σ H3 hi => ?_) (fun σ H3 => ?_)⟩
      · rintro ⟨y3, y4, y5, rfl, s3, ok⟩
        have hi7 : i < T.length := by omega
        have ht3 := s3 _ _ ht
        have ei : (0 : Int) + (i : Int) = (i : Int) := by omega
        refine ⟨_, rfl, t, rfl, ⟨_, SqT.of ht3⟩, for_tup (xs := ys) (fun k σ H' => ∃ y4 y5, σ = [some (.ref t), some (.str (S T)), some (.ref a), some (.int (i : Int)), y4, y5, none] ∧ Same H H' ∧ ∀ k' w c, k' < k → W[k']? = some (w, c) → OkAt T ns i w c)
          ⟨y4, y5, by rw [ei]; rfl, s3, fun k' _ _ h => absurd h (by omega)⟩ (fun k σ H4 _ ⟨_, _, _, s4, _⟩ => SqT.of (s4 _ _ ht)) (fun k x σ H4 hx => ?_) (fun σ H4 => ?_)⟩
        · rintro ⟨y4, y5, rfl, s4, ok2⟩
          obtain ⟨v, z, b, e1, e3, rfl, hb⟩ := hy.at hx
          have hb4 := s4 _ _ hb
          have e4 := s4 _ _ e
          obtain ⟨g1, g4, _⟩ := G.ent v z e3
          refine ⟨b, _, rfl, SqT.of hb4, rfl, _, _, rfl, _, _, rfl, rfl, ?_⟩
          refine ⟨_, rfl, rfl, _, rfl, _, rfl, _, _, _, rfl, rfl, _, rfl, ?_⟩
          rw [starts_is T v (by omega)]
          have next : OkAt T ns i v z → ∃ y4 y5, [some (V.ref t), some (.str (S T)), some (.ref a), some (.int (i : Int)), some (.str (S v)), some (.int z), none] = [some (V.ref t), some (.str (S T)), some (.ref a), some (.int (i : Int)), y4, y5, none] ∧ Same H H4 ∧ ∀ k' w c, k' < k + 1 → W[k']? = some (w, c) → OkAt T ns i w c := fun o => by
            refine ⟨_, _, rfl, s4, fun k' w c hk hw => ?_⟩
            by_cases ek : k' = k
            · subst ek
              rw [e1] at hw
              cases hw
              exact o
            · exact ok2 k' w c (by omega) hw
          by_cases hp : v <+: T.drop i
          case neg =>
            rw [decide_eq_false hp]
            refine iteF (iteF ?_)
            exact next fun z => absurd z hp
          have hlen := hp.length_le
          rw [List.length_drop] at hlen
          rw [decide_eq_true hp]
          refine iteT ?_
          refine ⟨_, rfl, _, rfl, _, rfl, _, rfl, by rw [S_len, sizeLine_eq]; omega, _, _, rfl, rfl, a, _, _, _, rfl, rfl, SqT.of e4, at_of (j := i + v.length) (by rw [S_len]; omega) (mapI_get (by omega)), ?_⟩
          refine ⟨_, rfl, _, rfl, a, _, _, _, rfl, rfl, SqT.of e4, atI_nat (j := i) (mapI_get (by omega)), _, _, rfl, rfl, _, rfl, _, _, rfl, rfl, _, rfl, ?_⟩
          by_cases hb5 : z < ns.getD (i + v.length) 0 - ns.getD i 0
          · rw [decide_eq_true hb5]
            refine iteT (out2 H4 s4 fun R => ?_)
            have := R.okAt hi7 e3 hp
            omega
          · rw [decide_eq_false hb5]
            refine iteF ?_
            exact next fun _ => by omega
        · rintro ⟨y4, y5, rfl, s4, ok2⟩
          refine ⟨_, y4, y5, rfl, s4, fun i' hi' w c hw => ?_⟩
          by_cases ei' : i' = i
          · subst ei'
            obtain ⟨k, hk, ek⟩ := List.getElem_of_mem hw
            exact ok2 k w c (by omega) (by rw [List.getElem?_eq_getElem hk, ek])
          · exact ok i' (by omega) w c hw
      · rintro ⟨y3, y4, y5, rfl, s3, ok⟩
        refine q H3 true s3 ⟨fun _ => ⟨a, ns, rfl, e, right_of hl h0 fun i hi w c hw => ok i (by omega) w c hw⟩, fun _ => rfl⟩
end
end K30
/-! The law's digits: _law_stream, _law_next. -/
namespace K30
open PySem PySem.Spec PyProof.Rows L2 K30R
theorem pos_m : (0 : Int) < 2147483647 := by decide
theorem ix31 : ixN 3 1 = some 1 := by decide
theorem ix32 : ixN 3 2 = some 2 := by decide
section
variable {P : Program} {w : World} {K : PySem.W.Frag} {mg : Str → Option Value} {base : Heap}
abbrev t__law_stream : Stmt := topS 28
abbrev n__law_stream : List Str := ["_law_script"]
abbrev p__law_stream : List Str := ["_law_script"]
theorem sc__law_stream : FnScope n__law_stream p__law_stream (defScope t__law_stream) := ⟨rfl, rfl, rfl, by decide +kernel, rfl, by decide +kernel, by decide +kernel⟩
def spStream (K : PySem.W.Frag) : Sp := fun vs H Q _ => ∃ (a : Addr) (ns : List Int), vs = [.ref a] ∧ SqL K H a (ns.map V.int) ∧ ∀ H' p, Same H H' → H p = none → Strm H' p → Q (.ref p) H'
theorem ok_law_stream (D : Df K mg "_law_stream" t__law_stream p__law_stream) (B : Blt mg) : Cal P w K mg base 1 "_law_stream" (spStream K) := by
  refine D.ok sc__law_stream (fun vs H Q E h => ?_) (fun f cdv A outer s H vs Q E hr h => ?_)
  · obtain ⟨a, ns, rfl, _⟩ := h
    rfl
  · obtain ⟨a, ns, rfl, hS, q⟩ := h
    refine ⟨_, pss_one (ps_ret (pe_lst (pa_cons (pe_callTy call_list_of (by rfl) B.list (by decide +kernel) (pa_cons (pv 0) pa_nil)) (pa_cons pe_int (pa_cons pe_int pa_nil))))), ?_⟩
    refine ⟨_, rfl, a, _, rfl, .inl hS, fun l hl => ⟨by show 3 ≤ sizeLine; decide, fun p hp => ?_⟩⟩
    have hp0 : H p = none := (same_upd hl).free hp
    refine q _ p ((same_upd hl).trans (same_upd hp)) hp0 ⟨l, ns, 0, 0, upd_same, ?_⟩
    rw [upd_ne (ne_of_none upd_same hp), upd_same]
abbrev t__law_next : Stmt := topS 29
abbrev n__law_next : List Str := ["_law_stream_here", "_law_many", "_law_k", "_law_cell", "_law_digit"]
abbrev p__law_next : List Str := ["_law_stream_here", "_law_many"]
theorem sc__law_next : FnScope n__law_next p__law_next (defScope t__law_next) := ⟨rfl, rfl, rfl, by decide +kernel, rfl, by decide +kernel, by decide +kernel⟩
def spNext : Sp := fun vs H Q _ => ∃ (p : Addr) (m : Int), vs = [.ref p, .int m] ∧ 1 ≤ m ∧ m ≤ 1000 ∧ Strm H p ∧ ∀ d H', 0 ≤ d → d < m → Kp p H H' → Q (.int d) H'
theorem ok_law_next (D : Df K mg "_law_next" t__law_next p__law_next) (B : Blt mg) : Cal P w K mg base 1 "_law_next" spNext := by
  refine D.ok sc__law_next (fun vs H Q E h => ?_) (fun f cdv A outer s H vs Q E hr h => ?_)
  · obtain ⟨a, m, rfl, _⟩ := h
    rfl
  · obtain ⟨p, m, rfl, m1, m2, hp, q⟩ := h
    refine ⟨_, C8.pss_cut (ps_if (pt_cmpR op_eq (pe_ix (r := rIxL K) ix_list (pv 0) pe_int (fun _ _ => rfl)) pe_int (nomark _))
        (pss_cons (ps_set (i := 2) sc__law_next.nd rfl (Or.inl rfl) (pe_ix (r := rIxL K) ix_list (pv 0) pe_int (fun _ _ => rfl)))
        (pss_cons (ps_set (i := 3) sc__law_next.nd rfl (Or.inl rfl) (pe_op op_add pe_int (pv 2)))
        (C8.pss_cut (ps_if (pt_cmpR op_lt (pv 2) (pe_callB call_len (by rfl) B.len PySem.boot_len (pa_cons (pe_ix (r := rIxL K) ix_list (pv 0) pe_int (fun _ _ => rfl)) pa_nil)) (nomark _)) (pss_one (ps_set (i := 3) sc__law_next.nd rfl (Or.inl rfl) (pe_callB call_abs (by rfl) B.abs (by decide +kernel) (pa_cons (pe_ix (r := rIxL K) ix_list (pe_ix (r := rIxL K) ix_list (pv 0) pe_int (fun _ _ => rfl)) (pv 2) (fun _ _ => rfl)) pa_nil)))) pss_nil)
        (C8.pss_cut (ps_if (pt_cmpR op_lt (pv 3) (pe_op op_pow pe_int pe_int) (nomark _))
            (pss_cons (ps_set (i := 3) sc__law_next.nd rfl (Or.inl rfl) (pe_op op_mod (pe_callTy call_int1 (by rfl) B.int (by decide +kernel) (pa_cons (pe_op op_add (pe_op op_add (pe_op op_mul (pv 3) pe_int) (pe_op op_mul (pv 2) pe_int)) pe_int) pa_nil)) pe_int))
            (pss_one (ps_set (i := 3) sc__law_next.nd rfl (Or.inl rfl) (pe_op op_add (pe_op op_mul (pe_op op_mod (pe_callTy call_int1 (by rfl) B.int (by decide +kernel) (pa_cons (pe_op op_add (pe_op op_mul (pv 3) pe_int) pe_int) pa_nil)) pe_int) pe_int) (pv 3))))) pss_nil)
        (pss_cons (ps_asg (pv 3) (pg_sub (pv 0) pe_int set_list)) (pss_one (ps_asg (pe_op op_add (pv 2) pe_int) (pg_sub (pv 0) pe_int set_list)))))))) pss_nil)
      (pss_cons (ps_set (i := 4) sc__law_next.nd rfl (Or.inl rfl) (pe_op op_mod (pe_callTy call_int1 (by rfl) B.int (by decide +kernel) (pa_cons (pe_ix (r := rIxL K) ix_list (pv 0) pe_int (fun _ _ => rfl)) pa_nil)) (pv 1)))
      (pss_cons (ps_asg (pe_op op_fdiv (pe_ix (r := rIxL K) ix_list (pv 0) pe_int (fun _ _ => rfl)) (pv 1)) (pg_sub (pv 0) pe_int set_list))
      (pss_one (ps_ret (pv 4))))), ?_⟩
    refine ⟨fun σ H' => ∃ y2 y3, σ = [some (.ref p), some (.int m), y2, y3, none] ∧ Kp p H H', ?_, ?_⟩
    · obtain ⟨a, ns, c, k, h1, h2⟩ := id hp
      refine ⟨_, rfl, p, _, _, _, rfl, rfl, SqL.of h1, atI_nat (j := 1) rfl, rfl, _, rfl, ite2 (fun _ => ?_) (fun _ => ⟨none, none, rfl, Kp.refl hp⟩)⟩
      refine ⟨_, rfl, p, _, _, _, rfl, rfl, SqL.of h1, atI_nat (j := 2) rfl, ?_⟩
      refine ⟨_, rfl, _, _, rfl, rfl, ?_⟩
      refine ⟨fun σ H' => ∃ c', σ = [some (.ref p), some (.int m), some (.int (k : Int)), some (.int c'), none] ∧ H' = H, ?_, ?_⟩
      · refine ⟨_, rfl, _, rfl, p, _, _, _, rfl, rfl, SqL.of h1, atI_nat (j := 0) rfl, _, _, rfl, .inl ⟨_, SqL.of h2, rfl⟩, _, _, rfl, rfl, _, rfl, ite2 (fun hk => ?_) (fun _ => ⟨_, rfl, rfl⟩)⟩
        have hk2 := of_decide_eq_true hk
        rw [List.length_map] at hk2
        have hk3 : k < ns.length := by omega
        have g : (ns.map V.int)[k]? = some (.int ns[k]) := by
          rw [List.getElem?_map, List.getElem?_eq_getElem hk3]
          rfl
        exact ⟨_, rfl, p, _, _, _, rfl, rfl, SqL.of h1, atI_nat (j := 0) rfl, _, rfl, a, _, _, _, rfl, rfl, SqL.of h2, atI_nat g, _, rfl, _, rfl, rfl⟩
      · rintro σ H' ⟨c', rfl, rfl⟩
        refine ⟨fun σ H2 => ∃ c', σ = [some (.ref p), some (.int m), some (.int (k : Int)), some (.int c'), none] ∧ H2 = H', ?_, ?_⟩
        · refine ⟨_, rfl, _, _, rfl, rfl, ⟨by decide, by decide, by decide⟩, _, _, rfl, rfl, _, rfl, ite2 (fun _ => ?_) (fun _ => ⟨_, rfl, rfl⟩)⟩
          refine ⟨_, rfl, _, _, rfl, rfl, .inr ⟨by decide, by decide⟩, _, rfl, _, _, rfl, rfl, .inr ⟨by decide, by decide⟩, _, _, rfl, rfl, _, _, rfl, rfl, .inl ⟨_, rfl, _, _, rfl, rfl, pos_m, ?_⟩⟩
          refine ⟨_, rfl, _, _, rfl, rfl, .inr ⟨by decide, by decide⟩, _, _, rfl, rfl, .inl ⟨_, rfl, _, _, rfl, rfl, pos_m, _, _, rfl, rfl, .inr ⟨by decide, by decide⟩, _, rfl, _, _, rfl, rfl, ?_⟩⟩
          exact ⟨_, rfl, rfl⟩
        · rintro σ H2 ⟨c2, rfl, rfl⟩
          refine ⟨_, rfl, _, rfl, p, _, _, 1, rfl, rfl, h1, ix31, ?_⟩
          refine ⟨_, rfl, _, _, rfl, rfl, _, rfl, p, _, _, 2, rfl, rfl, upd_same, ix32, ?_⟩
          have nap : a ≠ p := ne_of h2 h1 fun z => by
            have e := HO.lst.inj z
            cases ns with
            | nil => cases e
            | cons n ns =>
              rw [List.map_cons] at e
              injection e with e1 _
              cases e1
          refine ⟨_, _, rfl, ⟨fun b o e n => ?_, ⟨a, ns, c2, k + 1, ?_, ?_⟩, fun a' x y e => ?_⟩⟩
          · rw [upd_ne n, upd_ne n]
            exact e
          · rw [upd_same]
            rfl
          · rw [upd_ne nap, upd_ne nap]
            exact h2
          · rw [h1] at e
            cases e
            exact ⟨_, _, upd_same⟩
    · rintro σ H1 ⟨y2, y3, rfl, k1⟩
      obtain ⟨a, ns, c, k, h1, h2⟩ := k1.strm
      refine ⟨_, rfl, p, _, _, _, rfl, rfl, SqL.of h1, atI_nat (j := 1) rfl, .inl ⟨_, rfl, _, rfl, _, _, rfl, rfl, by omega, ?_⟩⟩
      refine ⟨_, rfl, p, _, _, _, rfl, rfl, SqL.of h1, atI_nat (j := 1) rfl, _, rfl, _, _, rfl, rfl, ⟨by omega, by omega⟩, _, rfl, p, _, _, 1, rfl, rfl, h1, ix31, ?_⟩
      have nap : a ≠ p := ne_of h2 h1 fun z => by
        have e := HO.lst.inj z
        cases ns with
        | nil => cases e
        | cons n ns =>
          rw [List.map_cons] at e
          injection e with e1 _
          cases e1
      refine ⟨_, rfl, q _ _ (Int.emod_nonneg _ (by omega)) (Int.emod_lt_of_pos _ (by omega)) (k1.trans ⟨fun b o e n => ?_, ⟨a, ns, _, k, upd_same, ?_⟩, fun a' x y e => ?_⟩)⟩
      · rw [upd_ne n]
        exact e
      · rw [upd_ne nap]
        exact h2
      · rw [h1] at e
        cases e
        exact ⟨_, _, upd_same⟩
end
end K30
/-! The law's words and texts: _law_words, _law_text. -/
namespace K30
open PySem PySem.Spec PyProof.Rows L2 K30R
/-- letters that a law takes -/
structure LetOk (L : Wd) : Prop where
  nd : L.Nodup
  one : 1 ≤ L.length
  most : L.length ≤ 3
  az : ∀ x ∈ L, 97 ≤ x ∧ x ≤ 122
def strsV (nm : List Wd) : List V := nm.map fun v => V.str (S v)
theorem strsV_len (nm : List Wd) : (strsV nm).length = nm.length := List.length_map _
theorem strsV_flat (nm : List Wd) : (strsV nm).all flatV = true := by
  rw [List.all_eq_true]
  intro x hx
  obtain ⟨e, _, rfl⟩ := List.mem_map.mp hx
  rfl
theorem strsV_get {nm : List Wd} {i : Nat} {v : Wd} (h : nm[i]? = some v) : (strsV nm)[i]? = some (.str (S v)) := by
  unfold strsV
  rw [List.getElem?_map, h]
  rfl
theorem signs_strs (L : Wd) : signsV L = strsV (L.map fun c => [c]) := by
  unfold signsV strsV
  rw [List.map_map]
  rfl
theorem S_beq {a b : Wd} : (S a == S b) = decide (a = b) := SX.S_beq_eq
theorem inV_mem (nm : List Wd) (v : Wd) : inV (.str (S v)) (strsV nm) = decide (v ∈ nm) := by
  unfold inV strsV
  rw [List.any_map]
  by_cases h : v ∈ nm
  · rw [decide_eq_true h, List.any_eq_true]
    exact ⟨v, h, by simp [eqV]⟩
  · rw [decide_eq_false h, List.any_eq_false]
    intro x hx
    show ¬ (S x == S v) = true
    rw [S_beq, decide_eq_true_eq]
    intro e
    exact h (e ▸ hx)
theorem flat1 : ∀ l : Wd, (l.map fun x => [x]).flatten = l
  | [] => rfl
  | x :: l => by rw [List.map_cons, List.flatten_cons, flat1 l]; rfl
theorem join1 (l : Wd) : Txt.join (Str.ofString "") ((l.map fun x => [x]).map S) = S l := by rw [nil_str, join_is, flat1]
theorem signs_join (l : Wd) : ((l.map fun x => [x]).map S).map V.str = signsV l := by
  unfold signsV
  rw [List.map_map, List.map_map]
  rfl
theorem signs_app (l : Wd) (c : Nat) : signsV (l ++ [c]) = signsV l ++ [.str ⟨#[c]⟩] := by
  unfold signsV
  rw [List.map_append]
  rfl
theorem signs_len (l : Wd) : (signsV l).length = l.length := List.length_map _
theorem join1_len (l : Wd) : (((l.map fun x => [x]).map S).map (·.length)).sum + ((l.map fun x => [x]).map S).length * (Str.ofString "").length = l.length := by
  rw [nil_str, S_len]
  show (((l.map fun x => [x]).map S).map (·.length)).sum + ((l.map fun x => [x]).map S).length * 0 = l.length
  rw [Nat.mul_zero, Nat.add_zero, mapS_len, List.map_map]
  have : ∀ m : Wd, (m.map ((fun v : Wd => v.length) ∘ fun x => [x])).sum = m.length := by
    intro m
    induction m with
    | nil => rfl
    | cons x m ih =>
      rw [List.map_cons, List.sum_cons, ih, List.length_cons]
      show 1 + m.length = m.length + 1
      omega
  exact this l
/-- letters[d] -/
theorem at_letter {L : Wd} {d : Int} (h0 : 0 ≤ d) (h1 : d < (L.length : Int)) : ∃ c, c ∈ L ∧ atI (S L).cps.toList d = some c := by
  obtain ⟨j, rfl⟩ : ∃ j : Nat, d = (j : Int) := ⟨d.toNat, by omega⟩
  have hi : j < L.length := by omega
  have q : atI L ((j : Nat) : Int) = some (L[j]'hi) := atI_nat (List.getElem?_eq_getElem hi)
  exact ⟨L[j], List.getElem_mem hi, q⟩
/-- a comprehension of drawn letters -/
def CwL (p : Addr) (L : Wd) (H : Hp) (D : Addr) (i : Nat) (H' : Hp) : Prop := H D = none ∧ ∃ acc : Wd, acc.length = i ∧ (∀ x ∈ acc, x ∈ L) ∧ Kp p H H' ∧ H' D = some (.lst (signsV acc))
theorem CwL.start {p : Addr} {L : Wd} {H : Hp} {D : Addr} (h : Strm H p) (hD : H D = none) : CwL p L H D 0 (upd H D (.lst [])) := ⟨hD, [], rfl, fun _ z => absurd z (by simp), (Kp.refl h).updNew h hD, upd_same⟩
theorem CwL.app {p : Addr} {L : Wd} {H H' H4 : Hp} {D : Addr} {i c : Nat} (h : Strm H p) (w : CwL p L H D i H') (k : Kp p H' H4) (hc : c ∈ L) (hi : i < 1000) : ∃ acc, H4 D = some (.lst acc) ∧ acc.length < sizeLine ∧ CwL p L H D (i + 1) (upd H4 D (.lst (acc ++ [.str ⟨#[c]⟩]))) := by
  obtain ⟨hD, acc, h1, h2, h3, h4⟩ := w
  refine ⟨_, k.keep D _ h4 (h.neN hD), by rw [signs_len, sizeLine_eq]; omega, hD, acc ++ [c], by rw [List.length_append, h1]; rfl, fun x hx => ?_, (h3.trans k).updNew h hD, ?_⟩
  · rcases List.mem_append.mp hx with hx | hx
    · exact h2 x hx
    · rw [List.mem_singleton.mp hx]
      exact hc
  · rw [upd_same, signs_app]
theorem CwL.strm {p : Addr} {L : Wd} {H H' : Hp} {D : Addr} {i : Nat} (w : CwL p L H D i H') : Strm H' p := by
  obtain ⟨_, _, _, _, k, _⟩ := w
  exact k.strm
section
variable {P : Program} {w : World} {K : PySem.W.Frag} {mg : Str → Option Value} {base : Heap}
abbrev t__law_text : Stmt := topS 32
abbrev n__law_text : List Str := ["_law_stream_here", "_law_letters", "_law_most", "_law_k"]
abbrev p__law_text : List Str := ["_law_stream_here", "_law_letters", "_law_most"]
theorem sc__law_text : FnScope n__law_text p__law_text (defScope t__law_text) := ⟨rfl, rfl, rfl, by decide +kernel, rfl, by decide +kernel, by decide +kernel⟩
def spText : Sp := fun vs H Q _ => ∃ (p : Addr) (L : Wd), vs = [.ref p, .str (S L), .int 7] ∧ Strm H p ∧ LetOk L ∧ ∀ H' T, Kp p H H' → T.length ≤ 7 → (∀ x ∈ T, x ∈ L) → Q (.str (S T)) H'
theorem ok_law_text (D : Df K mg "_law_text" t__law_text p__law_text) (B : Blt mg) (C1 : Cal P w K mg base 1 "_law_next" spNext) : Cal P w K mg base 2 "_law_text" spText := by
  refine D.ok sc__law_text (fun vs H Q E h => ?_) (fun f cdv A outer s H vs Q E hr h => ?_)
  · obtain ⟨p, L, rfl, _⟩ := h
    rfl
  · obtain ⟨p, L, rfl, hp, hL, q⟩ := h
    have l1 := hL.one
    have l3 := hL.most
    refine ⟨_, pss_one (ps_ret (pe_bm PySem.F.plainAttrs_str PySem.F.slot_str_join PySem.F.type_str_join mt_join pe_str (pa_cons (pe_lc (own := [("_law_k", 3)]) (g := gName 3) rfl sc__law_text.nd (pi_range1 rfl B.range (pa_cons (pc C1 hr (by decide) (by rfl) (pa_cons (pv 0) (pa_cons (pe_op op_add (pv 2) pe_int) pa_nil))) pa_nil)) (blkOk_by (N := n__law_text) (sc := defScope t__law_text) (by decide +kernel)) (fun _ _ _ _ _ => pg_name (i := 3) sc__law_text.nd rfl (Or.inl rfl)) (fun _ _ _ _ _ => pts_nil) (fun _ _ _ _ _ => (pe_ix ix_str (pv 1) (pc C1 hr (by decide) (by rfl) (pa_cons (pv 0) (pa_cons (pe_callB call_len_str (by rfl) B.len PySem.boot_len (pa_cons (pv 1) pa_nil)) pa_nil))) (fun _ _ => rfl)))) pa_nil))), ?_⟩
    refine ⟨rfl, _, rfl, _, rfl, _, _, rfl, rfl, p, 8, rfl, by decide, by decide, hp, fun d H1 d0 d1 k1 => ?_⟩
    have hp1 := k1.strm
    refine ⟨d, rfl, by omega, by omega, fun D hD => lc_range (fun i H' => CwL p L H1 D i H') (CwL.start hp1 hD) (fun i H2 hi c => ?_) (fun H2 c => ?_)⟩
    · refine ⟨rfl, tt_yes2 ?_⟩
      refine ⟨_, rfl, _, rfl, _, rfl, _, rfl, by rw [S_len, sizeLine_eq]; omega, p, _, rfl, by rw [S_len]; omega, by rw [S_len]; omega, c.strm, fun d2 H3 e0 e1 k3 => ?_⟩
      rw [S_len] at e1
      obtain ⟨x, hx, ex⟩ := at_letter e0 e1
      exact ⟨_, _, x, rfl, rfl, by rw [S_len, sizeLine_eq]; omega, ex, c.app hp1 k3 hx (by omega)⟩
    · obtain ⟨_, acc, h1, h2, h3, h4⟩ := c
      refine ⟨_, D, (acc.map fun x => [x]).map S, rfl, rfl, .inl (SqL.of (by rw [signs_join]; exact h4)), by rw [join1_len]; omega, ?_⟩
      rw [join1]
      exact q H2 acc (k1.trans h3) (by omega) h2
end
/-! ### the words -/
structure NamesOk (L : Wd) (nm : List Wd) (i : Nat) : Prop where
  nd : nm.Nodup
  ent : ∀ v ∈ nm, 1 ≤ v.length ∧ v.length ≤ 4 ∧ ∀ x ∈ v, x ∈ L
  has : ∀ x ∈ L, [x] ∈ nm
  lo : 1 ≤ nm.length
  hi : nm.length ≤ 3 + i
theorem nodup_map_one : ∀ {L : Wd}, L.Nodup → (L.map fun c => [c]).Nodup
  | [], _ => List.nodup_nil
  | x :: L, h => by
    obtain ⟨h1, h2⟩ := List.nodup_cons.mp h
    rw [List.map_cons, List.nodup_cons]
    refine ⟨fun z => ?_, nodup_map_one h2⟩
    obtain ⟨y, hy, e⟩ := List.mem_map.mp z
    injection e with e1 _
    exact h1 (e1 ▸ hy)
theorem NamesOk.start {L : Wd} (h : LetOk L) : NamesOk L (L.map fun c => [c]) 0 := by
  refine ⟨nodup_map_one h.nd, fun v hv => ?_, fun x hx => List.mem_map.mpr ⟨x, hx, rfl⟩, by rw [List.length_map]; exact h.one, by rw [List.length_map]; exact h.most⟩
  obtain ⟨x, hx, rfl⟩ := List.mem_map.mp hv
  exact ⟨Nat.le_refl 1, by show 1 ≤ 4; omega, fun y hy => by rw [List.mem_singleton.mp hy]; exact hx⟩
theorem NamesOk.next {L : Wd} {nm : List Wd} {i : Nat} (h : NamesOk L nm i) : NamesOk L nm (i + 1) := ⟨h.nd, h.ent, h.has, h.lo, by have := h.hi; omega⟩
theorem NamesOk.more {L : Wd} {nm : List Wd} {i : Nat} {v : Wd} (h : NamesOk L nm i) (hv : v ∉ nm) (h1 : 1 ≤ v.length) (h4 : v.length ≤ 4) (hx : ∀ x ∈ v, x ∈ L) : NamesOk L (nm ++ [v]) (i + 1) := by
  refine ⟨?_, fun u hu => ?_, fun x hx => List.mem_append_left _ (h.has x hx), by rw [List.length_append]; have := h.lo; omega, by rw [List.length_append]; have := h.hi; simp; omega⟩
  · rw [List.nodup_append]
    refine ⟨h.nd, by simp, fun a ha b hb e => ?_⟩
    rw [List.mem_singleton.mp hb] at e
    exact hv (e ▸ ha)
  · rcases List.mem_append.mp hu with hu | hu
    · exact h.ent u hu
    · rw [List.mem_singleton.mp hu]
      exact ⟨h1, h4, hx⟩
def CostsOk (cs : List Int) : Prop := ∀ c ∈ cs, 1 ≤ c ∧ c ≤ 9
theorem CostsOk.app {cs : List Int} {c : Int} (h : CostsOk cs) (hc : 1 ≤ c ∧ c ≤ 9) : CostsOk (cs ++ [c]) := fun x hx => by
  rcases List.mem_append.mp hx with hx | hx
  · exact h x hx
  · rw [List.mem_singleton.mp hx]
    exact hc
theorem at_cost {d z : Int} (hz : 1 ≤ z ∧ z ≤ 9) (h0 : 0 ≤ d) (h1 : d < 5) : ∃ c : Int, (1 ≤ c ∧ c ≤ 9) ∧ atI [V.int 1, .int 1, .int 2, .int 3, .int z] d = some (.int c) := by
  have h : d = 0 ∨ d = 1 ∨ d = 2 ∨ d = 3 ∨ d = 4 := by omega
  rcases h with rfl | rfl | rfl | rfl | rfl
  · exact ⟨1, by omega, atI_nat (j := 0) rfl⟩
  · exact ⟨1, by omega, atI_nat (j := 1) rfl⟩
  · exact ⟨2, by omega, atI_nat (j := 2) rfl⟩
  · exact ⟨3, by omega, atI_nat (j := 3) rfl⟩
  · exact ⟨z, hz, atI_nat (j := 4) rfl⟩
/-- a comprehension of drawn costs -/
def CwC (p : Addr) (H : Hp) (D : Addr) (i : Nat) (H' : Hp) : Prop := H D = none ∧ ∃ cs : List Int, cs.length = i ∧ CostsOk cs ∧ Kp p H H' ∧ H' D = some (.lst (cs.map V.int))
theorem CwC.app {p : Addr} {H H' H4 : Hp} {D : Addr} {i : Nat} {c : Int} (h : Strm H p) (w : CwC p H D i H') (k : Kp p H' H4) (hc : 1 ≤ c ∧ c ≤ 9) (hi : i < 1000) : ∃ acc, H4 D = some (.lst acc) ∧ acc.length < sizeLine ∧ CwC p H D (i + 1) (upd H4 D (.lst (acc ++ [.int c]))) := by
  obtain ⟨hD, cs, h1, h2, h3, h4⟩ := w
  refine ⟨_, k.keep D _ h4 (h.neN hD), by rw [List.length_map, sizeLine_eq]; omega, hD, cs ++ [c], by rw [List.length_append, h1]; rfl, h2.app hc, (h3.trans k).updNew h hD, ?_⟩
  rw [upd_same, List.map_append]
  rfl
theorem EntsAt.nil {H : Hp} : EntsAt H [] [] := ⟨rfl, fun i x e h _ => by simp at h⟩
theorem EntsAt.snoc {H : Hp} {ys : List V} {W : WL} {x : V} {e : Wd × Int} (h : EntsAt H ys W) (he : EntAt H x e) : EntsAt H (ys ++ [x]) (W ++ [e]) := by
  refine ⟨by rw [List.length_append, List.length_append, h.1]; rfl, fun i y u h1 h2 => ?_⟩
  by_cases hi : i < ys.length
  · rw [List.getElem?_append_left hi] at h1
    rw [List.getElem?_append_left (by rw [← h.1]; exact hi)] at h2
    exact h.2 i y u h1 h2
  · have hi2 : i < (ys ++ [x]).length := (List.getElem?_eq_some_iff.mp h1).1
    rw [List.length_append] at hi2
    have hi3 : i = ys.length := by simp at hi2; omega
    subst hi3
    have e1 : (ys ++ [x])[ys.length]? = some x := by simp
    have e2 : (W ++ [e])[ys.length]? = some e := by rw [h.1]; simp
    rw [e1] at h1
    rw [e2] at h2
    cases h1
    cases h2
    exact he
/-- what stands at an address, as an entry -/
def keyAt (H : Hp) : V → SI
  | .ref t => match H t with
    | some (.tup [.str z, .int c]) => (z.cps.toList, c)
    | _ => ([], 0)
  | _ => ([], 0)
theorem keyAt_ent {H : Hp} {x : V} {e : Wd × Int} (h : EntAt H x e) : keyAt H x = e := by
  obtain ⟨a, rfl, ha⟩ := h
  unfold keyAt
  dsimp only
  rw [ha]
theorem EntsAt.keys {H : Hp} {ys : List V} {W : WL} (h : EntsAt H ys W) : ys.map (keyAt H) = W := by
  refine List.ext_getElem? fun i => ?_
  rw [List.getElem?_map]
  by_cases hi : i < ys.length
  · have e1 : ys[i]? = some ys[i] := List.getElem?_eq_getElem hi
    have hw : i < W.length := by rw [← h.1]; exact hi
    have e2 : W[i]? = some W[i] := List.getElem?_eq_getElem hw
    rw [e1, e2]
    exact congrArg some (keyAt_ent (h.2 i _ _ e1 e2))
  · rw [List.getElem?_eq_none (by omega), List.getElem?_eq_none (by rw [← h.1]; omega)]
    rfl
theorem EntsAt.mem {H : Hp} {ys : List V} {W : WL} (h : EntsAt H ys W) {x : V} (hx : x ∈ ys) : ∃ t, x = V.ref t ∧ H t = some (.tup [.str (S (keyAt H x).1), .int (keyAt H x).2]) := by
  obtain ⟨i, hi, e⟩ := List.getElem_of_mem hx
  have e1 : ys[i]? = some x := by rw [List.getElem?_eq_getElem hi, e]
  obtain ⟨v, c, a, e2, _, e3, ha⟩ := h.at e1
  refine ⟨a, e3, ?_⟩
  rw [keyAt_ent (e := (v, c)) ⟨a, e3, ha⟩]
  exact ha
/-- a rearrangement of entries -/
theorem EntsAt.perm {H : Hp} {ys zs : List V} {W : WL} (h : EntsAt H ys W) (p : zs.Perm ys) : EntsAt H zs (zs.map (keyAt H)) := by
  refine ⟨(List.length_map _).symm, fun i x e h1 h2 => ?_⟩
  rw [List.getElem?_map, h1] at h2
  have e1 := Option.some.inj h2
  subst e1
  obtain ⟨t, e2, e3⟩ := h.mem (p.mem_iff.mp (List.mem_of_getElem? h1))
  exact ⟨t, e2, e3⟩
theorem zip_fst {nm : List Wd} {cs : List Int} (h : cs.length = nm.length) : (nm.zip cs).map (·.1) = nm := List.map_fst_zip (by omega)
/-- the sorted entries are a valid word list -/
theorem good_sorted {L : Wd} {nm : List Wd} {cs : List Int} {W : WL} (hL : LetOk L) (hn : NamesOk L nm 4) (hc : CostsOk cs) (hl : cs.length = nm.length) (p : W.Perm (nm.zip cs)) (s : W.Pairwise fun x y => ¬ y.1 < x.1) :
    GoodL W ∧ ∀ x ∈ L, ∃ c, ([x], c) ∈ W := by
  have hlen : W.length = nm.length := by
    rw [p.length_eq, List.length_zip, hl, Nat.min_self]
  have has : ∀ v ∈ nm, ∃ c, (v, c) ∈ W := fun v hv => by
    rw [← zip_fst hl] at hv
    obtain ⟨e, he, rfl⟩ := List.mem_map.mp hv
    exact ⟨e.2, p.mem_iff.mpr he⟩
  have nd : NdW W := by
    have q := p.map (·.1)
    rw [zip_fst hl] at q
    exact q.symm.nodup hn.nd
  have hasL : ∀ x ∈ L, ∃ c, ([x], c) ∈ W := fun x hx => has _ (hn.has x hx)
  have hi := hn.hi
  refine ⟨⟨by rw [hlen]; exact hn.lo, by omega, fun v c hv => ?_, fun i a b ha hb => ?_, nd⟩, hasL⟩
  · obtain ⟨h1, h2⟩ := List.of_mem_zip (p.mem_iff.mp hv)
    obtain ⟨g1, g2, g3⟩ := hn.ent v h1
    obtain ⟨c1, c9⟩ := hc c h2
    exact ⟨g1, g2, fun x hx => hL.az x (g3 x hx), c1, c9, fun x hx => hasL x (g3 x hx)⟩
  · obtain ⟨i1, rfl⟩ := List.getElem?_eq_some_iff.mp ha
    obtain ⟨i2, rfl⟩ := List.getElem?_eq_some_iff.mp hb
    have q := List.pairwise_iff_getElem.mp s i (i + 1) i1 i2 (by omega)
    by_cases lt : W[i].1 < W[i + 1].1
    · exact lt
    · exfalso
      have e := ltL_tri lt q
      have j1 : i < (W.map (·.1)).length := by rw [List.length_map]; exact i1
      have j2 : i + 1 < (W.map (·.1)).length := by rw [List.length_map]; exact i2
      have e2 : (W.map (·.1))[i] = (W.map (·.1))[i + 1] := by rw [List.getElem_map, List.getElem_map]; exact e
      have := (List.getElem_inj nd).mp e2
      omega
section
variable {P : Program} {w : World} {K : PySem.W.Frag} {mg : Str → Option Value} {base : Heap}
abbrev t__law_words : Stmt := topS 31
abbrev n__law_words : List Str := ["_law_stream_here", "_law_letters", "_law_most", "_law_names", "_law_k", "_law_word", "_law_costs", "_law_i", "_law_name"]
abbrev p__law_words : List Str := ["_law_stream_here", "_law_letters", "_law_most"]
theorem sc__law_words : FnScope n__law_words p__law_words (defScope t__law_words) := ⟨rfl, rfl, rfl, by decide +kernel, rfl, by decide +kernel, by decide +kernel⟩
def spWords : Sp := fun vs H Q _ => ∃ (p : Addr) (L : Wd), vs = [.ref p, .str (S L), .int 4] ∧ Strm H p ∧ LetOk L ∧ ∀ H' t W, Kp p H H' → WordsAt H' t W → GoodL W → (∀ x ∈ L, ∃ c, ([x], c) ∈ W) → Q (.ref t) H'
theorem ok_law_words (D : Df K mg "_law_words" t__law_words p__law_words) (B : Blt mg) (C1 : Cal P w K mg base 1 "_law_next" spNext) : Cal P w K mg base 2 "_law_words" spWords := by
  refine D.ok sc__law_words (fun vs H Q E h => ?_) (fun f cdv A outer s H vs Q E hr h => ?_)
  · obtain ⟨p, L, rfl, _⟩ := h
    rfl
  · obtain ⟨p, L, rfl, hp, hL, q⟩ := h
    have l1 := hL.one
    have l3 := hL.most
    have eL : (S L).cps.size = L.length := S_len L
    refine ⟨_, pss_cons (ps_set (i := 3) sc__law_words.nd rfl (Or.inr rfl) (pe_callTy (call_list_txt rfl) (by rfl) B.list (by decide +kernel) (pa_cons (pv 1) pa_nil)))
      (C8.pss_cut (ps_for PassesOwn.never rfl (pi_range1 rfl B.range (pa_cons (pc C1 hr (by decide) (by rfl) (pa_cons (pv 0) (pa_cons (pe_op op_add (pv 2) pe_int) pa_nil))) pa_nil)) (pg_name (i := 4) sc__law_words.nd rfl (Or.inl rfl)) (pss_cons (ps_set (i := 5) sc__law_words.nd rfl (Or.inl rfl) (pe_bm PySem.F.plainAttrs_str PySem.F.slot_str_join PySem.F.type_str_join mt_join pe_str (pa_cons (pe_lc (own := [("_law_i", 7)]) (g := gName 7) rfl sc__law_words.nd (pi_range1 rfl B.range (pa_cons (pe_op op_add pe_int (pc C1 hr (by decide) (by rfl) (pa_cons (pv 0) (pa_cons pe_int pa_nil)))) pa_nil)) (blkOk_by (N := n__law_words) (sc := defScope t__law_words) (by decide +kernel)) (fun _ _ _ _ _ => pg_name (i := 7) sc__law_words.nd rfl (Or.inl rfl)) (fun _ _ _ _ _ => pts_nil) (fun _ _ _ _ _ => (pe_ix ix_str (pv 1) (pc C1 hr (by decide) (by rfl) (pa_cons (pv 0) (pa_cons (pe_callB call_len_str (by rfl) B.len PySem.boot_len (pa_cons (pv 1) pa_nil)) pa_nil))) (fun _ _ => rfl)))) pa_nil)))
          (pss_one (ps_if (pt_cmpR (r := rIn K true) op_notIn_seq (pv 5) (pv 3) rfl) (pss_one (ps_expr (pe_bm PySem.F.plainAttrs_list PySem.F.slot_list_append PySem.F.type_list_append mt_append (pv 3) (pa_cons (pv 5) pa_nil)))) pss_nil))))
      (C8.pss_cut (ps_set (i := 6) sc__law_words.nd rfl (Or.inr rfl) (pe_lc (own := [("_law_name", 8)]) (g := gName 8) rfl sc__law_words.nd (pi_list (pv 3)) (blkOk_by (N := n__law_words) (sc := defScope t__law_words) (by decide +kernel)) (fun _ _ _ _ _ => pg_name (i := 8) sc__law_words.nd rfl (Or.inl rfl)) (fun _ _ _ _ _ => pts_nil) (fun _ _ _ _ _ => (pe_ix (r := rIxL K) ix_list (pe_lst (pa_cons pe_int (pa_cons pe_int (pa_cons pe_int (pa_cons pe_int (pa_cons (pe_op op_add pe_int (pc C1 hr (by decide) (by rfl) (pa_cons (pv 0) (pa_cons pe_int pa_nil)))) pa_nil)))))) (pc C1 hr (by decide) (by rfl) (pa_cons (pv 0) (pa_cons pe_int pa_nil))) (fun _ _ => rfl)))))
      (C8.pss_cut (ps_if (pt_cmpR op_eq (pc C1 hr (by decide) (by rfl) (pa_cons (pv 0) (pa_cons pe_int pa_nil))) pe_int (nomark _)) (pss_one (ps_set (i := 6) sc__law_words.nd rfl (Or.inr rfl) (pe_lc (own := [("_law_name", 8)]) (g := gName 8) rfl sc__law_words.nd (pi_list (pv 3)) (blkOk_by (N := n__law_words) (sc := defScope t__law_words) (by decide +kernel)) (fun _ _ _ _ _ => pg_name (i := 8) sc__law_words.nd rfl (Or.inl rfl)) (fun _ _ _ _ _ => pts_nil) (fun _ _ _ _ _ => pe_int)))) pss_nil)
      (pss_one (ps_ret (pe_callTy call_tuple_of (by rfl) B.tuple (by decide +kernel) (pa_cons (pe_callB cr_sortedSI (by rfl) B.sorted (by decide +kernel) (pa_cons (pe_lc (own := [("_law_k", 4)]) (g := gName 4) rfl sc__law_words.nd (pi_range1 rfl B.range (pa_cons (pe_callB call_len (by rfl) B.len PySem.boot_len (pa_cons (pv 3) pa_nil)) pa_nil)) (blkOk_by (N := n__law_words) (sc := defScope t__law_words) (by decide +kernel)) (fun _ _ _ _ _ => pg_name (i := 4) sc__law_words.nd rfl (Or.inl rfl)) (fun _ _ _ _ _ => pts_nil) (fun _ _ _ _ _ => (pe_tup (pa_cons (pe_ix (r := rIxL K) ix_list (pv 3) (pv 4) (fun _ _ => rfl)) (pa_cons (pe_ix (r := rIxL K) ix_list (pv 6) (pv 4) (fun _ _ => rfl)) pa_nil))))) pa_nil)) pa_nil))))))), ?_⟩
    -- names = list(letters)
    refine ⟨_, rfl, _, rfl, by rw [eL, sizeLine_eq]; omega, fun n hn => ?_⟩
    have nnp : n ≠ p := hp.neN hn
    rw [S_cps, signs_strs]
    -- the loop
    refine ⟨fun σ H' => ∃ nm y4 y5, σ = [some (.ref p), some (.str (S L)), some (.int 4), some (.ref n), y4, y5, none, none, none] ∧ Kp p H H' ∧ H' n = some (.lst (strsV nm)) ∧ NamesOk L nm 4, ?_, ?_⟩
    · refine ⟨_, rfl, _, rfl, _, _, rfl, rfl, p, 5, rfl, by decide, by decide, hp.same (same_upd hn), fun d H2 d0 d1 k2 => ?_⟩
      refine ⟨d, rfl, by omega, by omega, for_range (fun i σ H' => ∃ nm y4 y5, σ = [some (.ref p), some (.str (S L)), some (.int 4), some (.ref n), y4, y5, none, none, none] ∧ Kp p H H' ∧ H' n = some (.lst (strsV nm)) ∧ NamesOk L nm i)
        ⟨_, none, none, rfl, (Kp.of hp (same_upd hn)).trans k2, k2.keep n _ upd_same nnp, NamesOk.start hL⟩ (fun i σ H3 hi => ?_) (fun σ H3 => ?_)⟩
      · rintro ⟨nm, y4, y5, rfl, k3, h3, ok⟩
        refine ⟨rfl, _, rfl, p, 3, rfl, by decide, by decide, k3.strm, fun d2 H4 e0 e1 k4 => ?_⟩
        have hp4 := k4.strm
        refine ⟨_, _, rfl, rfl, _, rfl, by omega, by omega, fun D hD => lc_range (fun i H' => CwL p L H4 D i H') (CwL.start hp4 hD) (fun i H5 hi c => ?_) (fun H5 c => ?_)⟩
        · refine ⟨rfl, tt_yes2 ?_⟩
          refine ⟨_, rfl, _, rfl, _, rfl, _, rfl, by rw [S_len, sizeLine_eq]; omega, p, _, rfl, by rw [S_len]; omega, by rw [S_len]; omega, c.strm, fun d3 H6 f0 f1 k6 => ?_⟩
          rw [S_len] at f1
          obtain ⟨x, hx, ex⟩ := at_letter f0 f1
          exact ⟨_, _, x, rfl, rfl, by rw [S_len, sizeLine_eq]; omega, ex, c.app hp4 k6 hx (by omega)⟩
        · obtain ⟨_, acc, a1, a2, k5, a4⟩ := c
          refine ⟨_, D, (acc.map fun x => [x]).map S, rfl, rfl, .inl (SqL.of (by rw [signs_join]; exact a4)), by rw [join1_len]; omega, ?_⟩
          rw [join1]
          have k35 : Kp p H H5 := (k3.trans k4).trans k5
          have h5 : H5 n = some (.lst (strsV nm)) := k5.keep n _ (k4.keep n _ h3 nnp) nnp
          refine ⟨_, rfl, _, rfl, n, _, rfl, .inl (SqL.of h5), rfl, strsV_flat nm, ?_⟩
          show ∃ k, V.bl (!inV (.str (S acc)) (strsV nm)) = .bl k ∧ _
          rw [inV_mem]
          by_cases hm : acc ∈ nm
          · rw [decide_eq_true hm]
            refine ⟨false, rfl, iteF ?_⟩
            exact ⟨nm, _, _, rfl, k35, h5, ok.next⟩
          · rw [decide_eq_false hm]
            refine ⟨true, rfl, iteT ?_⟩
            have hlo := ok.hi
            refine ⟨_, rfl, .inl ⟨rfl, _, SqL.of h5⟩, _, rfl, n, _, _, rfl, rfl, h5, by rw [strsV_len, sizeLine_eq]; omega, ?_⟩
            refine ⟨nm ++ [acc], _, _, rfl, k35.updNew hp hn, ?_, ok.more hm (by omega) (by omega) a2⟩
            rw [upd_same]
            unfold strsV
            rw [List.map_append]
            rfl
      · rintro ⟨nm, y4, y5, rfl, k3, h3, ok⟩
        exact ⟨nm, y4, y5, rfl, k3, h3, ok.nd, ok.ent, ok.has, ok.lo, by have := ok.hi; omega⟩
    rintro σ H2 ⟨nm, y4, y5, rfl, k2, h2, ok⟩
    have hp2 := k2.strm
    have n7 : nm.length ≤ 7 := by have := ok.hi; omega
    -- costs
    refine ⟨fun σ H' => ∃ C cs, σ = [some (.ref p), some (.str (S L)), some (.int 4), some (.ref n), y4, y5, some (.ref C), none, none] ∧ C ≠ p ∧ cs.length = nm.length ∧ CostsOk cs ∧ Kp p H H' ∧ H' n = some (.lst (strsV nm)) ∧ H' C = some (.lst (cs.map V.int)), ?_, ?_⟩
    · refine ⟨_, rfl, n, rfl, ⟨_, SqL.of h2⟩, fun D hD => lc_list (xs := strsV nm) (fun i H' => CwC p H2 D i H') ⟨hD, [], rfl, fun c z => absurd z (by simp), (Kp.refl hp2).updNew hp2 hD, upd_same⟩
        (fun i H' _ ⟨_, cs, _, _, k, _⟩ => SqL.of (k.keep n _ h2 nnp)) (fun i x H3 hx c => ?_) (fun H3 c => ?_)⟩
      · have hi := (List.getElem?_eq_some_iff.mp hx).1
        rw [strsV_len] at hi
        obtain ⟨_, cs0, _, _, k3, _⟩ := id c
        refine ⟨rfl, tt_yes2 ?_⟩
        refine ⟨_, rfl, p, 9, rfl, by decide, by decide, k3.strm, fun d H4 d0 d1 k4 => ?_⟩
        refine ⟨_, _, rfl, rfl, by show 5 ≤ sizeLine; decide, fun l hl => ?_⟩
        refine ⟨_, rfl, p, 5, rfl, by decide, by decide, k4.strm.same (same_upd hl), fun d2 H5 e0 e1 k5 => ?_⟩
        obtain ⟨z, hz, ez⟩ := at_cost (z := 1 + d) ⟨by omega, by omega⟩ e0 e1
        have hl5 := k5.keep l _ upd_same (k4.strm.neN hl)
        exact ⟨l, _, d2, _, rfl, rfl, SqL.of hl5, ez, c.app hp2 ((k4.same (same_upd hl)).trans k5) hz (by omega)⟩
      · obtain ⟨_, cs, c1, c2, k3, c4⟩ := c
        rw [strsV_len] at c1
        exact ⟨D, cs, rfl, hp2.neN hD, c1, c2, k2.trans k3, k3.keep n _ h2 nnp, c4⟩
    rintro σ H3 ⟨C, cs, rfl, cp, c1, c2, k3, h3, hC3⟩
    clear k2 h2 hp2
    refine ⟨fun σ H' => ∃ C cs, σ = [some (.ref p), some (.str (S L)), some (.int 4), some (.ref n), y4, y5, some (.ref C), none, none] ∧ cs.length = nm.length ∧ CostsOk cs ∧ Kp p H H' ∧ H' n = some (.lst (strsV nm)) ∧ H' C = some (.lst (cs.map V.int)), ?_, ?_⟩
    · refine ⟨_, rfl, p, 2, rfl, by decide, by decide, k3.strm, fun d H4 d0 d1 k4 => ?_⟩
      have h4 := k4.keep n _ h3 nnp
      refine ⟨rfl, _, rfl, ite2 (fun _ => ?_) (fun _ => ⟨C, cs, rfl, c1, c2, k3.trans k4, h4, k4.keep C _ hC3 cp⟩)⟩
      refine ⟨_, rfl, n, rfl, ⟨_, SqL.of h4⟩, fun D hD => lc_list (xs := strsV nm) (fun i H' => Cw H4 D (List.replicate i (.int 1)) H') (Cw.start hD) (fun i H' _ c => SqL.of (c.2.1 _ _ h4)) (fun i x H5 hx c => ?_) (fun H5 c => ?_)⟩
      · have hi := (List.getElem?_eq_some_iff.mp hx).1
        rw [strsV_len] at hi
        refine ⟨rfl, tt_yes2 ?_⟩
        exact c.app (Same.refl _) (by rw [List.length_replicate]; omega) (by rw [List.replicate_succ'])
      · refine ⟨D, List.replicate nm.length 1, rfl, List.length_replicate, fun x hx => ?_, (k3.trans k4).same c.2.1, c.2.1 _ _ h4, ?_⟩
        · rw [List.eq_of_mem_replicate hx]
          omega
        · rw [c.2.2, strsV_len, List.map_replicate]
    rintro σ H4 ⟨C, cs, rfl, c1, c2, k4, h4, hC4⟩
    -- tuple(sorted([..]))
    refine ⟨_, rfl, _, _, rfl, .inl ⟨_, SqL.of h4, rfl⟩, _, rfl, by rw [strsV_len]; omega, by rw [strsV_len]; omega, fun D hD => lc_range (fun i H' => ∃ ys, Cw H4 D ys H' ∧ EntsAt H' ys ((nm.zip cs).take i)) ⟨[], Cw.start hD, EntsAt.nil⟩ (fun i H5 hi c => ?_) (fun H5 c => ?_)⟩
    · rw [strsV_len] at hi
      obtain ⟨ys, c, he⟩ := c
      have hi2 : i < nm.length := by omega
      have e1 : nm[i]? = some nm[i] := List.getElem?_eq_getElem hi2
      have e2 : cs[i]? = some (cs[i]'(by omega)) := List.getElem?_eq_getElem (by omega)
      refine ⟨rfl, tt_yes2 ?_⟩
      refine ⟨_, rfl, _, rfl, n, _, _, _, rfl, rfl, SqL.of (c.2.1 _ _ h4), at_of (j := i) (by omega) (strsV_get e1), ?_⟩
      refine ⟨_, rfl, _, rfl, C, _, _, _, rfl, rfl, SqL.of (c.2.1 _ _ hC4), at_of (j := i) (by omega) (by rw [List.getElem?_map, e2]; rfl), ?_⟩
      refine ⟨by show 2 ≤ sizeLine; decide, fun g hg => ?_⟩
      have hyl : ys.length = min i (nm.zip cs).length := by rw [he.1, List.length_take]
      obtain ⟨acc, b1, b2, b3⟩ := c.app (acc' := ys ++ [.ref g]) (y := .ref g) (same_upd hg) (by omega) rfl
      refine ⟨acc, b1, b2, _, b3, ?_⟩
      have e3 : (nm.zip cs)[i]? = some (nm[i], cs[i]'(by omega)) := List.getElem?_zip_eq_some.mpr ⟨e1, e2⟩
      rw [List.take_add_one, e3]
      have hDl := (same_upd (o := HO.tup [.str (S nm[i]), .int (cs[i]'(by omega))]) hg) _ _ c.2.2
      have kt : Tups H5 (upd (upd H5 g (.tup [.str (S nm[i]), .int (cs[i]'(by omega))])) D (.lst (acc ++ [.ref g]))) := fun b xs e => by
        have e' := (same_upd (o := HO.tup [.str (S nm[i]), .int (cs[i]'(by omega))]) hg) _ _ e
        rw [upd_ne (ne_of e' hDl fun z => nomatch z)]
        exact e'
      refine (he.keep kt).snoc ⟨g, rfl, ?_⟩
      rw [upd_ne (ne_of upd_same hDl fun z => nomatch z), upd_same]
    · obtain ⟨ys, c, he⟩ := c
      have hz : ((((strsV nm).length : Nat) : Int).toNat) = (nm.zip cs).length := by rw [strsV_len, List.length_zip, c1, Nat.min_self]; omega
      rw [hz, List.take_length] at he
      refine ⟨D, ys, keyAt H5, rfl, SqL.of c.2.2, fun x hx => he.mem hx, fun zs l srt perm hl => ?_⟩
      have hes := he.perm perm
      have pw : (zs.map (keyAt H5)).Perm (nm.zip cs) := by
        have := perm.map (keyAt H5)
        rw [he.keys] at this
        exact this
      obtain ⟨G, hasL⟩ := good_sorted hL ok c2 c1 pw (List.pairwise_map.mpr srt)
      refine ⟨l, _, rfl, .inl ⟨SqL.of upd_same, fun t ht => ?_⟩⟩
      have sm : Same H5 (upd (upd H5 l (.lst zs)) t (.tup zs)) := (same_upd hl).trans (same_upd ht)
      exact q _ t _ ((k4.same c.2.1).same sm) ⟨zs, upd_same, hes.keep (.of sm)⟩ G hasL
end
end K30
/-! _law_cost, _law_cuts. -/
namespace K30
open PySem PySem.Spec PyProof.Rows L2 K30R
def picks (W : WL) (w : Wd) : List Int := (W.filter fun e => decide (e.1 = w)).map (·.2)
theorem picks_succ {W : WL} {i : Nat} {x : Wd × Int} {w : Wd} (h : W[i]? = some x) : picks (W.take (i + 1)) w = if x.1 = w then picks (W.take i) w ++ [x.2] else picks (W.take i) w := by
  unfold picks
  rw [List.take_add_one, h, List.filter_append, List.map_append]
  by_cases q : x.1 = w
  · rw [if_pos q]
    simp [q]
  · rw [if_neg q]
    simp [q]
theorem picks_len (W : WL) (w : Wd) : (picks W w).length ≤ W.length := by
  unfold picks
  rw [List.length_map]
  exact List.length_filter_le _ _
theorem picks_get {w : Wd} {c : Int} : ∀ {W : WL}, (w, c) ∈ W → (picks W w)[0]? = some (costOf W w)
  | [], h => absurd h (by simp)
  | e :: W, h => by
    unfold picks costOf
    rw [List.filter_cons, List.find?_cons]
    by_cases q : e.1 = w
    · rw [decide_eq_true q]
      rfl
    · rw [decide_eq_false q]
      have h2 : (w, c) ∈ W := by
        rcases List.mem_cons.mp h with h | h
        · exact absurd (congrArg Prod.fst h).symm q
        · exact h
      exact picks_get h2
theorem costR_take {W : WL} {r : List Wd} {i : Nat} {w : Wd} (h : r[i]? = some w) : costR W (r.take (i + 1)) = costR W (r.take i) + costOf W w := by
  rw [List.take_add_one, h]
  exact costR_snoc
section
variable {P : Program} {w : World} {K : PySem.W.Frag} {mg : Str → Option Value} {base : Heap}
abbrev t__law_cost : Stmt := topS 33
abbrev n__law_cost : List Str := ["_law_words_here", "_law_row", "_law_total", "_law_part", "_law_word", "_law_cost_here"]
abbrev p__law_cost : List Str := ["_law_words_here", "_law_row"]
theorem sc__law_cost : FnScope n__law_cost p__law_cost (defScope t__law_cost) := ⟨rfl, rfl, rfl, by decide +kernel, rfl, by decide +kernel, by decide +kernel⟩
def spCost : Sp := fun vs H Q _ => ∃ (t ra : Addr) (W : WL) (r : List Wd), vs = [.ref t, .ref ra] ∧ WordsAt H t W ∧ GoodL W ∧ H ra = some (.tup (strsV r)) ∧ InW W r ∧ ∀ H', Same H H' → Q (.int (costR W r)) H'
theorem ok_law_cost (D : Df K mg "_law_cost" t__law_cost p__law_cost) : Cal P w K mg base 1 "_law_cost" spCost := by
  refine D.ok sc__law_cost (fun vs H Q E h => ?_) (fun f cdv A outer s H vs Q E hr h => ?_)
  · obtain ⟨a, b, W, r, rfl, _⟩ := h
    rfl
  · obtain ⟨t, ra, W, r, rfl, hW, G, hra, hr2, q⟩ := h
    obtain ⟨ys, ht, hy⟩ := id hW
    have ey : ys.length = W.length := hy.1
    have m8 := G.most
    refine ⟨_, pss_cons (ps_set (i := 2) sc__law_cost.nd rfl (Or.inl rfl) pe_int)
      (pss_cons (ps_for PassesOwn.never rfl (pi_tup (pv 1)) (pg_name (i := 3) sc__law_cost.nd rfl (Or.inr rfl)) (pss_one (ps_set (i := 2) sc__law_cost.nd rfl (Or.inl rfl) (pe_op op_add (pv 2) (pe_ix (r := rIxL K) ix_list (pe_lc (own := [("_law_word", 4), ("_law_cost_here", 5)]) (g := gTup K 2 (gCons (gName 4) (gCons (gName 5) gNil))) rfl sc__law_cost.nd (pi_tup (pv 0)) (blkOk_by (N := n__law_cost) (sc := defScope t__law_cost) (by decide +kernel)) (fun _ _ _ _ _ => pg_tup rfl (pgs_cons (pg_name (i := 4) sc__law_cost.nd rfl (Or.inl rfl)) (pgs_cons (pg_name (i := 5) sc__law_cost.nd rfl (Or.inl rfl)) pgs_nil))) (fun _ _ _ _ _ => pts_one (pt_cmpR op_eq (pv 4) (pv 3) (nomark _))) (fun _ _ _ _ _ => (pv 5))) pe_int (fun _ _ => rfl))))))
      (pss_one (ps_ret (pv 2)))), ?_⟩
    refine ⟨_, rfl, ra, rfl, ⟨_, SqT.of hra⟩, for_tup (xs := strsV r) (fun i σ H' => ∃ y3, σ = [some (.ref t), some (.ref ra), some (.int (costR W (r.take i))), y3, none, none] ∧ Same H H') ⟨none, rfl, Same.refl H⟩
      (fun i σ H' _ ⟨_, _, s'⟩ => SqT.of (s' _ _ hra)) (fun i x σ H1 hx => ?_) (fun σ H1 => ?_)⟩
    · rintro ⟨y3, rfl, s1⟩
      have hi : i < r.length := by
        have := (List.getElem?_eq_some_iff.mp hx).1
        rwa [strsV_len] at this
      have e1 : r[i]? = some r[i] := List.getElem?_eq_getElem hi
      rw [strsV_get e1] at hx
      cases hx
      obtain ⟨c, hc⟩ := hr2 r[i] (List.getElem_mem hi)
      have ht1 := s1 _ _ ht
      refine ⟨_, rfl, _, rfl, t, rfl, ⟨_, SqT.of ht1⟩, fun D hD => lc_tup (xs := ys) (fun k H' => Cw H1 D ((picks (W.take k) r[i]).map V.int) H') (Cw.start hD) (fun _ _ _ c => SqT.of (c.2.1 _ _ ht1)) (fun k x H2 hx c => ?_) (fun H2 c => ?_)⟩
      · obtain ⟨v, z, a, e2, e3, rfl, ha⟩ := hy.at hx
        have hk := (List.getElem?_eq_some_iff.mp hx).1
        have ha2 := c.2.1 _ _ (s1 _ _ ha)
        have es := picks_succ (w := r[i]) e2
        refine ⟨a, _, rfl, SqT.of ha2, rfl, _, _, rfl, _, _, rfl, rfl, rfl, ?_⟩
        refine ⟨_, rfl, _, rfl, rfl, _, rfl, ?_⟩
        rw [eq_str_iff]
        by_cases hv : v = r[i]
        · rw [if_pos hv] at es
          rw [decide_eq_true hv]
          refine iteT ⟨_, rfl, ?_⟩
          refine c.app (Same.refl _) ?_ (by rw [es, List.map_append]; rfl)
          have := picks_len (W.take k) r[i]
          rw [List.length_take] at this
          rw [List.length_map]
          omega
        · rw [if_neg hv] at es
          rw [decide_eq_false hv]
          refine iteF ?_
          rw [es]
          exact c
      · rw [ey, List.take_length] at c
        refine ⟨D, _, _, _, rfl, rfl, SqL.of c.2.2, atI_nat (j := 0) (by rw [List.getElem?_map, picks_get hc]; rfl), _, _, rfl, rfl, some (.str (S r[i])), ?_, s1.trans c.2.1⟩
        rw [costR_take e1]
        rfl
    · rintro ⟨y3, rfl, s1⟩
      rw [strsV_len, List.take_length]
      exact ⟨_, rfl, q H1 s1⟩
end
/-! ### rows in the heap -/
def RowEnts (H : Hp) (rs : List V) (rows : List (List Wd)) : Prop := rs.length = rows.length ∧ ∀ (i : Nat) (x : V) (r : List Wd), rs[i]? = some x → rows[i]? = some r → ∃ b, x = .ref b ∧ H b = some (.tup (strsV r))
theorem RowEnts.keep {H H' : Hp} {rs : List V} {rows : List (List Wd)} (h : RowEnts H rs rows) (k : Tups H H') : RowEnts H' rs rows := ⟨h.1, fun i x r h1 h2 => by
  obtain ⟨b, e1, e2⟩ := h.2 i x r h1 h2
  exact ⟨b, e1, k _ _ e2⟩⟩
theorem RowEnts.nil {H : Hp} : RowEnts H [] [] := ⟨rfl, fun i x e h _ => by simp at h⟩
theorem RowEnts.snoc {H : Hp} {ys : List V} {W : List (List Wd)} {b : Addr} {e : List Wd} (h : RowEnts H ys W) (he : H b = some (.tup (strsV e))) : RowEnts H (ys ++ [.ref b]) (W ++ [e]) := by
  refine ⟨by rw [List.length_append, List.length_append, h.1]; rfl, fun i y u h1 h2 => ?_⟩
  by_cases hi : i < ys.length
  · rw [List.getElem?_append_left hi] at h1
    rw [List.getElem?_append_left (by rw [← h.1]; exact hi)] at h2
    exact h.2 i y u h1 h2
  · have hi2 : i < (ys ++ [V.ref b]).length := (List.getElem?_eq_some_iff.mp h1).1
    rw [List.length_append] at hi2
    have hi3 : i = ys.length := by simp at hi2; omega
    subst hi3
    have e1 : (ys ++ [V.ref b])[ys.length]? = some (.ref b) := by simp
    have e2 : (W ++ [e])[ys.length]? = some e := by rw [h.1]; simp
    rw [e1] at h1
    rw [e2] at h2
    cases h1
    cases h2
    exact ⟨b, rfl, he⟩
def RowsAt (H : Hp) (a : Addr) (rows : List (List Wd)) : Prop := ∃ rs, H a = some (.lst rs) ∧ RowEnts H rs rows
structure FamAt (H0 H : Hp) (f : Addr) (as : List Addr) (F : Fam) : Prop where
  same : Same H0 H
  anew : ∀ a ∈ as, H0 a = none
  nd : as.Nodup
  fa : f ∉ as
  lst : H f = some (.lst (as.map V.ref))
  rows : ∀ (j : Nat) (a : Addr), as[j]? = some a → RowsAt H a (F j)
theorem RowsAt.same {H H' : Hp} {a : Addr} {rows : List (List Wd)} (h : RowsAt H a rows) (s : Same H H') : RowsAt H' a rows := by
  obtain ⟨rs, h1, h2⟩ := h
  exact ⟨rs, s _ _ h1, h2.keep (.of s)⟩
theorem FamAt.stay {H0 H H' : Hp} {f : Addr} {as : List Addr} {F : Fam} (h : FamAt H0 H f as F) (s : Same H H') : FamAt H0 H' f as F := ⟨h.same.trans s, h.anew, h.nd, h.fa, s _ _ h.lst, fun j a e => (h.rows j a e).same s⟩
theorem tups_updL {H : Hp} {a : Addr} {xs : List V} {o : HO} (e : H a = some (.lst xs)) : Tups H (upd H a o) := fun b ys h => by
  rw [upd_ne (ne_of h e fun z => nomatch z)]
  exact h
/-- a row put behind those at j -/
theorem FamAt.app {H0 H : Hp} {f : Addr} {as : List Addr} {F : Fam} {j : Nat} {a b : Addr} {rs : List V} {r : List Wd} (h : FamAt H0 H f as F) (ha : as[j]? = some a) (e : H a = some (.lst rs)) (he : RowEnts H rs (F j)) (hb : H b = some (.tup (strsV r))) :
    FamAt H0 (upd H a (.lst (rs ++ [.ref b]))) f as (fun i => if i = j then F i ++ [r] else F i) := by
  have ma : a ∈ as := List.mem_of_getElem? ha
  have nf : f ≠ a := fun z => h.fa (z ▸ ma)
  refine ⟨same_upd2 h.same (h.anew a ma), h.anew, h.nd, h.fa, by rw [upd_ne nf]; exact h.lst, fun i c hc => ?_⟩
  by_cases hi : i = j
  · subst hi
    rw [ha] at hc
    cases hc
    rw [if_pos rfl]
    exact ⟨_, upd_same, (he.snoc hb).keep (tups_updL e)⟩
  · rw [if_neg hi]
    have nc : c ≠ a := fun z => by
      subst z
      obtain ⟨i1, e1⟩ := List.getElem?_eq_some_iff.mp hc
      obtain ⟨j1, e2⟩ := List.getElem?_eq_some_iff.mp ha
      exact hi ((List.getElem_inj h.nd).mp (e1.trans e2.symm))
    obtain ⟨qs, q1, q2⟩ := h.rows i c hc
    exact ⟨qs, by rw [upd_ne nc]; exact q1, q2.keep (tups_updL e)⟩
theorem rows_short {W : WL} (hp : ∀ w c, (w, c) ∈ W → 1 ≤ w.length) : ∀ {r : List Wd}, InW W r → r.length ≤ r.flatten.length
  | [], _ => Nat.le_refl 0
  | w :: r, h => by
    obtain ⟨c, hc⟩ := h w List.mem_cons_self
    have h1 := hp w c hc
    have h2 := rows_short hp (r := r) fun v hv => h v (List.mem_cons_of_mem _ hv)
    rw [List.flatten_cons, List.length_append, List.length_cons]
    omega
theorem strsV_app (r : List Wd) (v : Wd) : strsV (r ++ [v]) = strsV r ++ [.str (S v)] := by
  unfold strsV
  rw [List.map_append]
  rfl
theorem pow9 {s : Nat} (h : s ≤ 6) : 9 ^ s ≤ 531441 := by
  have := Nat.pow_le_pow_right (n := 9) (by omega) h
  exact this
section
variable {P : Program} {w : World} {K : PySem.W.Frag} {mg : Str → Option Value} {base : Heap}
abbrev t__law_cuts : Stmt := topS 35
abbrev n__law_cuts : List Str := ["_law_words_here", "_law_text_here", "_law_found", "_law_start", "_law_word", "_law_cost_here", "_law_row", "_law_index"]
abbrev p__law_cuts : List Str := ["_law_words_here", "_law_text_here"]
theorem sc__law_cuts : FnScope n__law_cuts p__law_cuts (defScope t__law_cuts) := ⟨rfl, rfl, rfl, by decide +kernel, rfl, by decide +kernel, by decide +kernel⟩
def spCuts : Sp := fun vs H Q _ => ∃ (t : Addr) (W : WL) (T : Wd), vs = [.ref t, .str (S T)] ∧ WordsAt H t W ∧ GoodL W ∧ GoodT W T ∧ ∀ H' a, Same H H' → RowsAt H' a (famS W T T.length T.length) → Q (.ref a) H'
theorem ok_law_cuts (D : Df K mg "_law_cuts" t__law_cuts p__law_cuts) (B : Blt mg) : Cal P w K mg base 1 "_law_cuts" spCuts := by
  refine D.ok sc__law_cuts (fun vs H Q E h => ?_) (fun f cdv A outer s H vs Q E hr h => ?_)
  · obtain ⟨a, W, T, rfl, _⟩ := h
    rfl
  · obtain ⟨t, W, T, rfl, hW, G, GT, q⟩ := h
    obtain ⟨ys, ht, hy⟩ := id hW
    have ey : ys.length = W.length := hy.1
    have m8 := G.most
    have m7 := GT.len
    refine ⟨_, pss_cons (ps_setLc (i := 2) (own := [("_law_index", 7)]) (g := gName 7) rfl sc__law_cuts.nd rfl rfl (sw_true rfl rfl rfl (by decide +kernel)) (pi_range1 rfl B.range (pa_cons (pe_op op_add (pe_callB call_len_str (by rfl) B.len PySem.boot_len (pa_cons (pv 1) pa_nil)) pe_int) pa_nil)) (blkOk_by (N := n__law_cuts) (sc := defScope t__law_cuts) (by decide +kernel)) (fun _ _ _ _ _ => pg_name (i := 7) sc__law_cuts.nd rfl (Or.inl rfl)) (fun _ _ _ _ _ => pts_nil) (fun _ _ _ _ _ => (pe_lst pa_nil)))
      (pss_cons (ps_expr (pe_bm PySem.F.plainAttrs_list PySem.F.slot_list_append PySem.F.type_list_append mt_append (pe_ix (r := rIxL K) ix_list (pv 2) pe_int (fun _ _ => rfl)) (pa_cons (pe_tup pa_nil) pa_nil)))
      (pss_cons (ps_for PassesOwn.never rfl (pi_range1 rfl B.range (pa_cons (pe_callB call_len_str (by rfl) B.len PySem.boot_len (pa_cons (pv 1) pa_nil)) pa_nil)) (pg_name (i := 3) sc__law_cuts.nd rfl (Or.inl rfl)) (pss_one (ps_for PassesOwn.never rfl (pi_tup (pv 0)) (pg_tup rfl (pgs_cons (pg_name (i := 4) sc__law_cuts.nd rfl (Or.inl rfl)) (pgs_cons (pg_name (i := 5) sc__law_cuts.nd rfl (Or.inl rfl)) pgs_nil))) (pss_one (ps_if (pt_val (pe_bm PySem.F.plainAttrs_str PySem.F.slot_str_startswith PySem.F.type_str_startswith mt_startswith3 (pv 1) (pa_cons (pv 4) (pa_cons (pv 3) pa_nil)))) (pss_one (ps_for PassesOwn.never rfl (pi_list (pe_ix (r := rIxL K) ix_list (pv 2) (pv 3) (fun _ _ => rfl))) (pg_name (i := 6) sc__law_cuts.nd rfl (Or.inl rfl)) (pss_one (ps_expr (pe_bm PySem.F.plainAttrs_list PySem.F.slot_list_append PySem.F.type_list_append mt_append (pe_ix (r := rIxL K) ix_list (pv 2) (pe_op op_add (pv 3) (pe_callB call_len_str (by rfl) B.len PySem.boot_len (pa_cons (pv 4) pa_nil))) (fun _ _ => rfl)) (pa_cons (pe_op op_catA (pv 6) (pe_tup (pa_cons (pv 4) pa_nil))) pa_nil)))))) pss_nil)))))
      (pss_one (ps_ret (pe_ix (r := rIxL K) ix_list (pv 2) (pe_callB call_len_str (by rfl) B.len PySem.boot_len (pa_cons (pv 1) pa_nil)) (fun _ _ => rfl)))))), ?_⟩
    -- found = [[] for _law_index in range(len(text) + 1)]
    refine ⟨_, rfl, _, rfl, by rw [S_len, sizeLine_eq]; omega, _, _, rfl, rfl, _, rfl, by rw [S_len]; omega, by rw [S_len]; omega, fun f0 hf => lc_range (fun i H' => ∃ as : List Addr, Cw H f0 (as.map V.ref) H' ∧ as.length = i ∧ as.Nodup ∧ f0 ∉ as ∧ ∀ a ∈ as, H a = none ∧ H' a = some (.lst [])) ⟨[], Cw.start hf, rfl, List.nodup_nil, by simp, fun a z => absurd z (by simp)⟩ (fun i H1 hi c => ?_) (fun H1 c => ?_)⟩
    · obtain ⟨as, c, al, nd, nf, hall⟩ := c
      rw [S_len] at hi
      refine ⟨rfl, tt_yes2 ?_⟩
      refine ⟨Nat.zero_le _, fun g hg => ?_⟩
      obtain ⟨acc, b1, b2, b3⟩ := c.app (acc' := as.map V.ref ++ [.ref g]) (y := .ref g) (same_upd (o := HO.lst []) hg) (by rw [List.length_map]; omega) rfl
      have gn : g ∉ as := fun z => by
        have := (hall g z).2
        rw [hg] at this
        cases this
      have gf : g ≠ f0 := fun z => by
        have := c.2.2
        rw [← z, hg] at this
        cases this
      refine ⟨acc, b1, b2, as ++ [g], by rw [List.map_append]; exact b3, by rw [List.length_append, al]; rfl, ?_, fun z => ?_, fun a z => ?_⟩
      · rw [List.nodup_append]
        refine ⟨nd, by simp, fun a ha b hb e => ?_⟩
        rw [List.mem_singleton.mp hb] at e
        exact gn (e ▸ ha)
      · rcases List.mem_append.mp z with z | z
        · exact nf z
        · exact gf (List.mem_singleton.mp z).symm
      · rcases List.mem_append.mp z with z | z
        · obtain ⟨h1, h2⟩ := hall a z
          refine ⟨h1, ?_⟩
          rw [upd_ne (show a ≠ f0 from fun e => nf (e ▸ z)), upd_ne (show a ≠ g from fun e => gn (e ▸ z))]
          exact h2
        · rw [List.mem_singleton.mp z]
          refine ⟨c.2.1.free hg, ?_⟩
          rw [upd_ne gf, upd_same]
    obtain ⟨as, c, al, nd, nf, hall⟩ := c
    have al2 : as.length = T.length + 1 := by rw [al, S_len]; omega
    have geta : ∀ j, j ≤ T.length → ∃ a, as[j]? = some a := fun j hj => ⟨as[j]'(by omega), List.getElem?_eq_getElem (by omega)⟩
    have F0 : FamAt H H1 f0 as (fun _ => []) := ⟨c.2.1, fun a ha => (hall a ha).1, nd, nf, c.2.2, fun j a ha => ⟨[], (hall a (List.mem_of_getElem? ha)).2, RowEnts.nil⟩⟩
    clear c hall
    -- found[0].append(())
    obtain ⟨a0, ea0⟩ := geta 0 (by omega)
    obtain ⟨rs0, r1, r2⟩ := F0.rows 0 a0 ea0
    have refs : ∀ {j : Nat} {a : Addr}, as[j]? = some a → (as.map V.ref)[j]? = some (.ref a) := fun {j a} e => by
      rw [List.getElem?_map, e]
      rfl
    have n0 : rs0.length = 0 := r2.1
    refine ⟨_, rfl, f0, _, _, _, rfl, rfl, SqL.of F0.lst, atI_nat (j := 0) (refs ea0), .inl ⟨rfl, _, SqL.of r1⟩, Nat.zero_le _, fun g hg => ?_⟩
    have F1 := F0.stay (same_upd (o := HO.tup []) hg)
    have r1' := (same_upd (o := HO.tup []) hg) _ _ r1
    refine ⟨a0, rs0, _, rfl, rfl, r1', by rw [n0, sizeLine_eq]; omega, ?_⟩
    have F2 := F1.app (b := g) (r := []) ea0 r1' (r2.keep (.of (same_upd hg))) upd_same
    have F3 : FamAt H (upd (upd H1 g (.tup [])) a0 (.lst (rs0 ++ [.ref g]))) f0 as (famS W T 0) := by
      have e : famS W T 0 = (fun i => if i = 0 then ([] : List (List Wd)) ++ [[]] else []) := rfl
      rw [e]
      exact F2
    clear F0 F1 F2
    -- the loops
    refine ⟨_, rfl, _, rfl, by rw [S_len, sizeLine_eq]; omega, (T.length : Int), by rw [S_len], by omega, by omega, for_range (fun i σ H' => ∃ y3 y4 y5 y6, σ = [some (.ref t), some (.str (S T)), some (.ref f0), y3, y4, y5, y6, none] ∧ FamAt H H' f0 as (famS W T i))
      ⟨none, none, none, none, rfl, F3⟩ (fun i σ H3 hi => ?_) (fun σ H3 => ?_)⟩
    · rintro ⟨y3, y4, y5, y6, rfl, F4⟩
      have hi7 : i < T.length := by omega
      have ht3 := F4.same _ _ ht
      have ei : (0 : Int) + (i : Int) = (i : Int) := by omega
      have big := pow9 (s := i) (by omega)
      have lenF : ∀ j, (famS W T i j).length ≤ 9 ^ i := famS_len G.pos m8 i
      refine ⟨_, rfl, t, rfl, ⟨_, SqT.of ht3⟩, for_tup (xs := ys) (fun k σ H' => ∃ y4 y5 y6, σ = [some (.ref t), some (.str (S T)), some (.ref f0), some (.int (i : Int)), y4, y5, y6, none] ∧ FamAt H H' f0 as (stepI W T (famS W T i) i k))
        ⟨y4, y5, y6, by rw [ei]; rfl, F4⟩ (fun k σ H4 _ ⟨_, _, _, _, F5⟩ => SqT.of (F5.same _ _ ht)) (fun k x σ H4 hx => ?_) (fun σ H4 => ?_)⟩
      · rintro ⟨y4, y5, y6, rfl, F5⟩
        obtain ⟨v, z, b, e1, e3, rfl, hb⟩ := hy.at hx
        have hk : k < W.length := by rw [← ey]; exact (List.getElem?_eq_some_iff.mp hx).1
        have hb4 := F5.same _ _ hb
        obtain ⟨g1, g4, _⟩ := G.ent v z e3
        refine ⟨b, _, rfl, SqT.of hb4, rfl, _, _, rfl, _, _, rfl, rfl, ?_⟩
        refine ⟨_, rfl, rfl, _, rfl, _, rfl, _, _, _, rfl, rfl, _, rfl, ?_⟩
        rw [starts_is T v (by omega)]
        by_cases hp : v <+: T.drop i
        case neg =>
          rw [decide_eq_false hp]
          refine iteF ?_
          refine ⟨_, _, _, rfl, ?_⟩
          rw [stepI_no e1 hp]
          exact F5
        have hlen := hp.length_le
        rw [List.length_drop] at hlen
        rw [decide_eq_true hp]
        refine iteT ?_
        -- for row in found[start]
        have lenG : ∀ j, (stepI W T (famS W T i) i k j).length ≤ 9 ^ i * (1 + k) := stepI_len G.pos lenF k (by omega)
        have big2 : 9 ^ i * (1 + k) ≤ 531441 * 9 := Nat.mul_le_mul big (by omega)
        have hG := stepI_yes (F := famS W T i) (s := i) e1 hp
        have snd : Sound W T (stepI W T (famS W T i) i k) := stepI_ind (Pr := Sound W T) (sound_famS i (by omega)) (fun _ w c hw hp h => sound_put (by omega) h hw hp) k (by omega)
        generalize stepI W T (famS W T i) i k = Gk at F5 lenG hG snd
        obtain ⟨ai, eai⟩ := geta i (by omega)
        obtain ⟨aj, eaj⟩ := geta (i + v.length) (by omega)
        have nij : ai ≠ aj := fun z => by
          subst z
          obtain ⟨i1, q1⟩ := List.getElem?_eq_some_iff.mp eai
          obtain ⟨j1, q2⟩ := List.getElem?_eq_some_iff.mp eaj
          have := (List.getElem_inj nd).mp (q1.trans q2.symm)
          omega
        obtain ⟨rs, h1, h2⟩ := F5.rows i ai eai
        refine ⟨_, rfl, _, rfl, f0, _, _, _, rfl, rfl, SqL.of F5.lst, atI_nat (j := i) (refs eai), ai, rfl, ⟨_, SqL.of h1⟩, for_list (xs := rs) (fun m σ H' => ∃ y6, σ = [some (.ref t), some (.str (S T)), some (.ref f0), some (.int (i : Int)), some (.str (S v)), some (.int z), y6, none] ∧ FamAt H H' f0 as (putK Gk i v m) ∧ H' ai = some (.lst rs) ∧ RowEnts H' rs (Gk i))
          ⟨y6, rfl, by rw [putK_zero]; exact F5, h1, h2⟩ (fun m σ H' _ ⟨_, _, _, g, _⟩ => SqL.of g) (fun m x σ H5 hm => ?_) (fun σ H5 => ?_)⟩
        · rintro ⟨y6, rfl, F6, h3, h4⟩
          have hml : m < (Gk i).length := by rw [← h4.1]; exact (List.getElem?_eq_some_iff.mp hm).1
          have er : (Gk i)[m]? = some (Gk i)[m] := List.getElem?_eq_getElem hml
          obtain ⟨c, rfl, hc⟩ := h4.2 m _ _ hm er
          obtain ⟨rsj, hj, hj2⟩ := F6.rows (i + v.length) aj eaj
          have hjl : rsj.length < sizeLine := by
            have q1 := putK_len (F := Gk) (s := i) (w := v) (k := m) (i + v.length)
            have q2 := lenG (i + v.length)
            have q3 := lenG i
            rw [hj2.1, sizeLine_eq]
            omega
          generalize hr3 : (Gk i)[m] = r at er hc
          have rshort : r.length ≤ 7 := by
            obtain ⟨z1, z2⟩ := snd i r (List.mem_of_getElem? er)
            have z3 := rows_short G.pos z1
            rw [z2, List.length_take] at z3
            omega
          have fin : ∀ (c : Addr) (H6 : Hp), Same H5 H6 → H6 c = some (.tup (strsV (r ++ [v]))) → FamAt H (upd H6 aj (.lst (rsj ++ [.ref c]))) f0 as (putK Gk i v (m + 1)) ∧ (upd H6 aj (.lst (rsj ++ [.ref c]))) ai = some (.lst rs) ∧ RowEnts (upd H6 aj (.lst (rsj ++ [.ref c]))) rs (Gk i) := fun c H6 s6 hc6 => by
            have hj6 := s6 _ _ hj
            refine ⟨?_, by rw [upd_ne nij]; exact s6 _ _ h3, h4.keep ((Tups.of s6).trans (tups_updL hj6))⟩
            rw [putK_succ er]
            exact (F6.stay s6).app eaj hj6 (hj2.keep (.of s6)) hc6
          refine ⟨_, rfl, _, rfl, _, rfl, _, rfl, by rw [S_len, sizeLine_eq]; omega, _, _, rfl, rfl, f0, _, _, _, rfl, rfl, SqL.of F6.lst, at_of (j := i + v.length) (by rw [S_len]; omega) (refs eaj), .inl ⟨rfl, _, SqL.of hj⟩, ?_⟩
          refine ⟨_, rfl, _, rfl, by show 1 ≤ sizeLine; decide, fun g hg => ?_⟩
          have sg := same_upd (o := HO.tup [.str (S v)]) hg
          refine ⟨c, g, strsV r, [.str (S v)], rfl, rfl, SqT.of (sg _ _ hc), SqT.of upd_same, by rw [strsV_len, sizeLine_eq]; show r.length + 1 ≤ _; omega, fun e => ?_, fun _ e => (nomatch e), fun _ _ l hl => ?_⟩
          · have e0 : r = [] := by
              cases r with
              | nil => rfl
              | cons _ _ => cases e
            refine ⟨aj, rsj, _, rfl, rfl, sg _ _ hj, hjl, _, rfl, fin g _ sg ?_⟩
            rw [upd_same, e0]
            rfl
          · have sl := sg.trans (same_upd (o := HO.tup (strsV r ++ [.str (S v)])) hl)
            refine ⟨aj, rsj, _, rfl, rfl, sl _ _ hj, hjl, _, rfl, fin l _ sl ?_⟩
            rw [upd_same, strsV_app]
        · rintro ⟨y6, rfl, F6, h3, h4⟩
          refine ⟨_, _, y6, rfl, ?_⟩
          rw [hG, ← putK_all, ← h4.1]
          exact F6
      · rintro ⟨y4, y5, y6, rfl, F5⟩
        refine ⟨_, y4, y5, y6, rfl, ?_⟩
        rw [famS_succ, ← stepI_all, ← ey]
        exact F5
    · rintro ⟨y3, y4, y5, y6, rfl, F5⟩
      obtain ⟨an, ean⟩ := geta T.length (by omega)
      rw [show ((T.length : Int)).toNat = T.length by omega] at F5
      refine ⟨_, rfl, _, rfl, _, rfl, by rw [S_len, sizeLine_eq]; omega, f0, _, _, _, rfl, rfl, SqL.of F5.lst, at_of (j := T.length) (by rw [S_len]) (refs ean), ?_⟩
      exact q H3 an F5.same (F5.rows _ _ ean)
end
end K30
/-! _law_heights. -/
namespace K30
open PySem PySem.Spec PyProof.Rows L2 K30R
/-- a tuple of plain things, no longer than n -/
def T4 (H : Hp) (b : Addr) (n : Nat) : Prop := ∃ ys, H b = some (.tup ys) ∧ (∀ y ∈ ys, sc4 y) ∧ ys.length ≤ n
theorem T4.keep {H H' : Hp} {b : Addr} {n : Nat} (h : T4 H b n) (k : Tups H H') : T4 H' b n := by
  obtain ⟨ys, h1, h2⟩ := h
  exact ⟨ys, k _ _ h1, h2⟩
theorem T4.hv {H : Hp} {b : Addr} {n : Nat} (h : T4 H b n) : HV H (.ref b) := by
  obtain ⟨ys, h1, h2, _⟩ := h
  exact .tup h1 h2
theorem sc4_ints (ns : List Int) : ∀ y ∈ ns.map V.int, sc4 y := fun y hy => by
  obtain ⟨i, _, rfl⟩ := List.mem_map.mp hy
  exact True.intro
theorem T4.ints {H : Hp} {b : Addr} {ns : List Int} {n : Nat} (h : H b = some (.tup (ns.map V.int))) (hn : ns.length ≤ n) : T4 H b n := ⟨_, h, sc4_ints ns, by rw [List.length_map]; exact hn⟩
theorem T4.one {H : Hp} {g : Addr} {x : V} (hx : sc4 x) : T4 (upd H g (.tup [x])) g 1 := ⟨_, upd_same, fun y hy => by rw [List.mem_singleton.mp hy]; exact hx, Nat.le_refl 1⟩
theorem mem_cutV {xs : List V} {lo hi : Option Int} {y : V} (h : y ∈ cutV xs lo hi) : y ∈ xs := List.mem_of_mem_drop (List.mem_of_mem_take h)
theorem cutV_ints (ns : List Int) (lo hi : Option Int) : ∃ ms : List Int, cutV (ns.map V.int) lo hi = ms.map V.int ∧ ms.length ≤ ns.length := by
  refine ⟨(ns.drop (HT.sIx (ns.map V.int).length 0 lo)).take (HT.sIx (ns.map V.int).length (ns.map V.int).length hi - HT.sIx (ns.map V.int).length 0 lo), ?_, ?_⟩
  · unfold cutV
    rw [List.map_take, List.map_drop]
  · rw [List.length_take, List.length_drop]
    omega
section
variable {K : PySem.W.Frag} {H : Hp} {Q : VK}
theorem sl_T4 {a : Addr} {xs : List V} {lo hi : Option Int} {n : Nat} (h : H a = some (.tup xs)) (hx : ∀ y ∈ xs, sc4 y) (hn : xs.length ≤ n) (q : ∀ b H', Same H H' → T4 H' b n → Q (.ref b) H') : rSlA K (.ref a) lo hi H Q :=
  ⟨a, xs, rfl, SqT.of h, fun _ => q a H (Same.refl _) ⟨xs, h, hx, hn⟩, fun _ p hp => q p _ (same_upd hp) ⟨_, upd_same, fun y hy => hx y (mem_cutV hy), Nat.le_trans (cutV_length xs lo hi) hn⟩⟩
/-- a slice of a tuple of ints -/
theorem sl_TI {a : Addr} {ns : List Int} {lo hi : Option Int} (h : H a = some (.tup (ns.map V.int))) (q : ∀ b H' (ms : List Int), Same H H' → H' b = some (.tup (ms.map V.int)) → ms.length ≤ ns.length → Q (.ref b) H') : rSlA K (.ref a) lo hi H Q := by
  refine ⟨a, _, rfl, SqT.of h, fun _ => q a H ns (Same.refl _) h (Nat.le_refl _), fun _ p hp => ?_⟩
  obtain ⟨ms, e, hl⟩ := cutV_ints ns lo hi
  rw [e]
  exact q p _ ms (same_upd hp) upd_same hl
theorem sl_T4n {σ : L2.St} {a : Addr} {xs : List V} {lo : Option Int} {n : Nat} (h : H a = some (.tup xs)) (hx : ∀ y ∈ xs, sc4 y) (hn : xs.length ≤ n) (q : ∀ b H', Same H H' → T4 H' b n → Q (.ref b) H') : tNoPart σ H fun u H3 => rSlA K (.ref a) lo u H3 Q := sl_T4 h hx hn q
theorem sl_TIn {σ : L2.St} {a : Addr} {ns : List Int} {lo : Option Int} (h : H a = some (.tup (ns.map V.int))) (q : ∀ b H' (ms : List Int), Same H H' → H' b = some (.tup (ms.map V.int)) → ms.length ≤ ns.length → Q (.ref b) H') : tNoPart σ H fun u H3 => rSlA K (.ref a) lo u H3 Q := sl_TI h q
theorem cat_T4 {a b : Addr} {n m : Nat} (ha : T4 H a n) (hb : T4 H b m) (hz : n + m ≤ 1000) (q : ∀ c H', Same H H' → T4 H' c (n + m) → Q (.ref c) H') : rCatA K (.ref a) (.ref b) H Q := by
  obtain ⟨xs, h1, h2, h3⟩ := ha
  obtain ⟨ys, g1, g2, g3⟩ := hb
  refine ⟨a, b, xs, ys, rfl, rfl, SqT.of h1, SqT.of g1, by rw [sizeLine_eq]; omega, fun _ => q b H (Same.refl _) ⟨ys, g1, g2, by omega⟩, fun _ _ => q a H (Same.refl _) ⟨xs, h1, h2, by omega⟩, fun _ _ p hp => q p _ (same_upd hp) ⟨_, upd_same, fun y hy => ?_, by rw [List.length_append]; omega⟩⟩
  rcases List.mem_append.mp hy with hy | hy
  · exact h2 y hy
  · exact g2 y hy
end
theorem HV.kp {p : Addr} {H H' : Hp} {v : V} (h : HV H v) (hp : Strm H p) (k : Kp p H H') : HV H' v := by
  cases h with
  | non => exact .non
  | @lst a xs e =>
    by_cases n : a = p
    · subst n
      obtain ⟨ys, e2⟩ := k.strm.isL
      exact .lst e2
    · exact .lst (k.keep _ _ e n)
  | tup e h => exact .tup (k.tup hp e) h
def HVs (H : Hp) (xs : List V) : Prop := ∀ x ∈ xs, HV H x
theorem HVs.same {H H' : Hp} {xs : List V} (h : HVs H xs) (s : Same H H') : HVs H' xs := fun x hx => (h x hx).same s
theorem HVs.nil {H : Hp} : HVs H [] := fun x hx => absurd hx (by simp)
theorem HVs.app {H : Hp} {xs ys : List V} (h : HVs H xs) (g : HVs H ys) : HVs H (xs ++ ys) := fun x hx => by
  rcases List.mem_append.mp hx with hx | hx
  · exact h x hx
  · exact g x hx
theorem HVs.cons {H : Hp} {x : V} {xs : List V} (h : HV H x) (g : HVs H xs) : HVs H (x :: xs) := fun y hy => by
  rcases List.mem_cons.mp hy with hy | hy
  · rw [hy]
    exact h
  · exact g y hy
/-- lists and tuples stay what they are when a list is written -/
theorem HV.updL {H : Hp} {D : Addr} {xs ys : List V} {v : V} (h : HV H v) (e : H D = some (.lst xs)) : HV (upd H D (.lst ys)) v := by
  cases h with
  | non => exact .non
  | @lst a zs e2 =>
    by_cases n : a = D
    · subst n
      exact .lst upd_same
    · exact .lst (by rw [upd_ne n]; exact e2)
  | @tup a zs e2 h => exact .tup (by rw [upd_ne (ne_of e2 e fun z => nomatch z)]; exact e2) h
theorem two_ok (i : Int) : CDiv i 2 := ⟨by decide, by decide⟩
theorem odd4 {x : V} {i : Nat} (h : ([.bl true, .non, .str (Str.ofString "0"), .bl false] : List V)[i]? = some x) : sc4 x ∧ i < 4 := by
  have hi := (List.getElem?_eq_some_iff.mp h).1
  refine ⟨?_, hi⟩
  match i, h with
  | 0, h => cases h; exact True.intro
  | 1, h => cases h; exact True.intro
  | 2, h => cases h; exact True.intro
  | 3, h => cases h; exact True.intro
  | i + 4, h => exact absurd hi (by simp)
theorem at_some {xs : List V} {d : Int} (h0 : 0 ≤ d) (h1 : d < (xs.length : Int)) : ∃ v, v ∈ xs ∧ atI xs d = some v := by
  obtain ⟨j, rfl⟩ : ∃ j : Nat, d = (j : Int) := ⟨d.toNat, by omega⟩
  have hi : j < xs.length := by omega
  exact ⟨xs[j], List.getElem_mem hi, atI_nat (List.getElem?_eq_getElem hi)⟩
/-- a comprehension of drawn ints -/
def CwI (p : Addr) (H : Hp) (D : Addr) (i : Nat) (H' : Hp) : Prop := H D = none ∧ ∃ cs : List Int, cs.length = i ∧ Kp p H H' ∧ H' D = some (.lst (cs.map V.int))
theorem CwI.start {p : Addr} {H : Hp} {D : Addr} (h : Strm H p) (hD : H D = none) : CwI p H D 0 (upd H D (.lst [])) := ⟨hD, [], rfl, (Kp.refl h).updNew h hD, upd_same⟩
theorem CwI.app {p : Addr} {H H' H4 : Hp} {D : Addr} {i : Nat} {c : Int} (h : Strm H p) (w : CwI p H D i H') (k : Kp p H' H4) (hi : i < 1000) : ∃ acc, H4 D = some (.lst acc) ∧ acc.length < sizeLine ∧ CwI p H D (i + 1) (upd H4 D (.lst (acc ++ [.int c]))) := by
  obtain ⟨hD, cs, h1, h3, h4⟩ := w
  refine ⟨_, k.keep D _ h4 (h.neN hD), by rw [List.length_map, sizeLine_eq]; omega, hD, cs ++ [c], by rw [List.length_append, h1]; rfl, (h3.trans k).updNew h hD, ?_⟩
  rw [upd_same, List.map_append]
  rfl
theorem CwI.kp {p : Addr} {H H' : Hp} {D : Addr} {i : Nat} (w : CwI p H D i H') : Kp p H H' := by
  obtain ⟨_, _, _, k, _⟩ := w
  exact k
section
variable {P : Program} {w : World} {K : PySem.W.Frag} {mg : Str → Option Value} {base : Heap}
abbrev t__law_heights : Stmt := topS 40
abbrev n__law_heights : List Str := ["_law_stream_here", "_law_told", "_law_pick", "_law_at", "_law_odd", "_law_one"]
abbrev p__law_heights : List Str := ["_law_stream_here", "_law_told"]
theorem sc__law_heights : FnScope n__law_heights p__law_heights (defScope t__law_heights) := ⟨rfl, rfl, rfl, by decide +kernel, rfl, by decide +kernel, by decide +kernel⟩
def spDraw : Sp := fun vs H Q _ => ∃ (p tl : Addr) (ns : List Int), vs = [.ref p, .ref tl] ∧ Strm H p ∧ H tl = some (.tup (ns.map V.int)) ∧ 1 ≤ ns.length ∧ ns.length ≤ 100 ∧ ∀ H' v, Kp p H H' → HV H' v → Q v H'
theorem ok_law_heights (D : Df K mg "_law_heights" t__law_heights p__law_heights) (B : Blt mg) (C1 : Cal P w K mg base 1 "_law_next" spNext) : Cal P w K mg base 2 "_law_heights" spDraw := by
  refine D.ok sc__law_heights (fun vs H Q E h => ?_) (fun f cdv A outer s H vs Q E hr h => ?_)
  · obtain ⟨a, b, ns, rfl, _⟩ := h
    rfl
  · obtain ⟨p, tl, ns, rfl, hp, ht, n1, n2, q⟩ := h
    refine ⟨_, pss_cons (ps_set (i := 2) sc__law_heights.nd rfl (Or.inl rfl) (pc C1 hr (by decide) (by rfl) (pa_cons (pv 0) (pa_cons pe_int pa_nil))))
      (pss_cons (ps_set (i := 3) sc__law_heights.nd rfl (Or.inr rfl) (pc C1 hr (by decide) (by rfl) (pa_cons (pv 0) (pa_cons (pe_callB call_len (by rfl) B.len PySem.boot_len (pa_cons (pv 1) pa_nil)) pa_nil))))
      (pss_cons (ps_if (pt_cmpR op_eq (pv 2) pe_int (nomark _))
        (pss_cons (ps_setLc (i := 4) (own := [("_law_one", 5)]) (g := gName 5) rfl sc__law_heights.nd rfl rfl (sw_true rfl rfl rfl (by decide +kernel)) (pi_list (pe_lst (pa_cons pe_bl (pa_cons pe_non (pa_cons pe_str (pa_cons pe_bl pa_nil)))))) (blkOk_by (N := n__law_heights) (sc := defScope t__law_heights) (by decide +kernel)) (fun _ _ _ _ _ => pg_name (i := 5) sc__law_heights.nd rfl (Or.inl rfl)) (fun _ _ _ _ _ => pts_nil) (fun _ _ _ _ _ => (pe_op (r := rCatA K) op_catA (pe_op (r := rCatA K) op_catA (pe_slice (r := rSlA K) sl_tupA (pv 1) po_none (po_some (pv 3))) (pe_tup (pa_cons (pv 5) pa_nil))) (pe_slice (r := rSlA K) sl_tupA (pv 1) (po_some (pe_op op_add (pv 3) pe_int)) po_none))))
        (pss_one (ps_ret (pe_ix (r := rIxL K) ix_list (pe_op op_cat (pe_lst (pa_cons pe_non (pa_cons (pe_callTy call_list_of (by rfl) B.list (by decide +kernel) (pa_cons (pv 1) pa_nil)) (pa_cons (pe_op (r := rCatA K) op_catA (pv 1) (pe_tup (pa_cons pe_int pa_nil))) (pa_cons (pe_slice (r := rSlA K) sl_tupA (pv 1) po_none (po_some (pe_un un_neg pe_int))) (pa_cons (pe_op (r := rCatA K) op_catA (pe_tup (pa_cons pe_bl pa_nil)) (pe_slice (r := rSlA K) sl_tupA (pv 1) (po_some pe_int) po_none)) (pa_cons (pe_op (r := rCatA K) op_catA (pe_tup (pa_cons pe_int pa_nil)) (pe_slice (r := rSlA K) sl_tupA (pv 1) (po_some pe_int) po_none)) pa_nil))))))) (pv 4)) (pc C1 hr (by decide) (by rfl) (pa_cons (pv 0) (pa_cons pe_int pa_nil))) (fun _ _ => rfl))))) pss_nil)
      (pss_cons (ps_if (pt_cmpR op_eq (pv 2) pe_int (nomark _)) (pss_one (ps_ret (pe_op (r := rCatA K) op_catA (pe_tup (pa_cons pe_int pa_nil)) (pe_callTy call_tuple_of (by rfl) B.tuple (by decide +kernel) (pa_cons (pe_lc (own := [("_law_one", 5)]) (g := gName 5) rfl sc__law_heights.nd (pi_tup (pe_slice (r := rSlA K) sl_tupA (pv 1) (po_some pe_int) po_none)) (blkOk_by (N := n__law_heights) (sc := defScope t__law_heights) (by decide +kernel)) (fun _ _ _ _ _ => pg_name (i := 5) sc__law_heights.nd rfl (Or.inl rfl)) (fun _ _ _ _ _ => pts_nil) (fun _ _ _ _ _ => (pc C1 hr (by decide) (by rfl) (pa_cons (pv 0) (pa_cons pe_int pa_nil))))) pa_nil))))) pss_nil)
      (pss_cons (ps_if (pt_cmpR op_eq (pv 2) pe_int (nomark _)) (pss_one (ps_ret (pe_op (r := rCatA K) op_catA (pe_tup (pa_cons pe_int pa_nil)) (pe_callTy call_tuple_of (by rfl) B.tuple (by decide +kernel) (pa_cons (pe_lc (own := [("_law_one", 5)]) (g := gName 5) rfl sc__law_heights.nd (pi_tup (pe_slice (r := rSlA K) sl_tupA (pv 1) (po_some pe_int) po_none)) (blkOk_by (N := n__law_heights) (sc := defScope t__law_heights) (by decide +kernel)) (fun _ _ _ _ _ => pg_name (i := 5) sc__law_heights.nd rfl (Or.inl rfl)) (fun _ _ _ _ _ => pts_nil) (fun _ _ _ _ _ => (pe_op op_sub (pv 5) (pc C1 hr (by decide) (by rfl) (pa_cons (pv 0) (pa_cons pe_int pa_nil)))))) pa_nil))))) pss_nil)
      (pss_cons (ps_if (pt_cmpR op_eq (pv 2) pe_int (nomark _)) (pss_one (ps_ret (pe_callTy call_tuple_of (by rfl) B.tuple (by decide +kernel) (pa_cons (pe_lc (own := [("_law_one", 5)]) (g := gName 5) rfl sc__law_heights.nd (pi_tup (pv 1)) (blkOk_by (N := n__law_heights) (sc := defScope t__law_heights) (by decide +kernel)) (fun _ _ _ _ _ => pg_name (i := 5) sc__law_heights.nd rfl (Or.inl rfl)) (fun _ _ _ _ _ => pts_nil) (fun _ _ _ _ _ => (pe_op op_fdiv (pv 5) pe_int))) pa_nil)))) pss_nil)
      (pss_one (ps_ret (pe_op (r := rCatA K) op_catA (pe_op (r := rCatA K) op_catA (pe_slice (r := rSlA K) sl_tupA (pv 1) po_none (po_some (pv 3))) (pe_tup (pa_cons (pe_op op_sub (pe_op op_add (pe_ix (r := rIxT K) ix_tup (pv 1) (pv 3) (fun _ _ => rfl)) (pc C1 hr (by decide) (by rfl) (pa_cons (pv 0) (pa_cons pe_int pa_nil)))) pe_int) pa_nil))) (pe_slice (r := rSlA K) sl_tupA (pv 1) (po_some (pe_op op_add (pv 3) pe_int)) po_none))))))))), ?_⟩
    -- pick, at
    refine ⟨_, rfl, p, 6, rfl, by decide, by decide, hp, fun dp H1 p0 p1 k1 => ?_⟩
    have ht1 := k1.tup hp ht
    refine ⟨_, rfl, _, rfl, _, _, rfl, .inr ⟨_, SqT.of ht1, rfl⟩, p, _, rfl, by rw [List.length_map]; omega, by rw [List.length_map]; omega, k1.strm, fun da H2 a0 a1 k2 => ?_⟩
    rw [List.length_map] at a1
    have ht2 := k2.tup k1.strm ht1
    have k12 := k1.trans k2
    have hp2 := k2.strm
    have q2 : ∀ H' v, Kp p H2 H' → HV H' v → Q v H' := fun H' v k h => q H' v (k12.trans k) h
    have h4 := sc4_ints ns
    have ln : (ns.map V.int).length ≤ 100 := by rw [List.length_map]; exact n2
    clear k1 ht1 k2 hp ht k12 q
    have n1s : 1 ≤ sizeLine := by decide
    -- pick == 0
    refine ⟨_, rfl, rfl, _, rfl, ite2 (fun _ => ?_) (fun _ => ?_)⟩
    · refine ⟨by show 4 ≤ sizeLine; decide, fun g hg => ⟨g, rfl, ⟨_, SqL.of upd_same⟩, fun D hD => ?_⟩⟩
      have s3 := same_upd (o := HO.lst [.bl true, .non, .str (Str.ofString "0"), .bl false]) hg
      have hg3 : (upd H2 g (.lst [.bl true, .non, .str (Str.ofString "0"), .bl false])) g = some (.lst [.bl true, .non, .str (Str.ofString "0"), .bl false]) := upd_same
      generalize upd H2 g (.lst [.bl true, .non, .str (Str.ofString "0"), .bl false]) = H3 at s3 hD hg3
      refine lc_list (xs := [.bl true, .non, .str (Str.ofString "0"), .bl false]) (fun i H' => ∃ ys, Cw H3 D ys H' ∧ ys.length = i ∧ HVs H' ys) ⟨[], Cw.start hD, rfl, HVs.nil⟩ (fun i H' _ ⟨_, c, _, _⟩ => SqL.of (c.2.1 _ _ hg3)) (fun i x H4 hx c => ?_) (fun H4 c => ?_)
      · obtain ⟨ys, c, cl, hv⟩ := c
        obtain ⟨hx4, hi4⟩ := odd4 hx
        have ht4 := c.2.1 _ _ (s3 _ _ ht2)
        refine ⟨rfl, tt_yes2 ?_⟩
        refine ⟨_, rfl, _, rfl, _, rfl, sl_T4 ht4 h4 ln fun b1 H5 s5 t5 => ?_⟩
        refine ⟨_, rfl, n1s, fun g2 hg2 => cat_T4 (t5.keep (.of (same_upd hg2))) (T4.one hx4) (by decide) fun b2 H6 s6 t6 => ?_⟩
        have s46 : Same H4 H6 := (s5.trans (same_upd hg2)).trans s6
        refine ⟨_, rfl, _, rfl, _, _, rfl, rfl, _, rfl, sl_T4n (s46 _ _ ht4) h4 ln fun b3 H7 s7 t7 => ?_⟩
        refine cat_T4 (t6.keep (.of s7)) t7 (by decide) fun b4 H8 s8 t8 => ?_
        have s48 := (s46.trans s7).trans s8
        obtain ⟨acc, d1, d2, d3⟩ := c.app (acc' := ys ++ [.ref b4]) (y := .ref b4) s48 (by omega) rfl
        refine ⟨acc, d1, d2, _, d3, by rw [List.length_append, cl]; rfl, fun y hy => HV.updL ?_ d1⟩
        rcases List.mem_append.mp hy with hy | hy
        · exact (hv y hy).same s48
        · rw [List.mem_singleton.mp hy]
          exact t8.hv
      · obtain ⟨ys, c, cl, hv⟩ := c
        have s24 : Same H2 H4 := s3.trans c.2.1
        have hD4 : H4 D = some (.lst ys) := c.2.2
        have ht4 := s24 _ _ ht2
        clear c s3 hD hg3
        -- the ten
        refine ⟨_, rfl, tl, _, rfl, .inr (SqT.of ht4), fun l hl => ?_⟩
        have s5 := same_upd (o := HO.lst (ns.map V.int)) hl
        have hl5 : (upd H4 l (.lst (ns.map V.int))) l = some (.lst (ns.map V.int)) := upd_same
        generalize upd H4 l (.lst (ns.map V.int)) = H5 at s5 hl5
        refine ⟨_, rfl, n1s, fun g1 hg1 => cat_T4 (T4.ints ((s5.trans (same_upd hg1)) _ _ ht4) n2) (T4.one True.intro) (by decide) fun b3 H6 s6 t3 => ?_⟩
        have s46 : Same H4 H6 := (s5.trans (same_upd hg1)).trans s6
        have s56 : Same H5 H6 := (same_upd hg1).trans s6
        refine ⟨_, rfl, _, rfl, _, rfl, sl_T4 (s46 _ _ ht4) h4 ln fun b4 H7 s7 t4 => ?_⟩
        refine ⟨n1s, fun g2 hg2 => ?_⟩
        have o1 : T4 (upd H7 g2 (.tup [.bl false])) g2 1 := T4.one True.intro
        have s7b := same_upd (o := HO.tup [.bl false]) hg2
        generalize upd H7 g2 (.tup [.bl false]) = H7b at o1 s7b
        have s47 : Same H4 H7b := (s46.trans s7).trans s7b
        refine ⟨_, rfl, _, rfl, sl_T4n (s47 _ _ ht4) h4 ln fun b5 H8 s8 t5 => cat_T4 (o1.keep (.of s8)) t5 (by decide) fun b6 H9 s9 t6 => ?_⟩
        have s49 : Same H4 H9 := (s47.trans s8).trans s9
        have s79 : Same H7 H9 := (s7b.trans s8).trans s9
        refine ⟨n1s, fun g3 hg3 => ?_⟩
        have o2 : T4 (upd H9 g3 (.tup [.int 1])) g3 1 := T4.one True.intro
        have s9b := same_upd (o := HO.tup [.int 1]) hg3
        generalize upd H9 g3 (.tup [.int 1]) = H9b at o2 s9b
        have s49b : Same H4 H9b := s49.trans s9b
        refine ⟨_, rfl, _, rfl, sl_T4n (s49b _ _ ht4) h4 ln fun b7 H10 s10 t7 => cat_T4 (o2.keep (.of s10)) t7 (by decide) fun b8 H11 s11 t8 => ?_⟩
        have s9c : Same H9 H11 := (s9b.trans s10).trans s11
        have s4c : Same H4 H11 := s49.trans s9c
        have s7c : Same H7 H11 := s79.trans s9c
        have s5c : Same H5 H11 := (s56.trans s7).trans s7c
        have six : HVs H11 [.non, .ref l, .ref b3, .ref b4, .ref b6, .ref b8] :=
          HVs.cons .non (HVs.cons (.lst (s5c _ _ hl5)) (HVs.cons ((t3.keep (.of (s7.trans s7c))).hv) (HVs.cons ((t4.keep (.of s7c)).hv) (HVs.cons ((t6.keep (.of s9c)).hv) (HVs.cons t8.hv HVs.nil)))))
        refine ⟨by show 6 ≤ sizeLine; decide, fun m hm => ?_⟩
        refine ⟨_, rfl, m, D, _, ys, rfl, rfl, upd_same, (same_upd hm) _ _ (s4c _ _ hD4), by rw [cl]; show 6 + 4 ≤ sizeLine; decide, fun r hr => ?_⟩
        have sm := (same_upd (o := HO.lst [.non, .ref l, .ref b3, .ref b4, .ref b6, .ref b8]) hm).trans (same_upd (o := HO.lst ([.non, .ref l, .ref b3, .ref b4, .ref b6, .ref b8] ++ ys)) hr)
        have hr1 : (upd (upd H11 m (.lst [.non, .ref l, .ref b3, .ref b4, .ref b6, .ref b8])) r (.lst ([.non, .ref l, .ref b3, .ref b4, .ref b6, .ref b8] ++ ys))) r = some (.lst ([.non, .ref l, .ref b3, .ref b4, .ref b6, .ref b8] ++ ys)) := upd_same
        have hr0 : H11 r = none := (same_upd hm).free hr
        generalize upd (upd H11 m (.lst [.non, .ref l, .ref b3, .ref b4, .ref b6, .ref b8])) r (.lst ([.non, .ref l, .ref b3, .ref b4, .ref b6, .ref b8] ++ ys)) = H12 at sm hr1
        have s2c : Same H2 H12 := (s24.trans s4c).trans sm
        have ten : HVs H12 ([.non, .ref l, .ref b3, .ref b4, .ref b6, .ref b8] ++ ys) := (six.app (hv.same s4c)).same sm
        have hp12 := hp2.same s2c
        have rp : r ≠ p := (hp2.same (s24.trans s4c)).neN hr0
        refine ⟨_, rfl, p, 10, rfl, by decide, by decide, hp12, fun d H13 d0 d1 k13 => ?_⟩
        obtain ⟨v, hv1, hv2⟩ := at_some (xs := [.non, .ref l, .ref b3, .ref b4, .ref b6, .ref b8] ++ ys) d0 (by rw [List.length_append, cl]; exact d1)
        exact ⟨r, _, d, v, rfl, rfl, SqL.of (k13.keep _ _ hr1 rp), hv2, q2 H13 v ((Kp.of hp2 s2c).trans k13) ((ten v hv1).kp hp12 k13)⟩
    -- pick == 1
    refine ⟨_, rfl, rfl, _, rfl, ite2 (fun _ => ?_) (fun _ => ?_)⟩
    · refine ⟨n1s, fun g hg => ?_⟩
      have o1 : T4 (upd H2 g (.tup [.int 0])) g 1 := T4.one True.intro
      have s3 := same_upd (o := HO.tup [.int 0]) hg
      generalize upd H2 g (.tup [.int 0]) = H3 at o1 s3
      refine ⟨_, rfl, _, rfl, sl_TIn (s3 _ _ ht2) fun b H4 ms s4 e4 l4 => ?_⟩
      have s24 := s3.trans s4
      have hp4 := hp2.same s24
      refine ⟨b, rfl, ⟨_, SqT.of e4⟩, fun D hD => lc_tup (xs := ms.map V.int) (fun i H' => CwI p H4 D i H') (CwI.start hp4 hD) (fun i H' _ c => SqT.of (c.kp.tup hp4 e4)) (fun i x H5 hx c => ?_) (fun H5 c => ?_)⟩
      · have hi := (List.getElem?_eq_some_iff.mp hx).1
        rw [List.length_map] at hi
        refine ⟨rfl, tt_yes2 ?_⟩
        exact ⟨_, rfl, p, 5, rfl, by decide, by decide, c.kp.strm, fun d H6 d0 d1 k6 => c.app hp4 k6 (by omega)⟩
      · obtain ⟨_, cs, c1, k5, c4⟩ := c
        rw [List.length_map] at c1
        refine ⟨D, _, rfl, .inl ⟨SqL.of c4, fun t htn => ?_⟩⟩
        refine cat_T4 (((o1.keep (.of s4)).keep (k5.tups hp4)).keep (.of (same_upd htn))) (T4.ints (n := 100) upd_same (by omega)) (by decide) fun c H7 s7 t7 => ?_
        exact q2 H7 _ ((((Kp.of hp2 s24).trans k5).same (same_upd htn)).same s7) t7.hv
    -- pick == 2
    refine ⟨_, rfl, rfl, _, rfl, ite2 (fun _ => ?_) (fun _ => ?_)⟩
    · refine ⟨n1s, fun g hg => ?_⟩
      have o1 : T4 (upd H2 g (.tup [.int 0])) g 1 := T4.one True.intro
      have s3 := same_upd (o := HO.tup [.int 0]) hg
      generalize upd H2 g (.tup [.int 0]) = H3 at o1 s3
      refine ⟨_, rfl, _, rfl, sl_TIn (s3 _ _ ht2) fun b H4 ms s4 e4 l4 => ?_⟩
      have s24 := s3.trans s4
      have hp4 := hp2.same s24
      refine ⟨b, rfl, ⟨_, SqT.of e4⟩, fun D hD => lc_tup (xs := ms.map V.int) (fun i H' => CwI p H4 D i H') (CwI.start hp4 hD) (fun i H' _ c => SqT.of (c.kp.tup hp4 e4)) (fun i x H5 hx c => ?_) (fun H5 c => ?_)⟩
      · have hi := (List.getElem?_eq_some_iff.mp hx).1
        rw [List.length_map] at hi
        rw [mapI_get hi] at hx
        cases hx
        refine ⟨rfl, tt_yes2 ?_⟩
        exact ⟨_, rfl, _, rfl, p, 3, rfl, by decide, by decide, c.kp.strm, fun d H6 d0 d1 k6 => ⟨_, _, rfl, rfl, c.app hp4 k6 (by omega)⟩⟩
      · obtain ⟨_, cs, c1, k5, c4⟩ := c
        rw [List.length_map] at c1
        refine ⟨D, _, rfl, .inl ⟨SqL.of c4, fun t htn => ?_⟩⟩
        refine cat_T4 (((o1.keep (.of s4)).keep (k5.tups hp4)).keep (.of (same_upd htn))) (T4.ints (n := 100) upd_same (by omega)) (by decide) fun c H7 s7 t7 => ?_
        exact q2 H7 _ ((((Kp.of hp2 s24).trans k5).same (same_upd htn)).same s7) t7.hv
    -- pick == 3
    refine ⟨_, rfl, rfl, _, rfl, ite2 (fun _ => ?_) (fun _ => ?_)⟩
    · refine ⟨_, rfl, tl, rfl, ⟨_, SqT.of ht2⟩, fun D hD => lc_tup (xs := ns.map V.int) (fun i H' => ∃ cs : List Int, cs.length = i ∧ Cw H2 D (cs.map V.int) H') ⟨[], rfl, Cw.start hD⟩ (fun i H' _ ⟨_, _, c⟩ => SqT.of (c.2.1 _ _ ht2)) (fun i x H3 hx c => ?_) (fun H3 c => ?_)⟩
      · have hi := (List.getElem?_eq_some_iff.mp hx).1
        rw [List.length_map] at hi
        rw [mapI_get hi] at hx
        cases hx
        obtain ⟨cs, cl, c⟩ := c
        refine ⟨rfl, tt_yes2 ?_⟩
        refine ⟨_, rfl, _, _, rfl, rfl, two_ok _, ?_⟩
        obtain ⟨acc, d1, d2, d3⟩ := c.app (acc' := (cs ++ [ns.getD i 0 / 2]).map V.int) (y := .int (ns.getD i 0 / 2)) (Same.refl _) (by rw [List.length_map]; omega) (by rw [List.map_append]; rfl)
        exact ⟨acc, d1, d2, _, by rw [List.length_append, cl]; rfl, d3⟩
      · obtain ⟨cs, cl, c⟩ := c
        rw [List.length_map] at cl
        refine ⟨D, _, rfl, .inl ⟨SqL.of c.2.2, fun t htn => ?_⟩⟩
        exact q2 _ _ (Kp.of hp2 (c.2.1.trans (same_upd htn))) (T4.ints (n := 100) upd_same (by omega)).hv
    -- the last
    refine ⟨_, rfl, _, rfl, _, rfl, sl_T4 ht2 h4 ln fun b1 H3 s3 t1 => ?_⟩
    have ht3 := s3 _ _ ht2
    have hi : da.toNat < ns.length := by omega
    refine ⟨_, rfl, _, rfl, tl, _, _, _, rfl, rfl, SqT.of ht3, at_of (j := da.toNat) (by omega) (mapI_get hi), ?_⟩
    refine ⟨_, rfl, p, 5, rfl, by decide, by decide, hp2.same s3, fun d H4 d0 d1 k4 => ⟨_, _, rfl, rfl, _, _, rfl, rfl, n1s, fun g hg => ?_⟩⟩
    have hp3 := hp2.same s3
    have t1' := t1.keep (k4.tups hp3)
    have ht4 := k4.tup hp3 ht3
    refine cat_T4 (t1'.keep (.of (same_upd hg))) (T4.one True.intro) (by decide) fun b2 H5 s5 t5 => ?_
    have s45 : Same H4 H5 := (same_upd hg).trans s5
    refine ⟨_, rfl, _, rfl, _, _, rfl, rfl, _, rfl, sl_T4n (s45 _ _ ht4) h4 ln fun b3 H6 s6 t6 => ?_⟩
    refine cat_T4 (t5.keep (.of s6)) t6 (by decide) fun b4 H7 s7 t7 => ?_
    exact q2 H7 _ ((((Kp.of hp2 s3).trans k4).same s45).same (s6.trans s7)) t7.hv
end
end K30
/-! law. -/
namespace K30
open PySem PySem.Spec PyProof.Rows L2 K30R
theorem abc_str : (Str.ofString "abc") = S [97, 98, 99] := by decide +kernel
theorem abc {d : Int} (h0 : 0 ≤ d) (h1 : d < 3) : ∃ L, LetOk L ∧ cutS (Str.ofString "abc") none (some (1 + d)) = S L := by
  have h : d = 0 ∨ d = 1 ∨ d = 2 := by omega
  rw [abc_str]
  rcases h with rfl | rfl | rfl
  · exact ⟨[97], ⟨by decide, by decide, by decide, by decide⟩, cut_is [97, 98, 99] 1⟩
  · exact ⟨[97, 98], ⟨by decide, by decide, by decide, by decide⟩, cut_is [97, 98, 99] 2⟩
  · exact ⟨[97, 98, 99], ⟨by decide, by decide, by decide, by decide⟩, cut_is [97, 98, 99] 3⟩
theorem Cw.appB {H H' H4 : Hp} {D : Addr} {acc acc' : List V} {y : V} (c : Cw H D acc H') (s : Same H' H4) (hl : acc.length < sizeLine) (e : acc' = acc ++ [y]) :
    ∃ a, H4 D = some (.lst a) ∧ a.length < sizeLine ∧ Cw H D acc' (upd H4 D (.lst (a ++ [y]))) := by
  obtain ⟨h1, h2, h3⟩ := c
  refine ⟨acc, s _ _ h3, hl, h1, same_upd2 (h2.trans s) h1, ?_⟩
  rw [upd_same, e]
section
variable {P : Program} {w : World} {K : PySem.W.Frag} {mg : Str → Option Value} {base : Heap}
abbrev t_law : Stmt := topS 41
abbrev n_law : List Str := ["_law_script", "_law_stream_here", "_law_letters", "_law_words_here", "_law_text_here", "_law_told", "_law_least", "_law_turn", "_law_heights_here", "_law_actual", "_law_row"]
abbrev p_law : List Str := ["_law_script"]
theorem sc_law : FnScope n_law p_law (defScope t_law) := ⟨rfl, rfl, rfl, by decide +kernel, rfl, by decide +kernel, by decide +kernel⟩
def spLaw (K : PySem.W.Frag) : Sp := fun vs H Q _ => ∃ (a : Addr) (ns : List Int), vs = [.ref a] ∧ SqL K H a (ns.map V.int) ∧ ∀ H', Q (.bl true) H'
theorem ok_law {f : Addr} {fd : FuncData} (F : Fun K "law" "law" t_law f fd) (B : Blt mg) (C1 : Cal P w K mg base 1 "_law_stream" (spStream K)) (C2 : Cal P w K mg base 1 "_law_next" spNext) (C3 : Cal P w K mg base 2 "_law_words" spWords) (C4 : Cal P w K mg base 2 "_law_text" spText)
    (C5 : Cal P w K mg base 7 "costs_of" spCostsOf) (C6 : Cal P w K mg base 7 "accepts_heights" spHeights) (C7 : Cal P w K mg base 1 "_law_cost" spCost) (C8 : Cal P w K mg base 1 "_law_cuts" spCuts) (C9 : Cal P w K mg base 7 "least_cost" spLeast)
    (C10 : Cal P w K mg base 2 "_law_heights" spDraw) (C11 : Cal P w K mg base 2 "_law_are_heights" spHeights) : FnOk P w K mg base CX0 8 f fd p_law (spLaw K) := by
  refine F.ok sc_law (fun vs H Q E h => ?_) (fun cdv A outer s H vs Q E hr h => ?_)
  · obtain ⟨a, ns, rfl, _⟩ := h
    rfl
  · obtain ⟨sa, si, rfl, hS, q⟩ := h
    refine ⟨_, pss_cons (ps_set (i := 1) sc_law.nd rfl (Or.inl rfl) (pc C1 hr (by decide) (by rfl) (pa_cons (pv 0) pa_nil)))
      (pss_cons (ps_set (i := 2) sc_law.nd rfl (Or.inl rfl) (pe_slice sl_str pe_str po_none (po_some (pe_op op_add pe_int (pc C2 hr (by decide) (by rfl) (pa_cons (pv 1) (pa_cons pe_int pa_nil)))))))
      (pss_cons (ps_set (i := 3) sc_law.nd rfl (Or.inr rfl) (pc C3 hr (by decide) (by rfl) (pa_cons (pv 1) (pa_cons (pv 2) (pa_cons pe_int pa_nil)))))
      (pss_cons (ps_set (i := 4) sc_law.nd rfl (Or.inl rfl) (pc C4 hr (by decide) (by rfl) (pa_cons (pv 1) (pa_cons (pv 2) (pa_cons pe_int pa_nil)))))
      (pss_cons (ps_set (i := 5) sc_law.nd rfl (Or.inl rfl) (pc C5 hr (by decide) (by rfl) (pa_cons (pv 3) (pa_cons (pv 4) pa_nil))))
      (pss_cons (ps_if (pt_cmpR op_isnot_bl (pc C6 hr (by decide) (by rfl) (pa_cons (pv 3) (pa_cons (pv 4) (pa_cons (pv 5) pa_nil)))) pe_bl (nomark _)) (pss_one (ps_ret pe_bl)) pss_nil)
      (pss_cons (ps_set (i := 6) sc_law.nd rfl (Or.inl rfl) (pe_callB (cr_min rfl) (by rfl) B.min (by decide +kernel) (pa_cons (pe_lc (own := [("_law_row", 10)]) (g := gName 10) rfl sc_law.nd (pi_list (pc C8 hr (by decide) (by rfl) (pa_cons (pv 3) (pa_cons (pv 4) pa_nil)))) (blkOk_by (N := n_law) (sc := defScope t_law) (by decide +kernel)) (fun _ _ _ _ _ => pg_name (i := 10) sc_law.nd rfl (Or.inl rfl)) (fun _ _ _ _ _ => pts_nil) (fun _ _ _ _ _ => (pc C7 hr (by decide) (by rfl) (pa_cons (pv 3) (pa_cons (pv 10) pa_nil))))) pa_nil)))
      (pss_cons (ps_if (PW.pt (pw_or (pt_cmpR op_ne (pe_ix (r := rIxT K) ix_tup (pv 5) (pe_un un_neg pe_int) (fun _ _ => rfl)) (pv 6) (nomark _)) (pw_or1 (pt_cmpR op_ne (pc C9 hr (by decide) (by rfl) (pa_cons (pv 3) (pa_cons (pv 4) pa_nil))) (pv 6) (nomark _))))) (pss_one (ps_ret pe_bl)) pss_nil)
      (pss_cons (ps_for PassesOwn.never rfl (pi_range1 rfl B.range (pa_cons pe_int pa_nil)) (pg_name (i := 7) sc_law.nd rfl (Or.inl rfl)) (pss_cons (ps_set (i := 8) sc_law.nd rfl (Or.inl rfl) (pc C10 hr (by decide) (by rfl) (pa_cons (pv 1) (pa_cons (pv 5) pa_nil))))
          (pss_cons (ps_set (i := 9) sc_law.nd rfl (Or.inl rfl) (pc C6 hr (by decide) (by rfl) (pa_cons (pv 3) (pa_cons (pv 4) (pa_cons (pv 8) pa_nil)))))
          (pss_cons (ps_if (PW.pt (pw_or (pt_not (pt_val (pe_callB call_isi (by rfl) B.isinstance (by decide +kernel) (pa_cons (pv 9) (pa_cons (pe_bltn (v := .ty "bool") (by rfl) B.bool (by decide +kernel) rfl) pa_nil))))) (pw_or1 (pt_cmpR op_ne (pv 9) (pc C11 hr (by decide) (by rfl) (pa_cons (pv 3) (pa_cons (pv 4) (pa_cons (pv 8) pa_nil)))) (nomark _))))) (pss_one (ps_ret pe_bl)) pss_nil)
          (pss_one (ps_if (PW.pt (pw_and (pt_val (pv 9)) (pw_and1 (pt_cmpR op_gt (pe_ix (r := rIxT K) ix_tup (pv 8) (pe_un un_neg pe_int) (fun _ _ => rfl)) (pv 6) (nomark _))))) (pss_one (ps_ret pe_bl)) pss_nil))))))
      (pss_one (ps_ret pe_bl)))))))))), ?_⟩
    -- the stream, the letters
    refine ⟨_, rfl, sa, si, rfl, hS, fun H1 p s1 _ hp1 => ?_⟩
    refine ⟨_, rfl, p, 3, rfl, by decide, by decide, hp1, fun d H2 d0 d1 k2 => ⟨_, _, rfl, rfl, _, rfl, _, rfl, by decide +kernel, ?_⟩⟩
    obtain ⟨L, hL, eL⟩ := abc d0 d1
    rw [eL]
    have hp2 := k2.strm
    -- words, text
    refine ⟨_, rfl, _, rfl, p, L, rfl, hp2, hL, fun H3 t W k3 hW3 G hasL => ?_⟩
    have hp3 := k3.strm
    refine ⟨_, rfl, _, rfl, p, L, rfl, hp3, hL, fun H4 T k4 hT hTL => ?_⟩
    have hp4 := k4.strm
    have hW4 := hW3.keep (k4.tups hp3)
    have GT : GoodT W T := ⟨hT, fun x hx => hasL x (hTL x hx)⟩
    have GG := G.good GT
    clear k2 k3 k4 hp1 hp2 hp3 s1 hW3
    -- told
    refine ⟨_, rfl, _, rfl, t, W, T, rfl, hW4, G, GT, fun H5 tl ns s5 htl A1 => ?_⟩
    have hp5 := hp4.same s5
    have hW5 := hW4.same s5
    have nl : ns.length = T.length + 1 := A1.len
    have tv : HV H5 (.ref tl) := .tup htl (sc4_ints ns)
    clear hp4 hW4 s5
    -- accepts_heights(.., told) is not True
    refine ⟨_, rfl, _, rfl, _, rfl, t, W, T, _, rfl, hW5, G, GT, tv, fun H6 b s6 e6 => ?_⟩
    have hb : b = true := e6.mpr ⟨tl, ns, rfl, htl, A1.right G.pos⟩
    subst hb
    refine ⟨true, true, rfl, rfl, false, rfl, iteF ?_⟩
    have hp6 := hp5.same s6
    have hW6 := hW5.same s6
    have htl6 := s6 _ _ htl
    -- least = min([..])
    refine ⟨_, rfl, _, rfl, t, W, T, rfl, hW6, G, GT, fun H7 c s7 hrows => ?_⟩
    obtain ⟨rs, hc, hre⟩ := hrows
    have snd : ∀ r, r ∈ famS W T T.length T.length → InW W r ∧ r.flatten = T.take T.length := fun r h => sound_famS T.length (Nat.le_refl _) _ r h
    have hlen := famS_len (T := T) G.pos G.most T.length T.length
    have hne := rows_ne GG
    have hleast := fun (ns' : List Int) (b' m' : Int) (A' : Ahead W T T.length ns') (hb' : ns'[T.length]? = some b') => least_is (m := m') GG A' hb'
    have hp9 : 9 ^ T.length ≤ 4782969 := Nat.pow_le_pow_right (n := 9) (by omega) hT
    generalize famS W T T.length T.length = rows at hre snd hlen hne hleast
    refine ⟨c, rfl, ⟨_, SqL.of hc⟩, fun D hD => lc_list (xs := rs) (fun i H' => Cw H7 D (((rows.take i).map (costR W)).map V.int) H') (Cw.start hD) (fun i H' _ cw => SqL.of (cw.2.1 _ _ hc)) (fun i x H8 hx cw => ?_) (fun H8 cw => ?_)⟩
    · have hi : i < rows.length := by
        rw [← hre.1]
        exact (List.getElem?_eq_some_iff.mp hx).1
      have er : rows[i]? = some rows[i] := List.getElem?_eq_getElem hi
      obtain ⟨b, rfl, hb⟩ := hre.2 i x _ hx er
      obtain ⟨z1, _⟩ := snd _ (List.getElem_mem hi)
      refine ⟨rfl, tt_yes2 ?_⟩
      refine ⟨_, rfl, _, rfl, t, b, W, rows[i], rfl, (hW6.same s7).same cw.2.1, G, cw.2.1 _ _ hb, z1, fun H9 s9 => ?_⟩
      refine cw.appB s9 ?_ (by rw [take_map_succ er, List.map_append]; rfl)
      rw [List.length_map, List.length_map, List.length_take, sizeLine_eq]
      omega
    rw [hre.1, List.take_length] at cw
    have s78 : Same H6 H8 := s7.trans cw.2.1
    refine ⟨D, _, rfl, SqL.of cw.2.2, by rw [List.length_map]; exact List.length_pos_iff.mpr hne, fun m hm hle => ?_⟩
    clear cw hre hc
    have hp8 := hp6.same s78
    have hW8 := hW6.same s78
    have htl8 := s78 _ _ htl6
    obtain ⟨bl, hbl⟩ := get_lt (ns := ns) (i := T.length) (by omega)
    have ebl : bl = m := hleast ns bl m A1 hbl hm hle
    subst ebl
    -- told[-1] != least or least_cost(..) != least
    refine ⟨_, rfl, _, rfl, tl, _, _, _, rfl, rfl, SqT.of htl8, atI_end (n := T.length) (by rw [List.length_map, nl]) (mapI_some hbl), _, rfl, rfl, _, rfl, ?_⟩
    rw [decide_eq_true rfl]
    refine iteF ?_
    refine ⟨_, rfl, _, rfl, t, W, T, rfl, hW8, G, GT, fun H9 ns2 b2 s9 A2 hb2 => ?_⟩
    have eb2 : b2 = bl := hleast ns2 b2 bl A2 hb2 hm hle
    subst eb2
    refine ⟨_, rfl, rfl, _, rfl, ?_⟩
    rw [decide_eq_true rfl]
    refine iteF ?_
    have hp9' := hp8.same s9
    have hW9 := hW8.same s9
    have htl9 := s9 _ _ htl8
    -- the four turns
    refine ⟨4, rfl, by decide, by decide, for_range (fun i σ H' => ∃ y7 y8 y9, σ = [some (.ref sa), some (.ref p), some (.str (S L)), some (.ref t), some (.str (S T)), some (.ref tl), some (.int b2), y7, y8, y9, none] ∧ Strm H' p ∧ WordsAt H' t W ∧ H' tl = some (.tup (ns.map V.int)))
      ⟨none, none, none, rfl, hp9', hW9, htl9⟩ (fun i σ Ha hi => ?_) (fun σ Ha => ?_)⟩
    · rintro ⟨y7, y8, y9, rfl, hpa, hWa, htla⟩
      refine ⟨_, rfl, _, rfl, p, tl, ns, rfl, hpa, htla, by omega, by omega, fun Hb v kb hv => ?_⟩
      have hpb := kb.strm
      have hWb := hWa.keep (kb.tups hpa)
      have htlb := kb.tup hpa htla
      refine ⟨_, rfl, _, rfl, _, rfl, t, W, T, v, rfl, hWb, G, GT, hv, fun Hc b3 sc e3 => ?_⟩
      refine ⟨_, rfl, _, _, _, _, true, rfl, .ty _, .base (.bl _), kit_ty (by decide +kernel), true, rfl, iteF ?_⟩
      refine ⟨_, rfl, _, rfl, _, rfl, _, rfl, t, W, T, v, rfl, hWb.same sc, G, GT, hv.same sc, fun Hd b4 sd e4 => ?_⟩
      have e34 : b3 = b4 := by
        have e5 := e3.trans ((RightV.same hv sc).symm.trans e4.symm)
        exact Bool.eq_iff_iff.mpr e5
      subst e34
      refine ⟨rfl, _, rfl, ?_⟩
      rw [decide_eq_true rfl]
      refine iteF ?_
      have sbd := sc.trans sd
      have fin : ∃ y7' y8' y9', [some (V.ref sa), some (.ref p), some (.str (S L)), some (.ref t), some (.str (S T)), some (.ref tl), some (.int b2), some (.int (0 + (i : Int))), some v, some (.bl b3), none] = [some (V.ref sa), some (.ref p), some (.str (S L)), some (.ref t), some (.str (S T)), some (.ref tl), some (.int b2), y7', y8', y9', none] ∧ Strm Hd p ∧ WordsAt Hd t W ∧ Hd tl = some (.tup (ns.map V.int)) := ⟨_, _, _, rfl, hpb.same sbd, hWb.same sbd, sbd _ _ htlb⟩
      refine ⟨_, rfl, _, rfl, ?_⟩
      cases b3 with
      | false => exact iteF (iteF fin)
      | true =>
        refine iteT ?_
        obtain ⟨va, ms, rfl, hms, R⟩ := e3.mp rfl
        obtain ⟨z, hz⟩ := get_lt (ns := ms) (i := T.length) (by rw [R.len]; omega)
        have hzle := accepted_le GG A1 hbl R hz
        refine ⟨_, rfl, _, rfl, va, _, _, _, rfl, rfl, SqT.of (sbd _ _ hms), atI_end (n := T.length) (by rw [List.length_map, R.len]) (mapI_some hz), _, rfl, _, _, rfl, rfl, _, rfl, ?_⟩
        rw [decide_eq_false (show ¬ b2 < z by omega)]
        exact iteF fin
    · rintro ⟨y7, y8, y9, rfl, hpa, hWa, htla⟩
      exact q Ha
end
end K30
/-! What the top has written: the defs, the built-in names; the law's own def. -/
namespace K30
open PySem PySem.Spec PyProof.Rows L2 K30R
theorem df_mk {K : PySem.W.Frag} {mg : Str → Option Value} {h : Heap} {x : Str} {st : Stmt} {ps : List Str} {f : Addr} {oc : Value} {od an : Option Addr} {osl : Array (Option Value)} {kV doc pm cdv ct : Value} (X : K.In h) (G : h.Ns mainGlobals mg)
    (a : PySem.W.nsIn K mainGlobals x = some (some (.ref f))) (l : K.lookup f = some ⟨oc, od, .func (PySem.W.fnOf x x (defArgs st) (defBody st) (defScope st) .none kV doc pm an cdv ct), osl⟩) (c : PySem.W.codeIn K cdv x = true) (k : PySem.W.keepIn K (.ref f) = true)
    (hb : ∀ (kV doc pm : Value) (an : Option Addr) (cdv ct : Value) (us : List Value), us.length = ps.length → bindArgs (PySem.W.fnOf x x (defArgs st) (defBody st) (defScope st) .none kV doc pm an cdv ct) ⟨us, []⟩ = pure (ps.zip us)) : Df K mg x st ps :=
  ⟨f, _, fun_mk l c k, PySem.W.mg_of X G a, (fun_mk l c k).binds hb⟩
theorem blt_mk {K : PySem.W.Frag} {mg : Str → Option Value} {h : Heap} {t1 t2 t3 t4 t5 : Tok} (X : K.In h) (G : h.Ns mainGlobals mg)
    (z1 : PySem.W.nsIn K mainGlobals "isinstance" = some none) (z2 : PySem.W.nsIn K mainGlobals "int" = some none) (z3 : PySem.W.nsIn K mainGlobals "bool" = some none) (z4 : PySem.W.nsIn K mainGlobals "str" = some none)
    (z5 : PySem.W.nsIn K mainGlobals "tuple" = some none) (z6 : PySem.W.nsIn K mainGlobals "list" = some none) (z7 : PySem.W.nsIn K mainGlobals "len" = some none) (z8 : PySem.W.nsIn K mainGlobals "all" = some none)
    (z9 : PySem.W.nsIn K mainGlobals "range" = some none) (z10 : PySem.W.nsIn K mainGlobals "min" = some none) (z11 : PySem.W.nsIn K mainGlobals "abs" = some none) (z12 : PySem.W.nsIn K mainGlobals "sorted" = some none)
    (c1 : PySem.W.nsIn K mainGlobals "LONGEST" = some (some (.int 4 t1))) (c2 : PySem.W.nsIn K mainGlobals "MOST_WORDS" = some (some (.int 8 t2))) (c3 : PySem.W.nsIn K mainGlobals "MOST_COST" = some (some (.int 9 t3)))
    (c4 : PySem.W.nsIn K mainGlobals "MOST_LETTERS" = some (some (.int 30 t4))) (c5 : PySem.W.nsIn K mainGlobals "ALPHABET" = some (some (.str (Str.ofString "abcdefghijklmnopqrstuvwxyz") t5))) : Blt mg :=
  ⟨PySem.W.mg_none_of X G z1, PySem.W.mg_none_of X G z2, PySem.W.mg_none_of X G z3, PySem.W.mg_none_of X G z4, PySem.W.mg_none_of X G z5, PySem.W.mg_none_of X G z6, PySem.W.mg_none_of X G z7, PySem.W.mg_none_of X G z8, PySem.W.mg_none_of X G z9, PySem.W.mg_none_of X G z10, PySem.W.mg_none_of X G z11, PySem.W.mg_none_of X G z12,
    ⟨_, PySem.W.mg_of X G c1, _, rfl⟩, ⟨_, PySem.W.mg_of X G c2, _, rfl⟩, ⟨_, PySem.W.mg_of X G c3, _, rfl⟩, ⟨_, PySem.W.mg_of X G c4, _, rfl⟩, ⟨_, PySem.W.mg_of X G c5, _, rfl⟩⟩
/-- all defs but the law's own -/
structure Defs (K : PySem.W.Frag) (mg : Str → Option Value) : Prop where
  d1 : Df K mg "is_between" t_is_between p_is_between
  d2 : Df K mg "is_word" t_is_word p_is_word
  d3 : Df K mg "is_entry" t_is_entry p_is_entry
  d4 : Df K mg "is_list" t_is_list p_is_list
  d5 : Df K mg "check_list" t_check_list p_check_list
  d6 : Df K mg "letters_in" t_letters_in p_letters_in
  d7 : Df K mg "is_text_of" t_is_text_of p_is_text_of
  d8 : Df K mg "is_text" t_is_text p_is_text
  d9 : Df K mg "check_text" t_check_text p_check_text
  d10 : Df K mg "costs_ahead" t_costs_ahead p_costs_ahead
  d11 : Df K mg "least_of" t_least_of p_least_of
  d12 : Df K mg "least_cost" t_least_cost p_least_cost
  d13 : Df K mg "costs_of" t_costs_of p_costs_of
  d14 : Df K mg "is_integer" t_is_integer p_is_integer
  d15 : Df K mg "are_heights" t_are_heights p_are_heights
  d16 : Df K mg "accepts_heights" t_accepts_heights p_accepts_heights
  d17 : Df K mg "_law_stream" t__law_stream p__law_stream
  d18 : Df K mg "_law_next" t__law_next p__law_next
  d19 : Df K mg "_law_is_integer" t__law_is_integer p__law_is_integer
  d20 : Df K mg "_law_words" t__law_words p__law_words
  d21 : Df K mg "_law_text" t__law_text p__law_text
  d22 : Df K mg "_law_cost" t__law_cost p__law_cost
  d23 : Df K mg "_law_cuts" t__law_cuts p__law_cuts
  d24 : Df K mg "_law_are_heights" t__law_are_heights p__law_are_heights
  d25 : Df K mg "_law_heights" t__law_heights p__law_heights
theorem law_ok {P : Program} {w : World} {K : PySem.W.Frag} {mg : Str → Option Value} {base : Heap} {f : Addr} {fd : FuncData} (F : Fun K "law" "law" t_law f fd) (B : Blt mg) (D : Defs K mg) : FnOk P w K mg base CX0 8 f fd p_law (spLaw K) := by
  have c1 : Cal P w K mg base 1 "is_between" spIsBetween := ok_is_between D.d1 B
  have c2 : Cal P w K mg base 1 "is_word" spIsWord := ok_is_word D.d2 B
  have c3 : Cal P w K mg base 2 "is_entry" spIsEntry := ok_is_entry D.d3 B c1 c2
  have c4 : Cal P w K mg base 3 "is_list" spIsList := ok_is_list D.d4 B c3
  have c5 : Cal P w K mg base 4 "check_list" spCheckList := ok_check_list D.d5 c4
  have c6 : Cal P w K mg base 1 "letters_in" spLettersIn := ok_letters_in D.d6 B
  have c7 : Cal P w K mg base 2 "is_text_of" spIsTextOf := ok_is_text_of D.d7 B c6
  have c8 : Cal P w K mg base 5 "is_text" spIsTextOf := ok_is_text D.d8 c5 c7
  have c9 : Cal P w K mg base 6 "check_text" spCheckText := ok_check_text D.d9 c4 c8
  have c10 : Cal P w K mg base 1 "costs_ahead" spAhead := ok_costs_ahead D.d10 B
  have c11 : Cal P w K mg base 2 "least_of" spLeast := ok_least_of D.d11 c10
  have c12 : Cal P w K mg base 7 "least_cost" spLeast := ok_least_cost D.d12 c9 c11
  have c13 : Cal P w K mg base 7 "costs_of" spCostsOf := ok_costs_of D.d13 B c9 c10
  have c14 : Cal P w K mg base 1 "is_integer" spIsInt := ok_is_integer D.d14 B
  have c15 : Cal P w K mg base 2 "are_heights" spHeights := ok_are_heights D.d15 B c14
  have c16 : Cal P w K mg base 7 "accepts_heights" spHeights := ok_accepts_heights D.d16 c9 c15
  have c17 : Cal P w K mg base 1 "_law_stream" (spStream K) := ok_law_stream D.d17 B
  have c18 : Cal P w K mg base 1 "_law_next" spNext := ok_law_next D.d18 B
  have c19 : Cal P w K mg base 1 "_law_is_integer" spIsInt := ok_law_is_integer D.d19 B
  have c20 : Cal P w K mg base 2 "_law_words" spWords := ok_law_words D.d20 B c18
  have c21 : Cal P w K mg base 2 "_law_text" spText := ok_law_text D.d21 B c18
  have c22 : Cal P w K mg base 1 "_law_cost" spCost := ok_law_cost D.d22
  have c23 : Cal P w K mg base 1 "_law_cuts" spCuts := ok_law_cuts D.d23 B
  have c24 : Cal P w K mg base 2 "_law_are_heights" spHeights := ok_law_are_heights D.d24 B c19
  have c25 : Cal P w K mg base 2 "_law_heights" spDraw := ok_law_heights D.d25 B c18
  exact ok_law F B c17 c18 c20 c21 c13 c16 c22 c23 c12 c25 c24
theorem law_mk {l : PySem.W.OpenLaw} {w : World} {K : PySem.W.Frag} {h : Heap} {mg : Str → Option Value} {fa f : Addr} {oc : Value} {od an : Option Addr} {osl : Array (Option Value)} {kV doc pm cdv ct : Value} (X : K.In h) (G : h.Ns mainGlobals mg) (hfa : mg "law" = some (.ref fa))
    (a : PySem.W.nsIn K mainGlobals "law" = some (some (.ref f))) (lk : K.lookup f = some ⟨oc, od, .func (PySem.W.fnOf "law" "law" (defArgs t_law) (defBody t_law) (defScope t_law) .none kV doc pm an cdv ct), osl⟩) (c : PySem.W.codeIn K cdv "law" = true) (k : PySem.W.keepIn K (.ref f) = true)
    (B : Blt mg) (D : Defs K mg) :
    ∃ fd : FuncData, (∀ (s : Shared) (v : Value), BindsTo s fd ⟨[v], []⟩ [("_law_script", v)]) ∧ ∀ base : Heap, K.In base → base.Ns mainGlobals mg → FnOk l.prog w K mg base CX0 8 fa fd ["_law_script"] (spLaw K) := by
  have e := hfa.symm.trans (PySem.W.mg_of X G a)
  cases e
  exact ⟨_, fun s v => .of_eq rfl, fun base _ _ => law_ok (fun_mk lk c k) B D⟩
end K30
/-! The end: the head, and what the top has written. -/
open PySem PySem.W PyProof.Rows
set_option maxRecDepth 100000 in
set_option maxHeartbeats 0 in
theorem PySem.Challenge.cw_greedycuts_k30_whole_heights_by_whomever_holds : PySem.Challenge.rw_greedycuts_k30_whole_heights_by_whomever.Holds := by
  w_on; o_law; k_head; (case hw => w_witness2)
  k_fill
  refine L2.walk_of (l := PySem.Challenge.rw_greedycuts_k30_whole_heights_by_whomever) (n := 63) (k := 8) (x := "_law_script") (CX := fun _ => L2.CX0) (sp := fun w => K30.spLaw _) rfl (by decide) rfl ⟨rfl, by decide, by decide⟩ (fun w h Y => PySem.W.kIn_of Y) ?F (fun _ _ a ns hl _ hS => ⟨a, ns, rfl, hS, fun _ => rfl⟩) (fun _ _ _ _ _ h => h)
  case F =>
    intro w mg fa h KX G hmg
    refine' K30.law_mk KX G hmg ?a ?l ?c ?k ?B ?D
    (case a => k_is); (case l => k_is); (case c => k_is); (case k => k_is)
    case B =>
      refine' K30.blt_mk KX G ?z1 ?z2 ?z3 ?z4 ?z5 ?z6 ?z7 ?z8 ?z9 ?z10 ?z11 ?z12 ?c1 ?c2 ?c3 ?c4 ?c5
      (case z1 => k_is)
      (case z2 => k_is)
      (case z3 => k_is)
      (case z4 => k_is)
      (case z5 => k_is)
      (case z6 => k_is)
      (case z7 => k_is)
      (case z8 => k_is)
      (case z9 => k_is)
      (case z10 => k_is)
      (case z11 => k_is)
      (case z12 => k_is)
      (case c1 => k_is)
      (case c2 => k_is)
      (case c3 => k_is)
      (case c4 => k_is)
      (case c5 => k_is)
    case D =>
      refine' ⟨?d1, ?d2, ?d3, ?d4, ?d5, ?d6, ?d7, ?d8, ?d9, ?d10, ?d11, ?d12, ?d13, ?d14, ?d15, ?d16, ?d17, ?d18, ?d19, ?d20, ?d21, ?d22, ?d23, ?d24, ?d25⟩
      case d1 =>
        refine' K30.df_mk KX G ?a ?l ?c ?k ?b
        (case a => k_is); (case l => k_is); (case c => k_is); (case k => k_is); (case b => exact fun _ _ _ _ _ _ us hl => match us, hl with | [_, _, _], _ => rfl)
      case d2 =>
        refine' K30.df_mk KX G ?a ?l ?c ?k ?b
        (case a => k_is); (case l => k_is); (case c => k_is); (case k => k_is); (case b => exact fun _ _ _ _ _ _ us hl => match us, hl with | [_], _ => rfl)
      case d3 =>
        refine' K30.df_mk KX G ?a ?l ?c ?k ?b
        (case a => k_is); (case l => k_is); (case c => k_is); (case k => k_is); (case b => exact fun _ _ _ _ _ _ us hl => match us, hl with | [_], _ => rfl)
      case d4 =>
        refine' K30.df_mk KX G ?a ?l ?c ?k ?b
        (case a => k_is); (case l => k_is); (case c => k_is); (case k => k_is); (case b => exact fun _ _ _ _ _ _ us hl => match us, hl with | [_], _ => rfl)
      case d5 =>
        refine' K30.df_mk KX G ?a ?l ?c ?k ?b
        (case a => k_is); (case l => k_is); (case c => k_is); (case k => k_is); (case b => exact fun _ _ _ _ _ _ us hl => match us, hl with | [_], _ => rfl)
      case d6 =>
        refine' K30.df_mk KX G ?a ?l ?c ?k ?b
        (case a => k_is); (case l => k_is); (case c => k_is); (case k => k_is); (case b => exact fun _ _ _ _ _ _ us hl => match us, hl with | [_], _ => rfl)
      case d7 =>
        refine' K30.df_mk KX G ?a ?l ?c ?k ?b
        (case a => k_is); (case l => k_is); (case c => k_is); (case k => k_is); (case b => exact fun _ _ _ _ _ _ us hl => match us, hl with | [_, _], _ => rfl)
      case d8 =>
        refine' K30.df_mk KX G ?a ?l ?c ?k ?b
        (case a => k_is); (case l => k_is); (case c => k_is); (case k => k_is); (case b => exact fun _ _ _ _ _ _ us hl => match us, hl with | [_, _], _ => rfl)
      case d9 =>
        refine' K30.df_mk KX G ?a ?l ?c ?k ?b
        (case a => k_is); (case l => k_is); (case c => k_is); (case k => k_is); (case b => exact fun _ _ _ _ _ _ us hl => match us, hl with | [_, _], _ => rfl)
      case d10 =>
        refine' K30.df_mk KX G ?a ?l ?c ?k ?b
        (case a => k_is); (case l => k_is); (case c => k_is); (case k => k_is); (case b => exact fun _ _ _ _ _ _ us hl => match us, hl with | [_, _], _ => rfl)
      case d11 =>
        refine' K30.df_mk KX G ?a ?l ?c ?k ?b
        (case a => k_is); (case l => k_is); (case c => k_is); (case k => k_is); (case b => exact fun _ _ _ _ _ _ us hl => match us, hl with | [_, _], _ => rfl)
      case d12 =>
        refine' K30.df_mk KX G ?a ?l ?c ?k ?b
        (case a => k_is); (case l => k_is); (case c => k_is); (case k => k_is); (case b => exact fun _ _ _ _ _ _ us hl => match us, hl with | [_, _], _ => rfl)
      case d13 =>
        refine' K30.df_mk KX G ?a ?l ?c ?k ?b
        (case a => k_is); (case l => k_is); (case c => k_is); (case k => k_is); (case b => exact fun _ _ _ _ _ _ us hl => match us, hl with | [_, _], _ => rfl)
      case d14 =>
        refine' K30.df_mk KX G ?a ?l ?c ?k ?b
        (case a => k_is); (case l => k_is); (case c => k_is); (case k => k_is); (case b => exact fun _ _ _ _ _ _ us hl => match us, hl with | [_], _ => rfl)
      case d15 =>
        refine' K30.df_mk KX G ?a ?l ?c ?k ?b
        (case a => k_is); (case l => k_is); (case c => k_is); (case k => k_is); (case b => exact fun _ _ _ _ _ _ us hl => match us, hl with | [_, _, _], _ => rfl)
      case d16 =>
        refine' K30.df_mk KX G ?a ?l ?c ?k ?b
        (case a => k_is); (case l => k_is); (case c => k_is); (case k => k_is); (case b => exact fun _ _ _ _ _ _ us hl => match us, hl with | [_, _, _], _ => rfl)
      case d17 =>
        refine' K30.df_mk KX G ?a ?l ?c ?k ?b
        (case a => k_is); (case l => k_is); (case c => k_is); (case k => k_is); (case b => exact fun _ _ _ _ _ _ us hl => match us, hl with | [_], _ => rfl)
      case d18 =>
        refine' K30.df_mk KX G ?a ?l ?c ?k ?b
        (case a => k_is); (case l => k_is); (case c => k_is); (case k => k_is); (case b => exact fun _ _ _ _ _ _ us hl => match us, hl with | [_, _], _ => rfl)
      case d19 =>
        refine' K30.df_mk KX G ?a ?l ?c ?k ?b
        (case a => k_is); (case l => k_is); (case c => k_is); (case k => k_is); (case b => exact fun _ _ _ _ _ _ us hl => match us, hl with | [_], _ => rfl)
      case d20 =>
        refine' K30.df_mk KX G ?a ?l ?c ?k ?b
        (case a => k_is); (case l => k_is); (case c => k_is); (case k => k_is); (case b => exact fun _ _ _ _ _ _ us hl => match us, hl with | [_, _, _], _ => rfl)
      case d21 =>
        refine' K30.df_mk KX G ?a ?l ?c ?k ?b
        (case a => k_is); (case l => k_is); (case c => k_is); (case k => k_is); (case b => exact fun _ _ _ _ _ _ us hl => match us, hl with | [_, _, _], _ => rfl)
      case d22 =>
        refine' K30.df_mk KX G ?a ?l ?c ?k ?b
        (case a => k_is); (case l => k_is); (case c => k_is); (case k => k_is); (case b => exact fun _ _ _ _ _ _ us hl => match us, hl with | [_, _], _ => rfl)
      case d23 =>
        refine' K30.df_mk KX G ?a ?l ?c ?k ?b
        (case a => k_is); (case l => k_is); (case c => k_is); (case k => k_is); (case b => exact fun _ _ _ _ _ _ us hl => match us, hl with | [_, _], _ => rfl)
      case d24 =>
        refine' K30.df_mk KX G ?a ?l ?c ?k ?b
        (case a => k_is); (case l => k_is); (case c => k_is); (case k => k_is); (case b => exact fun _ _ _ _ _ _ us hl => match us, hl with | [_, _, _], _ => rfl)
      case d25 =>
        refine' K30.df_mk KX G ?a ?l ?c ?k ?b
        (case a => k_is); (case l => k_is); (case c => k_is); (case k => k_is); (case b => exact fun _ _ _ _ _ _ us hl => match us, hl with | [_, _], _ => rfl)
