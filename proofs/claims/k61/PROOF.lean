import PyProof.Rows.All
import Wide.All
import OpenK.AllK
import Wide.FinOn
import HandS.ForMost
import HandS.Evl
import HandS.IsInst
import HandS.Style
import HandS.TupLe
import HandS.TupAny
import HandS.Deep
import HandS.DictComp
import HandS.Exc
import HandS.ExcInit
import KE.SortData
import KE.KDictDisplayH
import HandS.DictTup
import PySem.Challenge.RW_greedycuts_k61_whole_bounds_for_all_text
set_option Elab.async false
set_option linter.all false
set_option maxRecDepth 100000
set_option maxHeartbeats 4000000
/-! K61M1: the mirror of words, longest match, reader; plain Lean. -/
namespace K61
abbrev Tx := List Nat
abbrev Ws := List (Tx × Int)
def names (ws : Ws) : List Tx := ws.map (·.1)
def lets (ws : Ws) : List Nat := (ws.filter (fun e => e.1.length == 1)).flatMap (·.1)
def cost (ws : Ws) (w : Tx) : Int := ((ws.filter (fun e => e.1 == w)).map (·.2)).headD 0
def rowCost (ws : Ws) (row : List Tx) : Int := (row.map (cost ws)).sum
def parts (ws : Ws) (t : Tx) : List Tx := ((List.range (min 4 t.length)).map (fun k => t.take (k + 1))).filter (fun p => (names ws).contains p)
def lw (ws : Ws) (t : Tx) : Tx := (parts ws t).getLastD []
def mtF (ws : Ws) : Nat → Tx → List Tx
  | 0, _ => []
  | n + 1, t => if t = [] then [] else lw ws t :: mtF ws n (t.drop (lw ws t).length)
def mt (ws : Ws) (t : Tx) : List Tx := mtF ws t.length t
def grow (ws : Ws) (t : Tx) : Bool := ws.any (fun e => decide (t.length < e.1.length) && (e.1.take t.length == t))
def rdF (ws : Ws) : Nat → Tx → List Tx × Tx
  | 0, h => ([], h)
  | n + 1, h => if h = [] ∨ grow ws h = true then ([], h) else (lw ws h :: (rdF ws n (h.drop (lw ws h).length)).1, (rdF ws n (h.drop (lw ws h).length)).2)
def rdo (ws : Ws) (h : Tx) : List Tx × Tx := rdF ws h.length h
def rd (ws : Ws) (h : Tx) (c : Nat) : List Tx × Tx := rdo ws (h ++ [c])
def steps (ws : Ws) (h t : Tx) (c : Nat) : List (Tx × Tx × Int × Int) :=
  (if (names ws).contains (t ++ [c]) then [((rd ws h c).2, [], rowCost ws (rd ws h c).1, cost ws (t ++ [c]))] else []) ++
  (if grow ws (t ++ [c]) then [((rd ws h c).2, t ++ [c], rowCost ws (rd ws h c).1, 0)] else [])

structure Good (ws : Ws) : Prop where
  asc : (names ws).Pairwise (· < ·)
  len : ∀ e ∈ ws, 1 ≤ e.1.length ∧ e.1.length ≤ 4
  abc : ∀ e ∈ ws, ∀ c ∈ e.1, 97 ≤ c ∧ c ≤ 99
  ltr : ∀ e ∈ ws, ∀ c ∈ e.1, [c] ∈ names ws
  cst : ∀ e ∈ ws, 1 ≤ e.2 ∧ e.2 ≤ 9
  ne : ws ≠ []
  few : ws.length ≤ 8
  room : (ws.map (fun e => e.1.length - 1)).sum ≤ 12
def Over (ws : Ws) (t : Tx) : Prop := ∀ c ∈ t, c ∈ lets ws

theorem mem_names {ws : Ws} {w : Tx} : w ∈ names ws ↔ ∃ e ∈ ws, e.1 = w := by
  unfold names; simp [List.mem_map]
theorem mem_lets {ws : Ws} {c : Nat} : c ∈ lets ws ↔ [c] ∈ names ws := by
  unfold lets
  rw [List.mem_flatMap, mem_names]
  constructor
  · rintro ⟨e, he, hc⟩
    rw [List.mem_filter] at he
    have hl : e.1.length = 1 := by simpa using he.2
    refine ⟨e, he.1, ?_⟩
    match h : e.1, hl with
    | [x], _ => rw [h] at hc; simp at hc; rw [hc]
  · rintro ⟨e, he, hc⟩
    refine ⟨e, ?_, ?_⟩
    · rw [List.mem_filter]; exact ⟨he, by rw [hc]; rfl⟩
    · rw [hc]; simp
theorem nodup_names {ws : Ws} (g : Good ws) : (names ws).Nodup := by
  unfold List.Nodup
  refine g.asc.imp ?_
  intro a b h e
  rw [e] at h
  exact List.lt_irrefl _ h
theorem cost_mem {ws : Ws} (g : Good ws) {w : Tx} {k : Int} (h : (w, k) ∈ ws) : cost ws w = k := by
  have key : ∀ l : Ws, (l.map (·.1)).Nodup → (w, k) ∈ l → ((l.filter (fun e => e.1 == w)).map (·.2)).headD 0 = k := by
    intro l
    induction l with
    | nil => intro _ h; cases h
    | cons e r ih =>
      intro nd hm
      rw [List.map_cons, List.nodup_cons] at nd
      rcases List.mem_cons.mp hm with e1 | hm
      · subst e1
        simp
      · have hne : (e.1 == w) = false := by
          apply beq_eq_false_iff_ne.mpr
          intro q
          apply nd.1
          rw [q]
          exact List.mem_map.mpr ⟨(w, k), hm, rfl⟩
        rw [List.filter_cons, hne]
        exact ih nd.2 hm
  exact key ws (nodup_names g) h
theorem cost_range {ws : Ws} (g : Good ws) {w : Tx} (h : w ∈ names ws) : 1 ≤ cost ws w ∧ cost ws w ≤ 9 := by
  obtain ⟨e, he, rfl⟩ := mem_names.mp h
  rw [cost_mem g (w := e.1) (k := e.2) he]
  exact g.cst e he
theorem name_len {ws : Ws} (g : Good ws) {w : Tx} (h : w ∈ names ws) : 1 ≤ w.length ∧ w.length ≤ 4 := by
  obtain ⟨e, he, rfl⟩ := mem_names.mp h
  exact g.len e he
theorem over_name {ws : Ws} (g : Good ws) {w : Tx} (h : w ∈ names ws) : Over ws w := by
  obtain ⟨e, he, rfl⟩ := mem_names.mp h
  intro c hc
  exact mem_lets.mpr (g.ltr e he c hc)
theorem Over.append {ws : Ws} {s t : Tx} (h : Over ws s) (h' : Over ws t) : Over ws (s ++ t) := by
  intro c hc
  rcases List.mem_append.mp hc with q | q
  · exact h c q
  · exact h' c q
theorem Over.drop {ws : Ws} {t : Tx} (h : Over ws t) (n : Nat) : Over ws (t.drop n) := fun c hc => h c (List.mem_of_mem_drop hc)
theorem Over.take {ws : Ws} {t : Tx} (h : Over ws t) (n : Nat) : Over ws (t.take n) := fun c hc => h c (List.mem_of_mem_take hc)
theorem Over.nil {ws : Ws} : Over ws [] := fun _ h => nomatch h
theorem Over.left {ws : Ws} {s t : Tx} (h : Over ws (s ++ t)) : Over ws s := fun c hc => h c (List.mem_append_left _ hc)
theorem Over.right {ws : Ws} {s t : Tx} (h : Over ws (s ++ t)) : Over ws t := fun c hc => h c (List.mem_append_right _ hc)
theorem over_one {ws : Ws} {c : Nat} (h : c ∈ lets ws) : Over ws [c] := by
  intro d hd
  have : d = c := by simpa using hd
  rw [this]; exact h

/-! ### the longest word -/
structure Lng (ws : Ws) (t w : Tx) : Prop where
  mem : w ∈ names ws
  pre : w <+: t
  top : ∀ v ∈ names ws, v <+: t → v.length ≤ w.length
theorem Lng.uniq {ws : Ws} {t v w : Tx} (a : Lng ws t v) (b : Lng ws t w) : v = w := by
  have h1 := a.top w b.mem b.pre
  have h2 := b.top v a.mem a.pre
  exact List.IsPrefix.eq_of_length (List.prefix_of_prefix_length_le a.pre b.pre h2) (by omega)
theorem mem_parts {ws : Ws} {t p : Tx} : p ∈ parts ws t ↔ p ∈ names ws ∧ p <+: t ∧ 1 ≤ p.length ∧ p.length ≤ 4 := by
  unfold parts
  rw [List.mem_filter, List.mem_map]
  constructor
  · rintro ⟨⟨k, hk, rfl⟩, hc⟩
    have hk := List.mem_range.mp hk
    refine ⟨by simpa using hc, List.take_prefix _ _, ?_, ?_⟩ <;> rw [List.length_take] <;> omega
  · rintro ⟨hm, hp, h1, h4⟩
    refine ⟨⟨p.length - 1, ?_, ?_⟩, by simpa using hm⟩
    · have := hp.length_le
      rw [List.mem_range]; omega
    · rw [show p.length - 1 + 1 = p.length by omega]
      exact (List.prefix_iff_eq_take.mp hp).symm
theorem parts_asc (ws : Ws) (t : Tx) : (parts ws t).Pairwise (fun a b => a.length < b.length) := by
  unfold parts
  refine List.Pairwise.filter _ ?_
  rw [List.pairwise_map]
  refine List.Pairwise.imp_of_mem ?_ (List.pairwise_lt_range (n := min 4 t.length))
  intro a b ha hb hab
  have ha := List.mem_range.mp ha
  have hb := List.mem_range.mp hb
  rw [List.length_take, List.length_take]
  omega
theorem last_top {l : List Tx} (h : l.Pairwise (fun a b => a.length < b.length)) (hne : l ≠ []) : l.getLastD [] ∈ l ∧ ∀ v ∈ l, v.length ≤ (l.getLastD []).length := by
  induction l with
  | nil => exact absurd rfl hne
  | cons x r ih =>
    cases r with
    | nil => simp
    | cons y r =>
      have hp := List.pairwise_cons.mp h
      have := ih hp.2 (by simp)
      have e : (x :: y :: r).getLastD [] = (y :: r).getLastD [] := by simp
      rw [e]
      refine ⟨List.mem_cons_of_mem _ this.1, fun v hv => ?_⟩
      rcases List.mem_cons.mp hv with rfl | hv
      · exact Nat.le_of_lt (hp.1 _ this.1)
      · exact this.2 v hv
theorem parts_ne {ws : Ws} (g : Good ws) {t : Tx} (h : Over ws t) (hne : t ≠ []) : parts ws t ≠ [] := by
  obtain ⟨c, r, rfl⟩ := List.exists_cons_of_ne_nil hne
  intro e
  have : [c] ∈ parts ws (c :: r) := mem_parts.mpr ⟨mem_lets.mp (h c List.mem_cons_self), ⟨r, rfl⟩, by simp, by simp⟩
  rw [e] at this
  cases this
theorem lw_lng {ws : Ws} (g : Good ws) {t : Tx} (h : Over ws t) (hne : t ≠ []) : Lng ws t (lw ws t) := by
  have hl := last_top (parts_asc ws t) (parts_ne g h hne)
  have hm := mem_parts.mp hl.1
  refine ⟨hm.1, hm.2.1, fun v hv hp => hl.2 v (mem_parts.mpr ⟨hv, hp, ?_⟩)⟩
  exact name_len g hv
theorem lw_len {ws : Ws} (g : Good ws) {t : Tx} (h : Over ws t) (hne : t ≠ []) : 1 ≤ (lw ws t).length ∧ (lw ws t).length ≤ 4 ∧ (lw ws t).length ≤ t.length :=
  ⟨(name_len g (lw_lng g h hne).mem).1, (name_len g (lw_lng g h hne).mem).2, (lw_lng g h hne).pre.length_le⟩
/-- the law's way: the first longest of the list -/
def best (ws : Ws) (t : Tx) : Tx := ws.foldl (fun b e => if b.length < e.1.length ∧ t.take e.1.length = e.1 then e.1 else b) []
theorem best_inv (t : Tx) : ∀ (ws done : Ws) (b : Tx), (b = [] ∨ (b ∈ names done ∧ b <+: t)) → (∀ v ∈ names done, v <+: t → v.length ≤ b.length) →
    (ws.foldl (fun b e => if b.length < e.1.length ∧ t.take e.1.length = e.1 then e.1 else b) b = [] ∨ (ws.foldl (fun b e => if b.length < e.1.length ∧ t.take e.1.length = e.1 then e.1 else b) b ∈ names (done ++ ws) ∧ ws.foldl (fun b e => if b.length < e.1.length ∧ t.take e.1.length = e.1 then e.1 else b) b <+: t)) ∧
    ∀ v ∈ names (done ++ ws), v <+: t → v.length ≤ (ws.foldl (fun b e => if b.length < e.1.length ∧ t.take e.1.length = e.1 then e.1 else b) b).length := by
  intro ws
  induction ws with
  | nil => intro done b h1 h2; simpa using ⟨h1, h2⟩
  | cons e r ih =>
    intro done b h1 h2
    rw [List.foldl_cons]
    have en : done ++ e :: r = (done ++ [e]) ++ r := by simp
    rw [en]
    apply ih (done ++ [e])
    · split
      · rename_i hc
        right
        refine ⟨mem_names.mpr ⟨e, by simp, rfl⟩, ?_⟩
        rw [← hc.2]
        exact List.take_prefix _ _
      · rcases h1 with h1 | h1
        · exact .inl h1
        · right
          obtain ⟨x, hx, hb⟩ := mem_names.mp h1.1
          exact ⟨mem_names.mpr ⟨x, List.mem_append_left _ hx, hb⟩, h1.2⟩
    · intro v hv hp
      obtain ⟨x, hx, rfl⟩ := mem_names.mp hv
      rcases List.mem_append.mp hx with hx | hx
      · have := h2 x.1 (mem_names.mpr ⟨x, hx, rfl⟩) hp
        split
        · rename_i hc; omega
        · exact this
      · have : x = e := by simpa using hx
        subst this
        split
        · exact Nat.le_refl _
        · rename_i hc
          have ht : t.take x.1.length = x.1 := (List.prefix_iff_eq_take.mp hp).symm
          have : ¬ b.length < x.1.length := fun q => hc ⟨q, ht⟩
          omega
theorem best_lw {ws : Ws} (g : Good ws) {t : Tx} (h : Over ws t) (hne : t ≠ []) : best ws t = lw ws t := by
  have hb := best_inv t ws [] [] (.inl rfl) (fun v hv _ => by simp [names] at hv)
  have hl := lw_lng g h hne
  rw [List.nil_append] at hb
  have hlen := hb.2 _ hl.mem hl.pre
  have h1 := (lw_len g h hne).1
  rcases hb.1 with e | e
  · rw [e, List.length_nil] at hlen
    omega
  · exact Lng.uniq ⟨e.1, e.2, hb.2⟩ hl

/-! ### longest match -/
theorem mtF_any {ws : Ws} (g : Good ws) : ∀ (n m : Nat) (t : Tx), Over ws t → t.length ≤ n → t.length ≤ m → mtF ws n t = mtF ws m t := by
  intro n
  induction n with
  | zero =>
    intro m t _ hn _
    have : t = [] := List.length_eq_zero_iff.mp (by omega)
    subst this
    cases m <;> simp [mtF]
  | succ n ih =>
    intro m t ht hn hm
    cases m with
    | zero =>
      have : t = [] := List.length_eq_zero_iff.mp (by omega)
      subst this
      simp [mtF]
    | succ m =>
      unfold mtF
      by_cases he : t = []
      · rw [if_pos he, if_pos he]
      · rw [if_neg he, if_neg he]
        have hl := lw_len g ht he
        have h2 : 0 < t.length := List.length_pos_iff.mpr he
        rw [ih m _ (ht.drop _) (by rw [List.length_drop]; omega) (by rw [List.length_drop]; omega)]
theorem mt_nil (ws : Ws) : mt ws [] = [] := rfl
theorem mt_cons {ws : Ws} (g : Good ws) {t : Tx} (h : Over ws t) (hne : t ≠ []) : mt ws t = lw ws t :: mt ws (t.drop (lw ws t).length) := by
  have h2 : 0 < t.length := List.length_pos_iff.mpr hne
  have hl := lw_len g h hne
  unfold mt
  obtain ⟨n, hn⟩ : ∃ n, t.length = n + 1 := ⟨t.length - 1, by omega⟩
  rw [hn]
  show (if t = [] then [] else lw ws t :: mtF ws n (t.drop (lw ws t).length)) = _
  rw [if_neg hne, mtF_any g n _ _ (h.drop _) (by rw [List.length_drop]; omega) (Nat.le_refl _)]
theorem mt_words {ws : Ws} (g : Good ws) : ∀ (n : Nat) (t : Tx), t.length ≤ n → Over ws t → (∀ w ∈ mt ws t, w ∈ names ws) ∧ (mt ws t).length ≤ t.length := by
  intro n
  induction n with
  | zero =>
    intro t hn _
    have : t = [] := List.length_eq_zero_iff.mp (by omega)
    subst this
    simp [mt_nil]
  | succ n ih =>
    intro t hn ht
    by_cases he : t = []
    · subst he; simp [mt_nil]
    · rw [mt_cons g ht he]
      have hl := lw_len g ht he
      have h2 : 0 < t.length := List.length_pos_iff.mpr he
      have := ih (t.drop (lw ws t).length) (by rw [List.length_drop]; omega) (ht.drop _)
      refine ⟨fun w hw => ?_, ?_⟩
      · rcases List.mem_cons.mp hw with rfl | hw
        · exact (lw_lng g ht he).mem
        · exact this.1 w hw
      · rw [List.length_cons]
        have h3 := this.2
        rw [List.length_drop] at h3
        omega

/-! ### the reader -/
theorem grow_iff {ws : Ws} {t : Tx} : grow ws t = true ↔ ∃ v ∈ names ws, t <+: v ∧ t.length < v.length := by
  unfold grow
  rw [List.any_eq_true]
  constructor
  · rintro ⟨e, he, h⟩
    rw [Bool.and_eq_true] at h
    have h1 := of_decide_eq_true h.1
    have h2 : e.1.take t.length = t := by simpa using h.2
    exact ⟨e.1, mem_names.mpr ⟨e, he, rfl⟩, by rw [← h2]; exact List.take_prefix _ _, h1⟩
  · rintro ⟨v, hv, hp, hl⟩
    obtain ⟨e, he, rfl⟩ := mem_names.mp hv
    refine ⟨e, he, ?_⟩
    rw [Bool.and_eq_true]
    refine ⟨decide_eq_true hl, ?_⟩
    rw [← List.prefix_iff_eq_take.mp hp]
    simp
theorem rdF_any {ws : Ws} (g : Good ws) : ∀ (n m : Nat) (t : Tx), Over ws t → t.length ≤ n → t.length ≤ m → rdF ws n t = rdF ws m t := by
  intro n
  induction n with
  | zero =>
    intro m t _ hn _
    have : t = [] := List.length_eq_zero_iff.mp (by omega)
    subst this
    cases m <;> simp [rdF]
  | succ n ih =>
    intro m t ht hn hm
    cases m with
    | zero =>
      have : t = [] := List.length_eq_zero_iff.mp (by omega)
      subst this
      simp [rdF]
    | succ m =>
      unfold rdF
      by_cases he : t = [] ∨ grow ws t = true
      · rw [if_pos he, if_pos he]
      · rw [if_neg he, if_neg he]
        have hne : t ≠ [] := fun q => he (.inl q)
        have hl := lw_len g ht hne
        have h2 : 0 < t.length := List.length_pos_iff.mpr hne
        rw [ih m _ (ht.drop _) (by rw [List.length_drop]; omega) (by rw [List.length_drop]; omega)]
theorem rdo_stop {ws : Ws} {h : Tx} (e : h = [] ∨ grow ws h = true) : rdo ws h = ([], h) := by
  unfold rdo
  cases hh : h.length with
  | zero => rfl
  | succ n => unfold rdF; rw [if_pos e]
theorem rdo_cons {ws : Ws} (g : Good ws) {h : Tx} (ho : Over ws h) (hne : h ≠ []) (hg : grow ws h = false) :
    rdo ws h = (lw ws h :: (rdo ws (h.drop (lw ws h).length)).1, (rdo ws (h.drop (lw ws h).length)).2) := by
  have h2 : 0 < h.length := List.length_pos_iff.mpr hne
  have hl := lw_len g ho hne
  unfold rdo
  obtain ⟨n, hn⟩ : ∃ n, h.length = n + 1 := ⟨h.length - 1, by omega⟩
  rw [hn]
  show (if h = [] ∨ grow ws h = true then _ else _) = _
  rw [if_neg (by rintro (q | q); exact hne q; rw [hg] at q; cases q), rdF_any g n _ _ (ho.drop _) (by rw [List.length_drop]; omega) (Nat.le_refl _)]
/-- a step by induction on the held letters -/
theorem rd_ind {ws : Ws} (g : Good ws) {C : Tx → Prop} (h0 : ∀ h, (h = [] ∨ grow ws h = true) → C h)
    (h1 : ∀ h, Over ws h → h ≠ [] → grow ws h = false → C (h.drop (lw ws h).length) → C h) : ∀ h, Over ws h → C h := by
  have key : ∀ n h, h.length ≤ n → Over ws h → C h := by
    intro n
    induction n with
    | zero =>
      intro h hn _
      exact h0 h (.inl (List.length_eq_zero_iff.mp (by omega)))
    | succ n ih =>
      intro h hn ho
      by_cases hne : h = []
      · exact h0 h (.inl hne)
      · cases hg : grow ws h with
        | true => exact h0 h (.inr hg)
        | false =>
          have hl := lw_len g ho hne
          exact h1 h ho hne hg (ih _ (by rw [List.length_drop]; omega) (ho.drop _))
  exact fun h ho => key h.length h (Nat.le_refl _) ho
theorem rdo_end {ws : Ws} (g : Good ws) : ∀ h, Over ws h → (rdo ws h).2 = [] ∨ grow ws (rdo ws h).2 = true := by
  refine rd_ind g (fun h e => ?_) (fun h ho hne hg ih => ?_)
  · rw [rdo_stop e]; exact e
  · rw [rdo_cons g ho hne hg]; exact ih
theorem rdo_words {ws : Ws} (g : Good ws) : ∀ h, Over ws h → (∀ w ∈ (rdo ws h).1, w ∈ names ws) ∧ (rdo ws h).1.length ≤ h.length ∧ Over ws (rdo ws h).2 ∧ (rdo ws h).2.length ≤ h.length := by
  intro h ho
  refine (rd_ind g (C := fun h => Over ws h → (∀ w ∈ (rdo ws h).1, w ∈ names ws) ∧ (rdo ws h).1.length ≤ h.length ∧ Over ws (rdo ws h).2 ∧ (rdo ws h).2.length ≤ h.length) (fun h e ho => ?_) (fun h ho hne hg ih _ => ?_)) h ho ho
  · rw [rdo_stop e]; exact ⟨(fun w hw => by cases hw), Nat.zero_le _, ho, Nat.le_refl _⟩
  · have ih := ih (ho.drop _)
    rw [rdo_cons g ho hne hg]
    have hl := lw_len g ho hne
    have h3 := ih.2.1
    have h4 := ih.2.2.2
    rw [List.length_drop] at h3 h4
    refine ⟨fun w hw => ?_, ?_, ih.2.2.1, ?_⟩
    · rcases List.mem_cons.mp hw with rfl | hw
      · exact (lw_lng g ho hne).mem
      · exact ih.1 w hw
    · rw [List.length_cons]
      omega
    · show (rdo ws (h.drop (lw ws h).length)).2.length ≤ h.length
      omega
/-- what the reader gives out begins the longest match, whatever follows -/
theorem mt_rdo {ws : Ws} (g : Good ws) : ∀ h, Over ws h → ∀ s, Over ws (h ++ s) → mt ws (h ++ s) = (rdo ws h).1 ++ mt ws ((rdo ws h).2 ++ s) := by
  refine rd_ind g (fun h e s _ => ?_) (fun h ho hne hg ih s hs => ?_)
  · rw [rdo_stop e]; rfl
  · have hl := lw_lng g ho hne
    have hhs : h ++ s ≠ [] := fun q => hne (List.append_eq_nil_iff.mp q).1
    have e1 : lw ws (h ++ s) = lw ws h := by
      refine Lng.uniq (lw_lng g hs hhs) ⟨hl.mem, hl.pre.trans (List.prefix_append _ _), fun v hv hp => ?_⟩
      refine hl.top v hv ?_
      by_cases hvl : v.length ≤ h.length
      · exact List.prefix_of_prefix_length_le hp (List.prefix_append _ _) hvl
      · have hp2 : h <+: v := List.prefix_of_prefix_length_le (List.prefix_append _ _) hp (by omega)
        have : grow ws h = true := grow_iff.mpr ⟨v, hv, hp2, by omega⟩
        rw [hg] at this
        cases this
    have hle := (lw_len g ho hne).2.2
    have e2 : (h ++ s).drop (lw ws h).length = h.drop (lw ws h).length ++ s := List.drop_append_of_le_length hle
    rw [mt_cons g hs hhs, e1, e2, ih s (by rw [← e2]; exact hs.drop _), rdo_cons g ho hne hg]
    rfl
theorem rowCost_append (ws : Ws) (r s : List Tx) : rowCost ws (r ++ s) = rowCost ws r + rowCost ws s := by
  unfold rowCost
  rw [List.map_append, List.sum_append]
theorem rowCost_cons (ws : Ws) (w : Tx) (s : List Tx) : rowCost ws (w :: s) = cost ws w + rowCost ws s := by
  unfold rowCost
  rw [List.map_cons, List.sum_cons]
theorem rowCost_range {ws : Ws} (g : Good ws) : ∀ row : List Tx, (∀ w ∈ row, w ∈ names ws) → 0 ≤ rowCost ws row ∧ rowCost ws row ≤ 9 * (row.length : Int)
  | [], _ => by simp [rowCost]
  | w :: r, h => by
    have ih := rowCost_range g r (fun x hx => h x (List.mem_cons_of_mem _ hx))
    have hc := cost_range g (h w List.mem_cons_self)
    rw [rowCost_cons, List.length_cons]
    omega
def mcost (ws : Ws) (t : Tx) : Int := rowCost ws (mt ws t)
theorem mcost_range {ws : Ws} (g : Good ws) {t : Tx} (h : Over ws t) : 0 ≤ mcost ws t ∧ mcost ws t ≤ 9 * (t.length : Int) := by
  have h1 := mt_words g t.length t (Nat.le_refl _) h
  have h2 := rowCost_range g _ h1.1
  unfold mcost
  have : ((mt ws t).length : Int) ≤ t.length := by exact_mod_cast h1.2
  omega
/-- held letters: nothing, or a proper beginning of a word -/
def Held (ws : Ws) (h : Tx) : Prop := h = [] ∨ grow ws h = true
theorem held_over {ws : Ws} (g : Good ws) {h : Tx} (e : Held ws h) : Over ws h := by
  rcases e with rfl | e
  · exact Over.nil
  · obtain ⟨v, hv, hp, _⟩ := grow_iff.mp e
    obtain ⟨s, rfl⟩ := hp
    exact (over_name g hv).left
theorem held_len {ws : Ws} (g : Good ws) {h : Tx} (e : Held ws h) : h.length ≤ 3 := by
  rcases e with rfl | e
  · simp
  · obtain ⟨v, hv, _, hl⟩ := grow_iff.mp e
    have := (name_len g hv).2
    omega
theorem rd_held {ws : Ws} (g : Good ws) {h : Tx} {c : Nat} (e : Held ws h) (hc : c ∈ lets ws) : Held ws (rd ws h c).2 :=
  rdo_end g _ ((held_over g e).append (over_one hc))
theorem rd_gain {ws : Ws} (g : Good ws) {h : Tx} {c : Nat} (e : Held ws h) (hc : c ∈ lets ws) : 0 ≤ rowCost ws (rd ws h c).1 ∧ rowCost ws (rd ws h c).1 ≤ 36 := by
  have ho := (held_over g e).append (over_one hc)
  have h1 := rdo_words g _ ho
  have h2 := rowCost_range g _ h1.1
  have h3 := held_len g e
  have h4 := h1.2.1
  rw [List.length_append, List.length_singleton] at h4
  have h5 : ((rdo ws (h ++ [c])).1.length : Int) ≤ 4 := by omega
  unfold rd
  omega
theorem mem_steps {ws : Ws} {h t : Tx} {c : Nat} {s : Tx × Tx × Int × Int} (hs : s ∈ steps ws h t c) :
    (t ++ [c] ∈ names ws ∧ s = ((rd ws h c).2, [], rowCost ws (rd ws h c).1, cost ws (t ++ [c]))) ∨ (grow ws (t ++ [c]) = true ∧ s = ((rd ws h c).2, t ++ [c], rowCost ws (rd ws h c).1, 0)) := by
  unfold steps at hs
  rcases List.mem_append.mp hs with q | q
  · split at q
    · rename_i hc
      left
      exact ⟨by simpa using hc, by simpa using q⟩
    · cases q
  · split at q
    · rename_i hc
      right
      exact ⟨hc, by simpa using q⟩
    · cases q
theorem steps_close {ws : Ws} {h t : Tx} {c : Nat} (hw : t ++ [c] ∈ names ws) : ((rd ws h c).2, [], rowCost ws (rd ws h c).1, cost ws (t ++ [c])) ∈ steps ws h t c := by
  unfold steps
  refine List.mem_append_left _ ?_
  rw [if_pos (by simpa using hw)]
  simp
theorem steps_grow {ws : Ws} {h t : Tx} {c : Nat} (hw : grow ws (t ++ [c]) = true) : ((rd ws h c).2, t ++ [c], rowCost ws (rd ws h c).1, 0) ∈ steps ws h t c := by
  unfold steps
  refine List.mem_append_right _ ?_
  rw [if_pos hw]
  simp
theorem steps_held {ws : Ws} (g : Good ws) {h t : Tx} {c : Nat} {s : Tx × Tx × Int × Int} (e : Held ws h) (hc : c ∈ lets ws) (hs : s ∈ steps ws h t c) :
    Held ws s.1 ∧ Held ws s.2.1 ∧ 0 ≤ s.2.2.1 ∧ s.2.2.1 ≤ 36 ∧ 0 ≤ s.2.2.2 ∧ s.2.2.2 ≤ 9 := by
  have h1 := rd_held g e hc
  have h2 := rd_gain g e hc
  rcases mem_steps hs with ⟨hn, rfl⟩ | ⟨hg, rfl⟩
  · have := cost_range g hn
    exact ⟨h1, .inl rfl, h2.1, h2.2, by show (0 : Int) ≤ cost ws (t ++ [c]); omega, this.2⟩
  · exact ⟨h1, .inr hg, h2.1, h2.2, by show (0 : Int) ≤ 0; omega, by show (0 : Int) ≤ 9; omega⟩

/-! ### potentials bound the longest match of every text -/
def rs (ws : Ws) (t : Tx) : Int × Tx := t.foldl (fun s c => (s.1 + rowCost ws (rd ws s.2 c).1, (rd ws s.2 c).2)) (0, [])
theorem rs_snoc (ws : Ws) (t : Tx) (c : Nat) : rs ws (t ++ [c]) = ((rs ws t).1 + rowCost ws (rd ws (rs ws t).2 c).1, (rd ws (rs ws t).2 c).2) := by
  unfold rs
  rw [List.foldl_append]
  rfl
theorem rs_held {ws : Ws} (g : Good ws) : ∀ n t, t.length = n → Over ws t → Held ws (rs ws t).2 ∧ ∀ s, Over ws s → mcost ws (t ++ s) = (rs ws t).1 + mcost ws ((rs ws t).2 ++ s) := by
  intro n
  induction n with
  | zero =>
    intro t hn _
    have : t = [] := List.length_eq_zero_iff.mp hn
    subst this
    refine ⟨.inl rfl, fun s _ => ?_⟩
    show mcost ws s = 0 + mcost ws s
    omega
  | succ n ih =>
    intro t hn ht
    obtain ⟨u, c, rfl⟩ : ∃ u c, t = u ++ [c] := by
      rcases List.eq_nil_or_concat t with e | ⟨u, c, e⟩
      · subst e; simp at hn
      · exact ⟨u, c, by simpa using e⟩
    have hu : u.length = n := by simpa using hn
    have ih := ih u hu ht.left
    have hc : c ∈ lets ws := ht c (by simp)
    rw [rs_snoc]
    refine ⟨rd_held g ih.1 hc, fun s hs => ?_⟩
    have h1 := ih.2 ([c] ++ s) ((over_one hc).append hs)
    have ho : Over ws ((rs ws u).2 ++ [c]) := (held_over g ih.1).append (over_one hc)
    have h2 := mt_rdo g _ ho s (ho.append hs)
    rw [List.append_assoc, h1]
    show _ + mcost ws ((rs ws u).2 ++ ([c] ++ s)) = _
    rw [← List.append_assoc]
    unfold mcost
    rw [h2, rowCost_append]
    show _ = (rs ws u).1 + rowCost ws (rdo ws ((rs ws u).2 ++ [c])).1 + rowCost ws (mt ws ((rdo ws ((rs ws u).2 ++ [c])).2 ++ s))
    omega
theorem rs_cost {ws : Ws} (g : Good ws) {t : Tx} (h : Over ws t) : mcost ws t = (rs ws t).1 + mcost ws (rs ws t).2 := by
  have h1 := (rs_held g t.length t rfl h).2 [] Over.nil
  rw [List.append_nil, List.append_nil] at h1
  exact h1
/-- what a text may be cut for -/
inductive Reach (ws : Ws) : Tx → Int → Prop
  | nil : Reach ws [] 0
  | snoc {t w : Tx} {k x : Int} : Reach ws t k → (w, x) ∈ ws → Reach ws (t ++ w) (k + x)
theorem Reach.over {ws : Ws} (g : Good ws) {t : Tx} {k : Int} (h : Reach ws t k) : Over ws t := by
  induction h with
  | nil => exact Over.nil
  | snoc _ hm ih => exact ih.append (over_name g (mem_names.mpr ⟨_, hm, rfl⟩))
/-- potentials for all pairs -/
structure Pot (ws : Ws) (a b c : Int) (In : Tx × Tx → Int → Prop) : Prop where
  start : ∃ x, In ([], []) x ∧ 0 ≤ x
  step : ∀ h t x, In (h, t) x → ∀ l ∈ lets ws, ∀ s ∈ steps ws h t l, ∃ y, In (s.1, s.2.1) y ∧ x + b * s.2.2.1 - a * s.2.2.2 ≤ y
  stop : ∀ h x, In (h, []) x → x + b * mcost ws h ≤ c
theorem Pot.reach {ws : Ws} (g : Good ws) {a b c : Int} {In : Tx × Tx → Int → Prop} (p : Pot ws a b c In) {t : Tx} {k : Int} (h : Reach ws t k) :
    ∃ x, In ((rs ws t).2, []) x ∧ b * (rs ws t).1 - a * k ≤ x := by
  induction h with
  | nil =>
    obtain ⟨x, h1, h2⟩ := p.start
    refine ⟨x, h1, ?_⟩
    show b * 0 - a * 0 ≤ x
    rw [Int.mul_zero, Int.mul_zero]
    omega
  | @snoc t w k e hr hm ih =>
    have hw : w ∈ names ws := mem_names.mpr ⟨_, hm, rfl⟩
    have ht := hr.over g
    have key : ∀ n u, u.length = n → u <+: w → u.length < w.length → ∃ x, In ((rs ws (t ++ u)).2, u) x ∧ b * (rs ws (t ++ u)).1 - a * k ≤ x := by
      intro n
      induction n with
      | zero =>
        intro u hn _ _
        have : u = [] := List.length_eq_zero_iff.mp hn
        subst this
        rw [List.append_nil]
        exact ih
      | succ n ihn =>
        intro u hn hp hl
        obtain ⟨v, l, rfl⟩ : ∃ v l, u = v ++ [l] := by
          rcases List.eq_nil_or_concat u with e | ⟨v, l, e⟩
          · subst e; simp at hn
          · exact ⟨v, l, by simpa using e⟩
        have hv : v.length = n := by simpa using hn
        obtain ⟨x, h1, h2⟩ := ihn v hv ((List.prefix_append _ _).trans hp) (by simp at hl; omega)
        have hlet : l ∈ lets ws := by
          obtain ⟨r, rfl⟩ := hp
          exact over_name g hw l (by simp)
        have hg : grow ws (v ++ [l]) = true := grow_iff.mpr ⟨w, hw, hp, hl⟩
        obtain ⟨y, h3, h4⟩ := p.step _ _ x h1 l hlet _ (steps_grow hg)
        rw [← List.append_assoc, rs_snoc]
        refine ⟨y, h3, ?_⟩
        show b * ((rs ws (t ++ v)).1 + rowCost ws (rd ws (rs ws (t ++ v)).2 l).1) - a * k ≤ y
        have h5 : x + b * rowCost ws (rd ws (rs ws (t ++ v)).2 l).1 - a * 0 ≤ y := h4
        rw [Int.mul_zero] at h5
        rw [Int.mul_add]
        omega
    obtain ⟨v, l, hvl⟩ : ∃ v l, w = v ++ [l] := by
      rcases List.eq_nil_or_concat w with e | ⟨v, l, e⟩
      · have := (name_len g hw).1
        subst e; simp at this
      · exact ⟨v, l, by simpa using e⟩
    subst hvl
    obtain ⟨x, h1, h2⟩ := key v.length v rfl (List.prefix_append _ _) (by simp)
    have hlet : l ∈ lets ws := over_name g hw l (by simp)
    obtain ⟨y, h3, h4⟩ := p.step _ _ x h1 l hlet _ (steps_close hw)
    rw [← List.append_assoc, rs_snoc]
    refine ⟨y, h3, ?_⟩
    show b * ((rs ws (t ++ v)).1 + rowCost ws (rd ws (rs ws (t ++ v)).2 l).1) - a * (k + e) ≤ y
    have h5 : x + b * rowCost ws (rd ws (rs ws (t ++ v)).2 l).1 - a * cost ws (v ++ [l]) ≤ y := h4
    rw [cost_mem g hm] at h5
    rw [Int.mul_add, Int.mul_add]
    omega
/-- SOUNDNESS -/
theorem Pot.bound {ws : Ws} (g : Good ws) {a b c : Int} {In : Tx × Tx → Int → Prop} (p : Pot ws a b c In) {t : Tx} {k : Int} (h : Reach ws t k) : b * mcost ws t ≤ a * k + c := by
  obtain ⟨x, h1, h2⟩ := p.reach g h
  have h3 := p.stop _ _ h1
  rw [rs_cost g (h.over g), Int.mul_add]
  omega
end K61

/-! K61M2: the graph of pairs; plain Lean. -/
namespace K61
structure Edge where
  src : Nat
  c : Nat
  dst : Nat
  one : Tx × Tx
  other : Tx × Tx
  gain : Int
  loss : Int
abbrev GSt := List (Tx × Tx) × List Edge
def addOne (src c : Nat) (one : Tx × Tx) (st : GSt) (s : Tx × Tx × Int × Int) : GSt :=
  if st.1.contains (s.1, s.2.1) then (st.1, st.2 ++ [⟨src, c, st.1.idxOf (s.1, s.2.1), one, (s.1, s.2.1), s.2.2.1, s.2.2.2⟩])
  else (st.1 ++ [(s.1, s.2.1)], st.2 ++ [⟨src, c, st.1.length, one, (s.1, s.2.1), s.2.2.1, s.2.2.2⟩])
def addLet (ws : Ws) (src : Nat) (one : Tx × Tx) (st : GSt) (c : Nat) : GSt := (steps ws one.1 one.2 c).foldl (addOne src c one) st
def addPlace (ws : Ws) (src : Nat) (st : GSt) : GSt := (lets ws).foldl (addLet ws src (st.1.getD src ([], []))) st
def graphF (ws : Ws) : Nat → Nat → GSt → GSt
  | 0, _, st => st
  | n + 1, p, st => if p < st.1.length then graphF ws n (p + 1) (addPlace ws p st) else st
def g0 : GSt := ([([], [])], [])
def graph (ws : Ws) : GSt := graphF ws 400 0 g0

theorem nodup_le {α : Type} [BEq α] [LawfulBEq α] : ∀ {l m : List α}, l.Nodup → (∀ x ∈ l, x ∈ m) → l.length ≤ m.length
  | [], _, _, _ => Nat.zero_le _
  | x :: l, m, nd, h => by
    rw [List.nodup_cons] at nd
    have hx := h x List.mem_cons_self
    have ih := nodup_le (l := l) (m := m.erase x) nd.2 (fun y hy => by
      have hne : y ≠ x := fun q => nd.1 (q ▸ hy)
      exact (List.mem_erase_of_ne hne).mpr (h y (List.mem_cons_of_mem _ hy)))
    rw [List.length_erase_of_mem hx] at ih
    have := List.length_pos_of_mem hx
    rw [List.length_cons]
    omega
theorem pigeon (n : Nat) (f : Nat → Nat) (h : ∀ i, i ≤ n → f i < n) : ∃ i j, i < j ∧ j ≤ n ∧ f i = f j := by
  refine Classical.byContradiction fun hc => ?_
  have nd : ((List.range (n + 1)).map f).Nodup := by
    unfold List.Nodup
    rw [List.pairwise_map]
    refine List.Pairwise.imp_of_mem ?_ (List.pairwise_lt_range (n := n + 1))
    intro a b _ hb hab e
    have hb := List.mem_range.mp hb
    exact hc ⟨a, b, hab, by omega, e⟩
  have hl := nodup_le (m := List.range n) nd (fun x hx => by
    obtain ⟨i, hi, rfl⟩ := List.mem_map.mp hx
    have hi := List.mem_range.mp hi
    exact List.mem_range.mpr (h i (by omega)))
  rw [List.length_map, List.length_range, List.length_range] at hl
  omega

/-! ### how many pairs -/
def prefs (ws : Ws) : List Tx := [] :: ws.flatMap (fun e => (List.range (e.1.length - 1)).map (fun k => e.1.take (k + 1)))
theorem held_prefs {ws : Ws} {h : Tx} (e : Held ws h) : h ∈ prefs ws := by
  unfold prefs
  rcases e with rfl | e
  · exact List.mem_cons_self
  · by_cases hn : h = []
    · rw [hn]; exact List.mem_cons_self
    · obtain ⟨v, hv, hp, hl⟩ := grow_iff.mp e
      obtain ⟨x, hx, rfl⟩ := mem_names.mp hv
      refine List.mem_cons_of_mem _ (List.mem_flatMap.mpr ⟨x, hx, List.mem_map.mpr ⟨h.length - 1, ?_, ?_⟩⟩)
      · rw [List.mem_range]
        have := List.length_pos_iff.mpr hn
        omega
      · have := List.length_pos_iff.mpr hn
        rw [show h.length - 1 + 1 = h.length by omega]
        exact (List.prefix_iff_eq_take.mp hp).symm
theorem prefs_len {ws : Ws} (g : Good ws) : (prefs ws).length ≤ 13 := by
  have key : ∀ l : Ws, (l.flatMap (fun e => (List.range (e.1.length - 1)).map (fun k => e.1.take (k + 1)))).length = (l.map (fun e => e.1.length - 1)).sum := by
    intro l
    induction l with
    | nil => rfl
    | cons e r ih => rw [List.flatMap_cons, List.length_append, ih, List.map_cons, List.sum_cons, List.length_map, List.length_range]
  unfold prefs
  rw [List.length_cons, key]
  have := g.room
  omega
theorem few_pairs {ws : Ws} (g : Good ws) {P : List (Tx × Tx)} (nd : P.Nodup) (h : ∀ p ∈ P, Held ws p.1 ∧ Held ws p.2) : P.length ≤ 169 := by
  have hl := nodup_le (m := (prefs ws).flatMap (fun a => (prefs ws).map (fun b => (a, b)))) nd (fun p hp => by
    have := h p hp
    exact List.mem_flatMap.mpr ⟨p.1, held_prefs this.1, List.mem_map.mpr ⟨p.2, held_prefs this.2, rfl⟩⟩)
  have key : ∀ l m : List Tx, (l.flatMap (fun a => m.map (fun b => (a, b)))).length = l.length * m.length := by
    intro l m
    induction l with
    | nil => simp
    | cons e r ih => rw [List.flatMap_cons, List.length_append, ih, List.length_map, List.length_cons, Nat.add_mul, Nat.one_mul, Nat.add_comm]
  rw [key] at hl
  have h1 := prefs_len g
  have : (prefs ws).length * (prefs ws).length ≤ 13 * 13 := Nat.mul_le_mul h1 h1
  omega

/-! ### the invariant -/
structure GI (ws : Ws) (st : GSt) : Prop where
  nd : st.1.Nodup
  hd : st.1[0]? = some ([], [])
  held : ∀ p ∈ st.1, Held ws p.1 ∧ Held ws p.2
  edge : ∀ e ∈ st.2, st.1[e.src]? = some e.one ∧ st.1[e.dst]? = some e.other ∧ e.c ∈ lets ws ∧ (e.other.1, e.other.2, e.gain, e.loss) ∈ steps ws e.one.1 e.one.2 e.c
  reach : ∀ j, 0 < j → j < st.1.length → ∃ e ∈ st.2, e.dst = j ∧ e.src < j
theorem GI.few {ws : Ws} {st : GSt} (g : Good ws) (i : GI ws st) : st.1.length ≤ 169 := few_pairs g i.nd i.held
theorem GI.pos {ws : Ws} {st : GSt} (i : GI ws st) : 0 < st.1.length := (List.getElem?_eq_some_iff.mp i.hd).1
theorem gi0 (ws : Ws) : GI ws g0 := by
  refine ⟨by unfold g0; simp, rfl, ?_, (fun e he => by cases he), ?_⟩
  · intro p hp
    have : p = ([], []) := by simpa [g0] using hp
    subst this
    exact ⟨.inl rfl, .inl rfl⟩
  · intro j h1 h2
    have : j < 1 := h2
    omega
/-- grows: pairs at their places, edges kept -/
structure GLe (st st' : GSt) : Prop where
  pre : st.1 <+: st'.1
  sub : st.2 <+: st'.2
theorem GLe.refl (st : GSt) : GLe st st := ⟨List.prefix_refl _, List.prefix_refl _⟩
theorem GLe.trans {a b c : GSt} (h : GLe a b) (h' : GLe b c) : GLe a c := ⟨h.pre.trans h'.pre, h.sub.trans h'.sub⟩
theorem GLe.at_ {st st' : GSt} (h : GLe st st') {i : Nat} {p : Tx × Tx} (e : st.1[i]? = some p) : st'.1[i]? = some p := by
  obtain ⟨r, hr⟩ := h.pre
  rw [← hr]
  have := (List.getElem?_eq_some_iff.mp e).1
  rw [List.getElem?_append_left this]
  exact e
theorem GLe.mem {st st' : GSt} (h : GLe st st') {e : Edge} (he : e ∈ st.2) : e ∈ st'.2 := by
  obtain ⟨r, hr⟩ := h.sub
  rw [← hr]
  exact List.mem_append_left _ he
theorem addOne_le (src c : Nat) (one : Tx × Tx) (st : GSt) (s : Tx × Tx × Int × Int) : GLe st (addOne src c one st s) := by
  unfold addOne
  split
  · exact ⟨List.prefix_refl _, List.prefix_append _ _⟩
  · exact ⟨List.prefix_append _ _, List.prefix_append _ _⟩
theorem addOne_ok {ws : Ws} (g : Good ws) {src c : Nat} {one : Tx × Tx} {st : GSt} {s : Tx × Tx × Int × Int} (i : GI ws st) (h1 : st.1[src]? = some one) (hc : c ∈ lets ws) (hs : s ∈ steps ws one.1 one.2 c) :
    GI ws (addOne src c one st s) ∧ (∃ e ∈ (addOne src c one st s).2, e.src = src ∧ e.one = one ∧ e.other = (s.1, s.2.1) ∧ e.gain = s.2.2.1 ∧ e.loss = s.2.2.2) := by
  have hsrc := (List.getElem?_eq_some_iff.mp h1).1
  have hone : one ∈ st.1 := List.mem_of_getElem? h1
  have hheld := i.held one hone
  have hst := steps_held g hheld.1 hc hs
  unfold addOne
  split
  · rename_i hm
    have hm : (s.1, s.2.1) ∈ st.1 := by simpa using hm
    have hix : st.1[st.1.idxOf (s.1, s.2.1)]? = some (s.1, s.2.1) := by
      rw [List.getElem?_eq_getElem (List.idxOf_lt_length_of_mem hm), List.getElem_idxOf]
    refine ⟨⟨i.nd, i.hd, i.held, ?_, ?_⟩, ⟨_, List.mem_append_right _ (List.mem_singleton.mpr rfl), rfl, rfl, rfl, rfl, rfl⟩⟩
    · intro e he
      rcases List.mem_append.mp he with he | he
      · exact i.edge e he
      · have := List.mem_singleton.mp he
        subst this
        exact ⟨h1, hix, hc, hs⟩
    · intro j hj hl
      obtain ⟨e, he, h⟩ := i.reach j hj hl
      exact ⟨e, List.mem_append_left _ he, h⟩
  · rename_i hm
    have hm : (s.1, s.2.1) ∉ st.1 := by simpa using hm
    have keep : ∀ k p, st.1[k]? = some p → (st.1 ++ [(s.1, s.2.1)])[k]? = some p := fun k p e => by
      rw [List.getElem?_append_left (List.getElem?_eq_some_iff.mp e).1]
      exact e
    refine ⟨⟨?_, keep _ _ i.hd, ?_, ?_, ?_⟩, ⟨_, List.mem_append_right _ (List.mem_singleton.mpr rfl), rfl, rfl, rfl, rfl, rfl⟩⟩
    · show (st.1 ++ [(s.1, s.2.1)]).Nodup
      rw [List.nodup_append]
      refine ⟨i.nd, by simp, fun a ha b hb => ?_⟩
      have := List.mem_singleton.mp hb
      subst this
      intro q
      exact hm (q ▸ ha)
    · intro p hp
      rcases List.mem_append.mp hp with hp | hp
      · exact i.held p hp
      · have := List.mem_singleton.mp hp
        subst this
        exact ⟨hst.1, hst.2.1⟩
    · intro e he
      rcases List.mem_append.mp he with he | he
      · obtain ⟨a, b, r⟩ := i.edge e he
        exact ⟨keep _ _ a, keep _ _ b, r⟩
      · have := List.mem_singleton.mp he
        subst this
        exact ⟨keep _ _ h1, by show (st.1 ++ [(s.1, s.2.1)])[st.1.length]? = _; simp, hc, hs⟩
    · intro j hj hl
      have hl : j < (st.1 ++ [(s.1, s.2.1)]).length := hl
      rw [List.length_append, List.length_singleton] at hl
      by_cases hjl : j < st.1.length
      · obtain ⟨e, he, h⟩ := i.reach j hj hjl
        exact ⟨e, List.mem_append_left _ he, h⟩
      · refine ⟨_, List.mem_append_right _ (List.mem_singleton.mpr rfl), ?_, ?_⟩
        · show st.1.length = j
          omega
        · show src < j
          omega
/-- a place is done with a letter, with all -/
def DoneC (ws : Ws) (st : GSt) (src c : Nat) (one : Tx × Tx) : Prop := ∀ s ∈ steps ws one.1 one.2 c, ∃ e ∈ st.2, e.src = src ∧ e.one = one ∧ e.other = (s.1, s.2.1) ∧ e.gain = s.2.2.1 ∧ e.loss = s.2.2.2
theorem addSteps_ok {ws : Ws} (g : Good ws) {src c : Nat} {one : Tx × Tx} (hc : c ∈ lets ws) : ∀ (l : List (Tx × Tx × Int × Int)) (st : GSt), (∀ s ∈ l, s ∈ steps ws one.1 one.2 c) → GI ws st → st.1[src]? = some one →
    GI ws (l.foldl (addOne src c one) st) ∧ GLe st (l.foldl (addOne src c one) st) ∧ ∀ s ∈ l, ∃ e ∈ (l.foldl (addOne src c one) st).2, e.src = src ∧ e.one = one ∧ e.other = (s.1, s.2.1) ∧ e.gain = s.2.2.1 ∧ e.loss = s.2.2.2
  | [], st, _, i, _ => ⟨i, GLe.refl _, fun s hs => by cases hs⟩
  | s :: r, st, hm, i, h1 => by
    have a := addOne_ok g i h1 hc (hm s List.mem_cons_self)
    have le := addOne_le src c one st s
    have ih := addSteps_ok g hc r (addOne src c one st s) (fun x hx => hm x (List.mem_cons_of_mem _ hx)) a.1 (le.at_ h1)
    refine ⟨ih.1, le.trans ih.2.1, fun x hx => ?_⟩
    rcases List.mem_cons.mp hx with rfl | hx
    · obtain ⟨e, he, h⟩ := a.2
      exact ⟨e, ih.2.1.mem he, h⟩
    · exact ih.2.2 x hx
theorem addLet_ok {ws : Ws} (g : Good ws) {src c : Nat} {one : Tx × Tx} {st : GSt} (hc : c ∈ lets ws) (i : GI ws st) (h1 : st.1[src]? = some one) :
    GI ws (addLet ws src one st c) ∧ GLe st (addLet ws src one st c) ∧ DoneC ws (addLet ws src one st c) src c one :=
  addSteps_ok g hc _ st (fun _ h => h) i h1
theorem addLets_ok {ws : Ws} (g : Good ws) {src : Nat} {one : Tx × Tx} : ∀ (l : List Nat) (st : GSt), (∀ c ∈ l, c ∈ lets ws) → GI ws st → st.1[src]? = some one →
    GI ws (l.foldl (addLet ws src one) st) ∧ GLe st (l.foldl (addLet ws src one) st) ∧ ∀ c ∈ l, DoneC ws (l.foldl (addLet ws src one) st) src c one
  | [], st, _, i, _ => ⟨i, GLe.refl _, fun s hs => by cases hs⟩
  | c :: r, st, hm, i, h1 => by
    have a := addLet_ok g (hm c List.mem_cons_self) i h1
    have ih := addLets_ok g r (addLet ws src one st c) (fun x hx => hm x (List.mem_cons_of_mem _ hx)) a.1 (a.2.1.at_ h1)
    refine ⟨ih.1, a.2.1.trans ih.2.1, fun x hx => ?_⟩
    rcases List.mem_cons.mp hx with rfl | hx
    · intro s hs
      obtain ⟨e, he, h⟩ := a.2.2 s hs
      exact ⟨e, ih.2.1.mem he, h⟩
    · exact ih.2.2 x hx
def Done (ws : Ws) (st : GSt) (i : Nat) : Prop := ∀ one, st.1[i]? = some one → ∀ c ∈ lets ws, DoneC ws st i c one
theorem Done.le {ws : Ws} {st st' : GSt} {i : Nat} (d : Done ws st i) (l : GLe st st') (hi : i < st.1.length) : Done ws st' i := by
  intro one h1 c hc s hs
  have h2 : st.1[i]? = some one := by
    have h3 : st.1[i]? = some st.1[i] := List.getElem?_eq_getElem hi
    have h4 := l.at_ h3
    rw [h1] at h4
    rw [h3, ← h4]
  obtain ⟨e, he, h⟩ := d one h2 c hc s hs
  exact ⟨e, l.mem he, h⟩
theorem addPlace_ok {ws : Ws} (g : Good ws) {src : Nat} {st : GSt} (i : GI ws st) (h : src < st.1.length) :
    GI ws (addPlace ws src st) ∧ GLe st (addPlace ws src st) ∧ Done ws (addPlace ws src st) src := by
  have h1 : st.1[src]? = some (st.1.getD src ([], [])) := by
    rw [List.getElem?_eq_getElem h]
    simp [h]
  have a := addLets_ok g (lets ws) st (fun _ h => h) i h1
  refine ⟨a.1, a.2.1, fun one ho c hc => ?_⟩
  have h2 := a.2.1.at_ h1
  have h3 : (addPlace ws src st).1[src]? = some (st.1.getD src ([], [])) := h2
  rw [h3] at ho
  rw [← Option.some.inj ho]
  exact a.2.2 c hc
theorem graphF_stop {ws : Ws} {n p : Nat} {st : GSt} (h : st.1.length ≤ p) : graphF ws n p st = st := by
  cases n with
  | zero => rfl
  | succ n => unfold graphF; rw [if_neg (by omega)]
theorem graphF_go {ws : Ws} {n p : Nat} {st : GSt} (h : p < st.1.length) : graphF ws (n + 1) p st = graphF ws n (p + 1) (addPlace ws p st) := by
  show (if p < st.1.length then _ else _) = _
  rw [if_pos h]
theorem graphF_ok {ws : Ws} (g : Good ws) : ∀ (n p : Nat) (st : GSt), 170 ≤ n + p → GI ws st → (∀ i, i < p → i < st.1.length → Done ws st i) →
    GI ws (graphF ws n p st) ∧ ∀ i, i < (graphF ws n p st).1.length → Done ws (graphF ws n p st) i
  | 0, p, st, hn, i, hd => ⟨i, fun k hk => hd k (by have := i.few g; show k < p; have hk : k < st.1.length := hk; omega) hk⟩
  | n + 1, p, st, hn, i, hd => by
    by_cases h : p < st.1.length
    · rw [graphF_go h]
      have a := addPlace_ok g i h
      refine graphF_ok g n (p + 1) _ (by omega) a.1 (fun k hk _ => ?_)
      by_cases hkp : k = p
      · rw [hkp]; exact a.2.2
      · exact (hd k (by omega) (by omega)).le a.2.1 (by omega)
    · rw [graphF_stop (by omega)]
      exact ⟨i, fun k hk => hd k (by omega) hk⟩
structure Gr (ws : Ws) (st : GSt) : Prop where
  gi : GI ws st
  done : ∀ i, i < st.1.length → Done ws st i
theorem graph_ok {ws : Ws} (g : Good ws) : Gr ws (graph ws) := by
  have h := graphF_ok g 400 0 g0 (by omega) (gi0 ws) (fun i h => by omega)
  exact ⟨h.1, h.2⟩
theorem steps_le2 (ws : Ws) (h t : Tx) (c : Nat) : (steps ws h t c).length ≤ 2 := by
  unfold steps
  rw [List.length_append]
  split <;> split <;> simp
theorem addOne_elen (src c : Nat) (one : Tx × Tx) (st : GSt) (s : Tx × Tx × Int × Int) : (addOne src c one st s).2.length = st.2.length + 1 := by
  unfold addOne
  split <;> simp
theorem foldl_elen (src c : Nat) (one : Tx × Tx) : ∀ (l : List (Tx × Tx × Int × Int)) (st : GSt), (l.foldl (addOne src c one) st).2.length = st.2.length + l.length
  | [], st => rfl
  | s :: r, st => by
    rw [List.foldl_cons, foldl_elen src c one r, addOne_elen, List.length_cons]
    omega
theorem addLet_elen (ws : Ws) (src : Nat) (one : Tx × Tx) (st : GSt) (c : Nat) : (addLet ws src one st c).2.length ≤ st.2.length + 2 := by
  unfold addLet
  rw [foldl_elen]
  have := steps_le2 ws one.1 one.2 c
  omega
theorem addLets_elen (ws : Ws) (src : Nat) (one : Tx × Tx) : ∀ (l : List Nat) (st : GSt), (l.foldl (addLet ws src one) st).2.length ≤ st.2.length + 2 * l.length
  | [], st => Nat.le_refl _
  | c :: r, st => by
    rw [List.foldl_cons, List.length_cons]
    have h1 := addLets_elen ws src one r (addLet ws src one st c)
    have h2 := addLet_elen ws src one st c
    omega
theorem lets_len {ws : Ws} (g : Good ws) : (lets ws).length ≤ 8 := by
  have key : ∀ l : Ws, ((l.filter (fun e => e.1.length == 1)).flatMap (·.1)).length ≤ l.length := by
    intro l
    induction l with
    | nil => exact Nat.le_refl _
    | cons e r ih =>
      rw [List.filter_cons]
      split
      · rename_i h
        have h : e.1.length = 1 := by simpa using h
        rw [List.flatMap_cons, List.length_append, h, List.length_cons]
        omega
      · rw [List.length_cons]
        omega
  exact Nat.le_trans (key ws) g.few
end K61

/-! K61M3: the climb; plain Lean. -/
namespace K61
def wt (a b : Int) (e : Edge) : Int := b * e.gain - a * e.loss
abbrev Hs := List (Option Int)
abbrev Ls := List (Option Nat)
abbrev CSt := Hs × Ls × Option Nat
def rise1 (a b : Int) (k : Nat) (e : Edge) (st : CSt) : CSt :=
  match st.1.getD e.src none with
  | none => st
  | some x => match st.1.getD e.dst none with
    | none => (st.1.set e.dst (some (x + wt a b e)), st.2.1.set e.dst (some k), some e.dst)
    | some y => if y < x + wt a b e then (st.1.set e.dst (some (x + wt a b e)), st.2.1.set e.dst (some k), some e.dst) else st
def riseF (a b : Int) : Nat → List Edge → CSt → CSt
  | _, [], st => st
  | k, e :: r, st => riseF a b (k + 1) r (rise1 a b k e st)
def rise (a b : Int) (E : List Edge) (hs : Hs) (ls : Ls) : CSt := riseF a b 0 E (hs, ls, none)
def climbF (a b : Int) (E : List Edge) : Nat → Option Nat → Hs → Ls → Bool × CSt
  | 0, r, hs, ls => (false, hs, ls, r)
  | n + 1, _, hs, ls => if (rise a b E hs ls).2.2 = none then (true, rise a b E hs ls) else climbF a b E n (rise a b E hs ls).2.2 (rise a b E hs ls).1 (rise a b E hs ls).2.1
def hs0 (n : Nat) : Hs := (List.replicate n none).set 0 (some 0)
def ls0 (n : Nat) : Ls := List.replicate n none
def climb (a b : Int) (st : GSt) : Bool × CSt := climbF a b st.2 (st.1.length + 1) none (hs0 st.1.length) (ls0 st.1.length)

/-- a raise, told -/
theorem rise1_cases (a b : Int) (k : Nat) (e : Edge) (st : CSt) :
    (rise1 a b k e st = st ∧ ∀ x, st.1.getD e.src none = some x → ∃ y, st.1.getD e.dst none = some y ∧ x + wt a b e ≤ y) ∨
    ∃ x, st.1.getD e.src none = some x ∧ (∀ y, st.1.getD e.dst none = some y → y < x + wt a b e) ∧ rise1 a b k e st = (st.1.set e.dst (some (x + wt a b e)), st.2.1.set e.dst (some k), some e.dst) := by
  unfold rise1
  cases h1 : st.1.getD e.src none with
  | none => exact .inl ⟨rfl, fun x hx => by cases hx⟩
  | some x =>
    cases h2 : st.1.getD e.dst none with
    | none => exact .inr ⟨x, rfl, (fun y hy => by cases hy), rfl⟩
    | some y =>
      by_cases hlt : y < x + wt a b e
      · right
        refine ⟨x, rfl, fun z hz => ?_, ?_⟩
        · cases hz; exact hlt
        · show (if y < x + wt a b e then _ else _) = _
          rw [if_pos hlt]
      · left
        refine ⟨?_, fun z hz => ?_⟩
        · show (if y < x + wt a b e then _ else _) = _
          rw [if_neg hlt]
        · cases hz
          exact ⟨y, rfl, by omega⟩
theorem getD_set {α : Type} (l : List (Option α)) (i j : Nat) (v : Option α) (h : i < l.length) : (l.set i v).getD j none = if j = i then v else l.getD j none := by
  rw [List.getD_eq_getElem?_getD, List.getD_eq_getElem?_getD, List.getElem?_set]
  by_cases e : i = j
  · subst e; simp [h]
  · rw [if_neg e, if_neg (fun q => e q.symm)]
theorem getD_lt {α : Type} {l : List (Option α)} {i : Nat} {v : α} (h : l.getD i none = some v) : i < l.length := by
  refine Classical.byContradiction fun hc => ?_
  rw [List.getD_eq_getElem?_getD, List.getElem?_eq_none (by omega)] at h
  cases h

/-! ### ways -/
def segOk (E : List Edge) : Nat → List Edge → Prop
  | _, [] => True
  | u, e :: r => e ∈ E ∧ e.src = u ∧ segOk E e.dst r
def endF : Nat → List Edge → Nat
  | u, [] => u
  | _, e :: r => endF e.dst r
def sumW (a b : Int) : List Edge → Int
  | [] => 0
  | e :: r => wt a b e + sumW a b r
theorem endF_append : ∀ (A B : List Edge) (u : Nat), endF u (A ++ B) = endF (endF u A) B
  | [], _, _ => rfl
  | e :: r, B, u => endF_append r B e.dst
theorem segOk_append {E : List Edge} : ∀ (A B : List Edge) (u : Nat), segOk E u (A ++ B) ↔ segOk E u A ∧ segOk E (endF u A) B
  | [], _, _ => by simp [segOk, endF]
  | e :: r, B, u => by
    show (e ∈ E ∧ e.src = u ∧ segOk E e.dst (r ++ B)) ↔ (e ∈ E ∧ e.src = u ∧ segOk E e.dst r) ∧ segOk E (endF e.dst r) B
    rw [segOk_append r B e.dst]
    constructor
    · rintro ⟨h1, h2, h3, h4⟩; exact ⟨⟨h1, h2, h3⟩, h4⟩
    · rintro ⟨⟨h1, h2, h3⟩, h4⟩; exact ⟨h1, h2, h3, h4⟩
theorem sumW_append (a b : Int) : ∀ (A B : List Edge), sumW a b (A ++ B) = sumW a b A + sumW a b B
  | [], B => by show sumW a b B = 0 + sumW a b B; omega
  | e :: r, B => by
    show wt a b e + sumW a b (r ++ B) = wt a b e + sumW a b r + sumW a b B
    rw [sumW_append a b r B]
    omega
def Feas (a b : Int) (E : List Edge) (hs : Hs) : Prop := ∀ e ∈ E, ∀ x, hs.getD e.src none = some x → ∃ y, hs.getD e.dst none = some y ∧ x + wt a b e ≤ y
theorem Feas.seg {a b : Int} {E : List Edge} {hs : Hs} (f : Feas a b E hs) : ∀ (W : List Edge) (u : Nat) (x : Int), segOk E u W → hs.getD u none = some x → ∃ y, hs.getD (endF u W) none = some y ∧ x + sumW a b W ≤ y
  | [], u, x, _, h => ⟨x, h, by show x + 0 ≤ x; omega⟩
  | e :: r, u, x, hw, h => by
    obtain ⟨h1, h2, h3⟩ := hw
    rw [← h2] at h
    obtain ⟨y, hy, hl⟩ := f e h1 x h
    obtain ⟨z, hz, hl2⟩ := Feas.seg f r e.dst y h3 hy
    exact ⟨z, hz, by show x + (wt a b e + sumW a b r) ≤ z; omega⟩
theorem endF_lt {E : List Edge} {n : Nat} (hd : ∀ e ∈ E, e.dst < n) : ∀ (W : List Edge) (u : Nat), u < n → segOk E u W → endF u W < n
  | [], _, h, _ => h
  | e :: r, _, _, hw => endF_lt hd r e.dst (hd e hw.1) hw.2.2
theorem shorten {a b : Int} {E : List Edge} {hs : Hs} {n : Nat} {h0 : Int} (f : Feas a b E hs) (hd : ∀ e ∈ E, e.dst < n) (hn : 0 < n) (hh : hs.getD 0 none = some h0) :
    ∀ (m : Nat) (W : List Edge), W.length ≤ m → segOk E 0 W → ∃ W', segOk E 0 W' ∧ endF 0 W' = endF 0 W ∧ sumW a b W ≤ sumW a b W' ∧ W'.length < n
  | 0, W, hl, hw => ⟨W, hw, rfl, Int.le_refl _, by omega⟩
  | m + 1, W, hl, hw => by
    by_cases hlt : W.length < n
    · exact ⟨W, hw, rfl, Int.le_refl _, hlt⟩
    · obtain ⟨i, j, hij, hjn, he⟩ := pigeon n (fun i => endF 0 (W.take i)) (fun i _ => by
        refine endF_lt hd _ 0 hn ?_
        have e1 : W = W.take i ++ W.drop i := (List.take_append_drop i W).symm
        rw [e1] at hw
        exact ((segOk_append _ _ _).mp hw).1)
      have he : endF 0 (W.take i) = endF 0 (W.take j) := he
      have eB : W.take j = W.take i ++ (W.take j).drop i := by
        have h1 : (W.take j).take i = W.take i := by rw [List.take_take, Nat.min_eq_left (by omega)]
        rw [← h1]
        exact (List.take_append_drop i (W.take j)).symm
      have eW : W = W.take i ++ ((W.take j).drop i ++ W.drop j) := by
        rw [← List.append_assoc, ← eB]
        exact (List.take_append_drop j W).symm
      have hw1 : segOk E 0 (W.take i ++ ((W.take j).drop i ++ W.drop j)) := by rw [← eW]; exact hw
      obtain ⟨hA, hBC⟩ := (segOk_append _ _ _).mp hw1
      obtain ⟨hB, hC⟩ := (segOk_append _ _ _).mp hBC
      have hu : endF (endF 0 (W.take i)) ((W.take j).drop i) = endF 0 (W.take i) := by
        rw [← endF_append, ← eB, ← he]
      rw [hu] at hC
      obtain ⟨y, hy, _⟩ := f.seg _ 0 h0 hA hh
      obtain ⟨z, hz, hle⟩ := f.seg _ _ y hB hy
      rw [hu, hy] at hz
      have hzy : y = z := Option.some.inj hz
      have hlenAC : (W.take i ++ W.drop j).length < W.length := by
        rw [List.length_append, List.length_take, List.length_drop]
        omega
      obtain ⟨W', k1, k2, k3, k4⟩ := shorten f hd hn hh m (W.take i ++ W.drop j) (by omega) ((segOk_append _ _ _).mpr ⟨hA, hC⟩)
      have e1 : endF 0 W = endF (endF 0 (W.take i)) (W.drop j) := by
        conv => lhs; rw [eW]
        rw [endF_append, endF_append, hu]
      have e2 : sumW a b W = sumW a b (W.take i) + (sumW a b ((W.take j).drop i) + sumW a b (W.drop j)) := by
        conv => lhs; rw [eW]
        rw [sumW_append, sumW_append]
      refine ⟨W', k1, ?_, ?_, k4⟩
      · rw [k2, e1, endF_append]
      · rw [sumW_append] at k3
        omega
theorem sumW_le {a b M : Int} {E : List Edge} (hM : ∀ e ∈ E, wt a b e ≤ M) : ∀ (W : List Edge) (u : Nat), segOk E u W → sumW a b W ≤ M * (W.length : Int)
  | [], _, _ => by show (0 : Int) ≤ M * ((0 : Nat) : Int); simp
  | e :: r, u, hw => by
    have h1 := hM e hw.1
    have h2 := sumW_le hM r e.dst hw.2.2
    show wt a b e + sumW a b r ≤ M * ((r.length + 1 : Nat) : Int)
    rw [Int.natCast_add, Int.mul_add]
    simp only [Int.natCast_one, Int.mul_one]
    omega

/-! ### the invariant of all rounds -/
structure CI (a b : Int) (n : Nat) (E : List Edge) (hs : Hs) (ls : Ls) : Prop where
  hl : hs.length = n
  ll : ls.length = n
  ways : ∀ v x, hs.getD v none = some x → ∃ W, segOk E 0 W ∧ endF 0 W = v ∧ sumW a b W = x
  start : ∃ x, hs.getD 0 none = some x ∧ 0 ≤ x
structure EOk (n : Nat) (E : List Edge) : Prop where
  src : ∀ e ∈ E, e.src < n
  dst : ∀ e ∈ E, e.dst < n
  pos : 0 < n
theorem ci0 {a b : Int} {n : Nat} {E : List Edge} (hn : 0 < n) : CI a b n E (hs0 n) (ls0 n) := by
  have hl : (List.replicate n (none : Option Int)).length = n := List.length_replicate
  have key : ∀ v, (hs0 n).getD v none = if v = 0 then some 0 else none := fun v => by
    unfold hs0
    rw [getD_set _ _ _ _ (by rw [hl]; exact hn)]
    split
    · rfl
    · rw [List.getD_eq_getElem?_getD, List.getElem?_replicate]
      split <;> rfl
  refine ⟨by unfold hs0; rw [List.length_set, hl], List.length_replicate, fun v x h => ?_, ⟨0, by rw [key, if_pos rfl], Int.le_refl _⟩⟩
  rw [key] at h
  split at h
  · rename_i e
    cases h
    exact ⟨[], trivial, e.symm, rfl⟩
  · cases h
theorem CI.step {a b : Int} {n : Nat} {E : List Edge} {k : Nat} {e : Edge} {st : CSt} (ok : EOk n E) (he : e ∈ E) (c : CI a b n E st.1 st.2.1) : CI a b n E (rise1 a b k e st).1 (rise1 a b k e st).2.1 := by
  rcases rise1_cases a b k e st with ⟨h, _⟩ | ⟨x, hx, hy, h⟩
  · rw [h]; exact c
  · rw [h]
    have hd : e.dst < st.1.length := by rw [c.hl]; exact ok.dst e he
    refine ⟨by rw [List.length_set]; exact c.hl, by rw [List.length_set]; exact c.ll, fun v z hz => ?_, ?_⟩
    · rw [getD_set _ _ _ _ hd] at hz
      split at hz
      · rename_i hv
        cases hz
        obtain ⟨W, w1, w2, w3⟩ := c.ways _ _ hx
        refine ⟨W ++ [e], (segOk_append _ _ _).mpr ⟨w1, he, w2.symm, trivial⟩, ?_, ?_⟩
        · rw [endF_append]; exact hv.symm
        · rw [sumW_append, w3]
          show x + (wt a b e + 0) = x + wt a b e
          omega
      · exact c.ways v z hz
    · obtain ⟨z, hz, h0⟩ := c.start
      rw [getD_set _ _ _ _ hd]
      split
      · rename_i hv
        rw [hv] at hz
        have := hy z hz
        exact ⟨_, rfl, by omega⟩
      · exact ⟨z, hz, h0⟩
theorem riseF_ind {a b : Int} {E : List Edge} {C : Nat → CSt → Prop} (hstep : ∀ k e st, E[k]? = some e → C k st → C (k + 1) (rise1 a b k e st)) :
    ∀ (E2 E1 : List Edge) (st : CSt), E = E1 ++ E2 → C E1.length st → C E.length (riseF a b E1.length E2 st)
  | [], E1, st, he, h => by
    rw [List.append_nil] at he
    rw [he]
    exact h
  | e :: r, E1, st, he, h => by
    have h1 : E[E1.length]? = some e := by rw [he]; simp
    have ih := riseF_ind hstep r (E1 ++ [e]) (rise1 a b E1.length e st) (by rw [he]; simp) (by
      rw [List.length_append, List.length_singleton]
      exact hstep _ _ _ h1 h)
    rw [List.length_append, List.length_singleton] at ih
    exact ih
theorem rise_ind {a b : Int} {E : List Edge} {hs : Hs} {ls : Ls} {C : Nat → CSt → Prop} (h0 : C 0 (hs, ls, none)) (hstep : ∀ k e st, E[k]? = some e → C k st → C (k + 1) (rise1 a b k e st)) : C E.length (rise a b E hs ls) :=
  riseF_ind hstep E [] (hs, ls, none) rfl h0
theorem CI.rise {a b : Int} {n : Nat} {E : List Edge} {hs : Hs} {ls : Ls} (ok : EOk n E) (c : CI a b n E hs ls) : CI a b n E (rise a b E hs ls).1 (rise a b E hs ls).2.1 :=
  rise_ind (C := fun _ st => CI a b n E st.1 st.2.1) c (fun _ _ _ he h => h.step ok (List.mem_of_getElem? he))
theorem riseF_none {a b : Int} : ∀ (E : List Edge) (k : Nat) (st : CSt), (riseF a b k E st).2.2 = none → riseF a b k E st = st ∧ Feas a b E st.1
  | [], _, st, _ => ⟨rfl, fun e he => by cases he⟩
  | e :: r, k, st, h => by
    have ih := riseF_none r (k + 1) (rise1 a b k e st) h
    have h2 : (rise1 a b k e st).2.2 = none := by
      have := congrArg (fun s : CSt => s.2.2) ih.1
      rw [← this]
      exact h
    rcases rise1_cases a b k e st with ⟨h3, h4⟩ | ⟨x, _, _, h3⟩
    · have i1 := ih.1
      have i2 := ih.2
      rw [h3] at i1 i2
      refine ⟨?_, fun d hd x hx => ?_⟩
      · show riseF a b (k + 1) r (rise1 a b k e st) = st
        rw [h3]; exact i1
      · rcases List.mem_cons.mp hd with rfl | hd
        · exact h4 x hx
        · exact i2 d hd x hx
    · rw [h3] at h2
      cases h2

/-! ### the stamps -/
structure Stamp (a b : Int) (n : Nat) (E : List Edge) (r k : Nat) (st : CSt) (tm : Nat → Nat) : Prop where
  le : ∀ v, tm v ≤ r
  sat : ∀ (m : Nat) (e : Edge) (x : Int), E[m]? = some e → st.1.getD e.src none = some x → ((tm e.src + 1 ≤ r ∧ m < k) ∨ tm e.src + 2 ≤ r) → ∃ y, st.1.getD e.dst none = some y ∧ x + wt a b e ≤ y
  last : ∀ v k', st.2.1.getD v none = some k' → ∃ e, E[k']? = some e ∧ e.dst = v ∧ tm v ≤ tm e.src + 1
  there : ∀ v, 1 ≤ tm v → ∃ k', st.2.1.getD v none = some k'
  rz : ∀ v, st.2.2 = some v → tm v = r ∧ v < n
theorem Stamp.step {a b : Int} {n : Nat} {E : List Edge} {r k : Nat} {e : Edge} {st : CSt} {tm : Nat → Nat} (ok : EOk n E) (hl : st.1.length = n) (ll : st.2.1.length = n) (hr : 1 ≤ r) (he : E[k]? = some e) (t : Stamp a b n E r k st tm) :
    ∃ tm', Stamp a b n E r (k + 1) (rise1 a b k e st) tm' := by
  have hm : e ∈ E := List.mem_of_getElem? he
  rcases rise1_cases a b k e st with ⟨h, hs⟩ | ⟨x, hx, hy, h⟩
  · rw [h]
    refine ⟨tm, t.le, fun m d z hd hz hc => ?_, t.last, t.there, t.rz⟩
    by_cases hmk : m = k
    · subst hmk
      rw [he] at hd
      cases hd
      exact hs z hz
    · refine t.sat m d z hd hz ?_
      rcases hc with ⟨c1, c2⟩ | c
      · exact .inl ⟨c1, by omega⟩
      · exact .inr c
  · rw [h]
    have hd1 : e.dst < st.1.length := by rw [hl]; exact ok.dst e hm
    have hd2 : e.dst < st.2.1.length := by rw [ll]; exact ok.dst e hm
    -- the source was raised in this round or the one before
    have hts : r ≤ tm e.src + 1 := by
      refine Classical.byContradiction fun hc => ?_
      obtain ⟨y, hy1, hy2⟩ := t.sat k e x he hx (.inr (by omega))
      have := hy y hy1
      omega
    refine ⟨fun v => if v = e.dst then r else tm v, fun v => ?_, fun m d z hd hz0 hc0 => ?_, fun v k' hk' => ?_, fun v hv => ?_, fun v hv => ?_⟩
    · show (if v = e.dst then r else tm v) ≤ r
      split
      · exact Nat.le_refl _
      · exact t.le v
    · have hc : (((if d.src = e.dst then r else tm d.src) + 1 ≤ r ∧ m < k + 1) ∨ (if d.src = e.dst then r else tm d.src) + 2 ≤ r) := hc0
      have hz : (st.1.set e.dst (some (x + wt a b e))).getD d.src none = some z := hz0
      clear hz0 hc0
      show ∃ y, (st.1.set e.dst (some (x + wt a b e))).getD d.dst none = some y ∧ z + wt a b d ≤ y
      by_cases hse : d.src = e.dst
      · rw [if_pos hse] at hc
        omega
      · rw [if_neg hse] at hc
        rw [getD_set _ _ _ _ hd1, if_neg hse] at hz
        rw [getD_set _ _ _ _ hd1]
        by_cases hmk : m = k
        · subst hmk
          rw [he] at hd
          cases hd
          rw [hx] at hz
          cases hz
          rw [if_pos rfl]
          exact ⟨_, rfl, Int.le_refl _⟩
        · obtain ⟨y, hy1, hy2⟩ := t.sat m d z hd hz (by
            rcases hc with ⟨c1, c2⟩ | c
            · exact .inl ⟨c1, by omega⟩
            · exact .inr c)
          split
          · rename_i hde
            rw [hde] at hy1
            have := hy y hy1
            exact ⟨_, rfl, by omega⟩
          · exact ⟨y, hy1, hy2⟩
    · have hk' : (st.2.1.set e.dst (some k)).getD v none = some k' := hk'
      rw [getD_set _ _ _ _ hd2] at hk'
      by_cases hv : v = e.dst
      · rw [if_pos hv] at hk'
        cases hk'
        refine ⟨e, he, hv.symm, ?_⟩
        show (if v = e.dst then r else tm v) ≤ (if e.src = e.dst then r else tm e.src) + 1
        rw [if_pos hv]
        split
        · omega
        · exact hts
      · rw [if_neg hv] at hk'
        obtain ⟨d, hd, hdv, hle⟩ := t.last v k' hk'
        refine ⟨d, hd, hdv, ?_⟩
        show (if v = e.dst then r else tm v) ≤ (if d.src = e.dst then r else tm d.src) + 1
        rw [if_neg hv]
        split
        · have := t.le v
          omega
        · exact hle
    · have hv : 1 ≤ (if v = e.dst then r else tm v) := hv
      show ∃ k', (st.2.1.set e.dst (some k)).getD v none = some k'
      rw [getD_set _ _ _ _ hd2]
      split
      · exact ⟨k, rfl⟩
      · rename_i hne
        rw [if_neg hne] at hv
        exact t.there v hv
    · have hv : some e.dst = some v := hv
      cases hv
      exact ⟨if_pos rfl, ok.dst e hm⟩
theorem Stamp.rise {a b : Int} {n : Nat} {E : List Edge} {r : Nat} {hs : Hs} {ls : Ls} {ra : Option Nat} {tm : Nat → Nat} (ok : EOk n E) (c : CI a b n E hs ls) (t : Stamp a b n E r E.length (hs, ls, ra) tm) :
    ∃ tm', Stamp a b n E (r + 1) E.length (rise a b E hs ls) tm' := by
  have h := rise_ind (a := a) (b := b) (E := E) (hs := hs) (ls := ls) (C := fun k st => CI a b n E st.1 st.2.1 ∧ ∃ tm', Stamp a b n E (r + 1) k st tm') ⟨c, tm, ?_⟩ (fun k e st he h => ?_)
  · exact h.2
  · refine ⟨fun v => Nat.le_succ_of_le (t.le v), fun m e x hm hx hc => ?_, t.last, t.there, fun v hv => by cases hv⟩
    refine t.sat m e x hm hx ?_
    have := (List.getElem?_eq_some_iff.mp hm).1
    rcases hc with ⟨_, c2⟩ | c
    · omega
    · exact .inl ⟨by omega, this⟩
  · obtain ⟨c, tm, t⟩ := h
    exact ⟨c.step ok (List.mem_of_getElem? he), t.step ok c.hl c.ll (by omega) he⟩
theorem ts0 (a b : Int) (n : Nat) (E : List Edge) : Stamp a b n E 0 E.length (hs0 n, ls0 n, none) (fun _ => 0) := by
  refine ⟨fun _ => Nat.le_refl _, fun m e x _ _ hc => ?_, fun v k' h => ?_, fun v h => by omega, fun v h => by cases h⟩
  · rcases hc with ⟨c, _⟩ | c <;> omega
  · unfold ls0 at h
    rw [List.getD_eq_getElem?_getD, List.getElem?_replicate] at h
    split at h <;> cases h

/-! ### the end of the rounds -/
theorem climbF_ok {a b : Int} {n : Nat} {E : List Edge} (ok : EOk n E) : ∀ (m r : Nat) (ra : Option Nat) (hs : Hs) (ls : Ls) (tm : Nat → Nat), (m = 0 → ∃ v, ra = some v) → CI a b n E hs ls → Stamp a b n E r E.length (hs, ls, ra) tm →
    CI a b n E (climbF a b E m ra hs ls).2.1 (climbF a b E m ra hs ls).2.2.1 ∧
    ((climbF a b E m ra hs ls).1 = true → Feas a b E (climbF a b E m ra hs ls).2.1) ∧
    ((climbF a b E m ra hs ls).1 = false → ∃ v tm', (climbF a b E m ra hs ls).2.2.2 = some v ∧ Stamp a b n E (r + m) E.length (climbF a b E m ra hs ls).2 tm')
  | 0, r, ra, hs, ls, tm, h0, c, t => ⟨c, (fun h => by cases h), fun _ => by
      obtain ⟨v, hv⟩ := h0 rfl
      exact ⟨v, tm, hv, t⟩⟩
  | m + 1, r, ra, hs, ls, tm, _, c, t => by
    unfold climbF
    have c' := c.rise ok
    by_cases h : (rise a b E hs ls).2.2 = none
    · rw [if_pos h]
      have hf := riseF_none E 0 (hs, ls, none) h
      refine ⟨c', fun _ => ?_, (fun h => by cases h)⟩
      show Feas a b E (rise a b E hs ls).1
      have e : rise a b E hs ls = (hs, ls, none) := hf.1
      rw [e]
      exact hf.2
    · rw [if_neg h]
      obtain ⟨tm', t'⟩ := t.rise ok c
      have ih := climbF_ok ok m (r + 1) (rise a b E hs ls).2.2 (rise a b E hs ls).1 (rise a b E hs ls).2.1 tm' (fun _ => Option.ne_none_iff_exists'.mp h) c' t'
      refine ⟨ih.1, ih.2.1, fun hf => ?_⟩
      obtain ⟨v, tm2, hv, t2⟩ := ih.2.2 hf
      exact ⟨v, tm2, hv, by rw [show r + (m + 1) = r + 1 + m by omega]; exact t2⟩
def prd (E : List Edge) (ls : Ls) (v : Nat) : Nat := match ls.getD v none with
  | some k => (match E[k]? with
    | some e => e.src
    | none => v)
  | none => v
def itr (f : Nat → Nat) : Nat → Nat → Nat
  | 0, v => v
  | n + 1, v => itr f n (f v)
theorem itr_succ (f : Nat → Nat) : ∀ (n v : Nat), itr f (n + 1) v = f (itr f n v)
  | 0, v => rfl
  | n + 1, v => itr_succ f n (f v)
theorem itr_add (f : Nat → Nat) (m : Nat) : ∀ (n v : Nat), itr f (m + n) v = itr f m (itr f n v)
  | 0, v => rfl
  | n + 1, v => itr_add f m n (f v)
/-- from a place a step leads back -/
def Stp (n : Nat) (E : List Edge) (ls : Ls) (v : Nat) : Prop := v < n ∧ ∃ k e, ls.getD v none = some k ∧ E[k]? = some e ∧ prd E ls v = e.src
theorem Stamp.trace {a b : Int} {n : Nat} {E : List Edge} {st : CSt} {tm : Nat → Nat} {v : Nat} (ok : EOk n E) (t : Stamp a b n E (n + 1) E.length st tm) (hv : st.2.2 = some v) :
    ∃ p, 1 ≤ p ∧ p ≤ n ∧ (∀ m, Stp n E st.2.1 (itr (prd E st.2.1) m v)) ∧ itr (prd E st.2.1) (n + p) v = itr (prd E st.2.1) n v := by
  have key : ∀ i, i ≤ n → n + 1 ≤ tm (itr (prd E st.2.1) i v) + i ∧ Stp n E st.2.1 (itr (prd E st.2.1) i v) := by
    intro i
    induction i with
    | zero =>
      intro _
      have h := t.rz v hv
      have h1 : n + 1 ≤ tm v + 0 := by omega
      obtain ⟨k, hk⟩ := t.there v (by omega)
      obtain ⟨e, he, _, _⟩ := t.last v k hk
      refine ⟨h1, h.2, k, e, hk, he, ?_⟩
      unfold prd
      show (match st.2.1.getD v none with | some k => _ | none => _) = _
      rw [hk]
      show (match E[k]? with | some e => _ | none => _) = _
      rw [he]
    | succ i ih =>
      intro hi
      obtain ⟨h1, h2, k, e, hk, he, hp⟩ := ih (by omega)
      rw [itr_succ, hp]
      obtain ⟨d, hd, _, hle⟩ := t.last _ k hk
      rw [he] at hd
      cases hd
      have h3 : n + 1 ≤ tm e.src + (i + 1) := by omega
      obtain ⟨k2, hk2⟩ := t.there e.src (by omega)
      obtain ⟨e2, he2, _, _⟩ := t.last _ k2 hk2
      refine ⟨h3, ok.src e (List.mem_of_getElem? he), k2, e2, hk2, he2, ?_⟩
      unfold prd
      rw [hk2]
      show (match E[k2]? with | some e => _ | none => _) = _
      rw [he2]
  obtain ⟨i, j, hij, hjn, hf⟩ := pigeon n (fun i => itr (prd E st.2.1) i v) (fun i hi => (key i hi).2.1)
  have hf : itr (prd E st.2.1) i v = itr (prd E st.2.1) j v := hf
  -- periodic from i on
  have per : ∀ m, i ≤ m → itr (prd E st.2.1) (m + (j - i)) v = itr (prd E st.2.1) m v := by
    intro m hm
    have e1 : m + (j - i) = (m - i) + j := by omega
    have e2 : m = (m - i) + i := by omega
    rw [e1, itr_add, ← hf, ← itr_add, ← e2]
  have all : ∀ m, Stp n E st.2.1 (itr (prd E st.2.1) m v) := by
    intro m
    induction m using Nat.strongRecOn with
    | _ m ih =>
      by_cases hm : m ≤ n
      · exact (key m hm).2
      · have h1 := per (m - (j - i)) (by omega)
        rw [show m - (j - i) + (j - i) = m by omega] at h1
        rw [h1]
        exact ih _ (by omega)
  exact ⟨j - i, by omega, by omega, all, per n (by omega)⟩
end K61

/-! K61M4: converged: potentials; plain Lean. -/
namespace K61
theorem Gr.eok {ws : Ws} {st : GSt} (g : Gr ws st) : EOk st.1.length st.2 :=
  ⟨fun e he => (List.getElem?_eq_some_iff.mp (g.gi.edge e he).1).1, fun e he => (List.getElem?_eq_some_iff.mp (g.gi.edge e he).2.1).1, g.gi.pos⟩
theorem climb_ok {ws : Ws} {a b : Int} {st : GSt} (g : Gr ws st) : CI a b st.1.length st.2 (climb a b st).2.1 (climb a b st).2.2.1 ∧ ((climb a b st).1 = true → Feas a b st.2 (climb a b st).2.1) ∧
    ((climb a b st).1 = false → ∃ v, (climb a b st).2.2.2 = some v ∧ ∃ p, 1 ≤ p ∧ p ≤ st.1.length ∧ (∀ m, Stp st.1.length st.2 (climb a b st).2.2.1 (itr (prd st.2 (climb a b st).2.2.1) m v)) ∧
      itr (prd st.2 (climb a b st).2.2.1) (st.1.length + p) v = itr (prd st.2 (climb a b st).2.2.1) st.1.length v) := by
  have h := climbF_ok (a := a) (b := b) g.eok (st.1.length + 1) 0 none _ _ _ (fun h => by omega) (ci0 g.gi.pos) (ts0 a b st.1.length st.2)
  refine ⟨h.1, h.2.1, fun hf => ?_⟩
  obtain ⟨v, tm, hv, t⟩ := h.2.2 hf
  rw [Nat.zero_add] at t
  exact ⟨v, hv, t.trace g.eok hv⟩

section
variable {ws : Ws} {a b : Int} {st : GSt} {hs : Hs} {ls : Ls}
theorem all_reached (g : Gr ws st) (c : CI a b st.1.length st.2 hs ls) (f : Feas a b st.2 hs) : ∀ i, i < st.1.length → ∃ x, hs.getD i none = some x := by
  intro i
  induction i using Nat.strongRecOn with
  | _ i ih =>
    intro hi
    by_cases h0 : i = 0
    · subst h0
      obtain ⟨x, hx, _⟩ := c.start
      exact ⟨x, hx⟩
    · obtain ⟨e, he, hd, hlt⟩ := g.gi.reach i (by omega) hi
      obtain ⟨x, hx⟩ := ih e.src hlt (by omega)
      obtain ⟨y, hy, _⟩ := f e he x hx
      rw [hd] at hy
      exact ⟨y, hy⟩
theorem wt_le (g : Good ws) (gr : Gr ws st) (ha : 0 ≤ a) (hb : 0 ≤ b) (hb3 : b ≤ 3) : ∀ e ∈ st.2, wt a b e ≤ 108 := by
  intro e he
  obtain ⟨h1, _, hc, hs⟩ := gr.gi.edge e he
  have hh := gr.gi.held _ (List.mem_of_getElem? h1)
  obtain ⟨_, _, g0, g36, l0, _⟩ := steps_held g hh.1 hc hs
  have g0 : 0 ≤ e.gain := g0
  have g36 : e.gain ≤ 36 := g36
  have l0 : 0 ≤ e.loss := l0
  unfold wt
  have h2 : b * e.gain ≤ b * 36 := Int.mul_le_mul_of_nonneg_left g36 hb
  have h3 : 0 ≤ a * e.loss := Int.mul_nonneg ha l0
  omega
theorem height_le (g : Good ws) (gr : Gr ws st) (ha : 0 ≤ a) (hb : 0 ≤ b) (hb3 : b ≤ 3) (c : CI a b st.1.length st.2 hs ls) (f : Feas a b st.2 hs) {i : Nat} {x : Int} (h : hs.getD i none = some x) : x ≤ 18144 := by
  obtain ⟨h0, hh0, hn0⟩ := c.start
  obtain ⟨W, w1, w2, w3⟩ := c.ways i x h
  obtain ⟨W', k1, k2, k3, k4⟩ := shorten (a := a) (b := b) f gr.eok.dst gr.eok.pos hh0 W.length W (Nat.le_refl _) w1
  have h1 := sumW_le (wt_le g gr ha hb hb3) W' 0 k1
  have h2 := gr.gi.few g
  have h3 : (W'.length : Int) ≤ 168 := by omega
  omega
/-- In: the pair stands at i with the height x -/
def In (st : GSt) (hs : Hs) (p : Tx × Tx) (x : Int) : Prop := ∃ i, st.1[i]? = some p ∧ hs.getD i none = some x
theorem In.uniq (gr : Gr ws st) {p : Tx × Tx} {x y : Int} (h : In st hs p x) (h' : In st hs p y) : x = y := by
  obtain ⟨i, h1, h2⟩ := h
  obtain ⟨j, h3, h4⟩ := h'
  obtain ⟨hi, e1⟩ := List.getElem?_eq_some_iff.mp h1
  obtain ⟨hj, e2⟩ := List.getElem?_eq_some_iff.mp h3
  have : i = j := (List.getElem_inj gr.gi.nd).mp (e1.trans e2.symm)
  subst this
  rw [h2] at h4
  exact Option.some.inj h4
theorem in_start (gr : Gr ws st) (c : CI a b st.1.length st.2 hs ls) : ∃ x, In st hs ([], []) x ∧ 0 ≤ x := by
  obtain ⟨x, hx, h0⟩ := c.start
  exact ⟨x, ⟨0, gr.gi.hd, hx⟩, h0⟩
theorem in_step (gr : Gr ws st) (f : Feas a b st.2 hs) : ∀ h t x, In st hs (h, t) x → ∀ l ∈ lets ws, ∀ s ∈ steps ws h t l, ∃ y, In st hs (s.1, s.2.1) y ∧ x + b * s.2.2.1 - a * s.2.2.2 ≤ y := by
  rintro h t x ⟨i, h1, h2⟩ l hl s hs'
  have hi := (List.getElem?_eq_some_iff.mp h1).1
  obtain ⟨e, he, e1, e2, e3, e4, e5⟩ := gr.done i hi (h, t) h1 l hl s hs'
  obtain ⟨y, hy, hle⟩ := f e he x (by rw [e1]; exact h2)
  refine ⟨y, ⟨e.dst, ?_, hy⟩, ?_⟩
  · rw [← e3]; exact (gr.gi.edge e he).2.1
  · unfold wt at hle
    rw [e4, e5] at hle
    omega
theorem in_held (gr : Gr ws st) {p : Tx × Tx} {x : Int} (h : In st hs p x) : Held ws p.1 ∧ Held ws p.2 := by
  obtain ⟨i, h1, _⟩ := h
  exact gr.gi.held p (List.mem_of_getElem? h1)
/-- the greatest value at the end of a text -/
def IsRest (ws : Ws) (b : Int) (st : GSt) (hs : Hs) (m : Int) : Prop := (∃ h x, In st hs (h, []) x ∧ m = x + b * mcost ws h) ∧ ∀ h x, In st hs (h, []) x → x + b * mcost ws h ≤ m
theorem IsRest.uniq {m n : Int} (h : IsRest ws b st hs m) (h' : IsRest ws b st hs n) : m = n := by
  obtain ⟨⟨h1, x, k1, e1⟩, l1⟩ := h
  obtain ⟨⟨h2, y, k2, e2⟩, l2⟩ := h'
  have a1 := l1 _ _ k2
  have a2 := l2 _ _ k1
  omega
theorem IsRest.range (g : Good ws) (gr : Gr ws st) (ha : 0 ≤ a) (hb : 0 ≤ b) (hb3 : b ≤ 3) (c : CI a b st.1.length st.2 hs ls) (f : Feas a b st.2 hs) {m : Int} (h : IsRest ws b st hs m) : 0 ≤ m ∧ m ≤ 18225 := by
  obtain ⟨⟨h1, x, k1, e1⟩, l1⟩ := h
  obtain ⟨i, q1, q2⟩ := id k1
  have hx := height_le g gr ha hb hb3 c f q2
  have hh := in_held gr k1
  have hl := held_len g hh.1
  have hl : h1.length ≤ 3 := hl
  have hm := mcost_range g (held_over g hh.1)
  have hm1 : mcost ws h1 ≤ 27 := by
    have := hm.2
    have : mcost ws h1 ≤ 9 * (h1.length : Int) := this
    omega
  have hm0 : 0 ≤ mcost ws h1 := hm.1
  have h3 : b * mcost ws h1 ≤ 3 * 27 := by
    have k1 : b * mcost ws h1 ≤ b * 27 := Int.mul_le_mul_of_nonneg_left hm1 hb
    omega
  obtain ⟨y, hy, h0⟩ := in_start gr c
  have h4 := l1 _ _ hy
  have h5 : mcost ws [] = 0 := rfl
  rw [h5, Int.mul_zero] at h4
  omega

/-! ### the table -/
abbrev Tr := Tx × Tx × Int
def tbl (st : GSt) (hs : Hs) : List Tr := (st.1.zip hs).map (fun z => (z.1.1, z.1.2, z.2.getD 0))
def endsWell (ws : Ws) (b c : Int) (z : Tr) : Bool := decide (z.2.1 ≠ []) || decide (z.2.2 + b * mcost ws z.1 ≤ c)
theorem mem_tbl (gr : Gr ws st) (c : CI a b st.1.length st.2 hs ls) (f : Feas a b st.2 hs) {z : Tr} : z ∈ tbl st hs ↔ In st hs (z.1, z.2.1) z.2.2 := by
  unfold tbl
  rw [List.mem_map]
  constructor
  · rintro ⟨y, hy, rfl⟩
    obtain ⟨i, hi⟩ := List.mem_iff_getElem?.mp hy
    rw [List.getElem?_zip_eq_some] at hi
    have hlt := (List.getElem?_eq_some_iff.mp hi.1).1
    obtain ⟨x, hx⟩ := all_reached gr c f i hlt
    refine ⟨i, hi.1, ?_⟩
    rw [List.getD_eq_getElem?_getD, hi.2] at hx
    rw [List.getD_eq_getElem?_getD, hi.2]
    have hx : y.2 = some x := hx
    show y.2 = some (y.2.getD 0)
    rw [hx]
    rfl
  · rintro ⟨i, h1, h2⟩
    have hlt : i < hs.length := getD_lt h2
    have h3 : hs[i]? = some (some z.2.2) := by
      rw [List.getD_eq_getElem?_getD, List.getElem?_eq_getElem hlt] at h2
      rw [List.getElem?_eq_getElem hlt]
      exact congrArg some h2
    refine ⟨((z.1, z.2.1), some z.2.2), List.mem_iff_getElem?.mpr ⟨i, List.getElem?_zip_eq_some.mpr ⟨h1, h3⟩⟩, rfl⟩
theorem tbl_len (c : CI a b st.1.length st.2 hs ls) : (tbl st hs).length = st.1.length := by
  unfold tbl
  rw [List.length_map, List.length_zip, c.hl, Nat.min_self]
theorem tbl_keys (c : CI a b st.1.length st.2 hs ls) : (tbl st hs).map (fun z => (z.1, z.2.1)) = st.1 := by
  unfold tbl
  rw [List.map_map]
  have : ((fun z : Tr => (z.1, z.2.1)) ∘ fun z : (Tx × Tx) × Option Int => (z.1.1, z.1.2, z.2.getD 0)) = Prod.fst := rfl
  rw [this, List.map_fst_zip]
  rw [c.hl]
  exact Nat.le_refl _
theorem all_ends (gr : Gr ws st) (c : CI a b st.1.length st.2 hs ls) (f : Feas a b st.2 hs) {m k : Int} (h : IsRest ws b st hs m) : (tbl st hs).all (endsWell ws b k) = decide (m ≤ k) := by
  rw [Bool.eq_iff_iff, List.all_eq_true, decide_eq_true_iff]
  constructor
  · intro q
    obtain ⟨⟨h1, x, k1, e1⟩, _⟩ := h
    have := q (h1, [], x) ((mem_tbl gr c f).mpr k1)
    unfold endsWell at this
    simp at this
    omega
  · intro q z hz
    unfold endsWell
    by_cases hn : z.2.1 = []
    · have h1 := (mem_tbl gr c f).mp hz
      rw [hn] at h1
      have h2 := h.2 _ _ h1
      rw [Bool.or_eq_true]
      right
      exact decide_eq_true (by omega)
    · rw [Bool.or_eq_true]
      left
      exact decide_eq_true hn
theorem pot_of (gr : Gr ws st) (c : CI a b st.1.length st.2 hs ls) (f : Feas a b st.2 hs) {k : Int} (h : ∀ h x, In st hs (h, []) x → x + b * mcost ws h ≤ k) : Pot ws a b k (In st hs) :=
  ⟨in_start gr c, in_step gr f, h⟩
/-- the law's end -/
theorem law_bound (g : Good ws) (gr : Gr ws st) (c : CI a b st.1.length st.2 hs ls) (f : Feas a b st.2 hs) {m k : Int} (h : IsRest ws b st hs m) (hk : m ≤ k) {t : Tx} {l : Int} (hr : Reach ws t l) : b * mcost ws t ≤ a * l + k :=
  (pot_of gr c f (k := k) (fun h1 x hi => by have := h.2 _ _ hi; omega)).bound g hr

def lt2 (x y : Tx × Tx) : Prop := x.1 < y.1 ∨ (x.1 = y.1 ∧ x.2 < y.2)
structure RightT (ws : Ws) (a b c : Int) (T : List Tr) : Prop where
  asc : T.Pairwise (fun x y => lt2 (x.1, x.2.1) (y.1, y.2.1))
  over : ∀ z ∈ T, Over ws (z.1 ++ z.2.1)
  start : ∃ x, ([], [], x) ∈ T ∧ 0 ≤ x
  step : ∀ z ∈ T, ∀ l ∈ lets ws, ∀ s ∈ steps ws z.1 z.2.1 l, ∃ y, (s.1, s.2.1, y) ∈ T ∧ z.2.2 + b * s.2.2.1 - a * s.2.2.2 ≤ y
  ends : ∀ z ∈ T, endsWell ws b c z = true
  few : T.length ≤ 169
  short : ∀ z ∈ T, z.1.length ≤ 3 ∧ z.2.1.length ≤ 3
theorem right_of (g : Good ws) (gr : Gr ws st) (c : CI a b st.1.length st.2 hs ls) (f : Feas a b st.2 hs) {k : Int} {T : List Tr} (hp : T.Perm (tbl st hs)) (hs' : T.Pairwise (fun x y => lt2 (x.1, x.2.1) (y.1, y.2.1)))
    (he : (tbl st hs).all (endsWell ws b k) = true) : RightT ws a b k T := by
  refine ⟨hs', fun z hz => ?_, ?_, fun z hz l hl s hss => ?_, fun z hz => ?_, ?_, fun z hz => ?_⟩
  · have h1 := in_held gr ((mem_tbl gr c f).mp (hp.mem_iff.mp hz))
    exact (held_over g h1.1).append (held_over g h1.2)
  · obtain ⟨x, hx, h0⟩ := in_start gr c
    exact ⟨x, hp.mem_iff.mpr ((mem_tbl gr c f (z := ([], [], x))).mpr hx), h0⟩
  · obtain ⟨y, hy, hle⟩ := in_step gr f z.1 z.2.1 z.2.2 ((mem_tbl gr c f).mp (hp.mem_iff.mp hz)) l hl s hss
    exact ⟨y, hp.mem_iff.mpr ((mem_tbl gr c f (z := (s.1, s.2.1, y))).mpr hy), hle⟩
  · exact List.all_eq_true.mp he z (hp.mem_iff.mp hz)
  · rw [hp.length_eq, tbl_len c]
    exact gr.gi.few g
  · have h1 := in_held gr ((mem_tbl gr c f).mp (hp.mem_iff.mp hz))
    exact ⟨held_len g h1.1, held_len g h1.2⟩
end
end K61

/-! K61A: encodings of plain data in the heap, what an expression evaluates to as data, sources of loops. -/
namespace K61
open PySem PySem.Spec PyProof.Rows L2 Evl
def ss (t : Tx) : Str := ⟨t.toArray⟩
theorem ss_list (t : Tx) : (ss t).cps.toList = t := List.toList_toArray
theorem ss_len (t : Tx) : (ss t).length = t.length := List.size_toArray
theorem ss_inj {s t : Tx} (h : ss s = ss t) : s = t := by
  have := congrArg (fun z : Str => z.cps.toList) h
  simpa [ss_list] using this
theorem ss_of (z : Str) : ss z.cps.toList = z := by
  cases z
  unfold ss
  simp
theorem ss_one (c : Nat) : ss [c] = ⟨#[c]⟩ := rfl
theorem ss_app (s t : Tx) : ss s ++ ss t = ss (s ++ t) := by
  show (⟨s.toArray ++ t.toArray⟩ : Str) = ⟨(s ++ t).toArray⟩
  rw [List.append_toArray]

/-- tuples stay -/
def TEx (H H' : Hp) : Prop := ∀ a xs, H a = some (.tup xs) → H' a = some (.tup xs)
theorem ex_tex {H H' : Hp} (h : Ex H H') : TEx H H' := fun a xs e => h a _ e
theorem TEx.refl (H : Hp) : TEx H H := fun _ _ e => e
theorem TEx.trans {H H1 H2 : Hp} (a : TEx H H1) (b : TEx H1 H2) : TEx H H2 := fun x o h => b x o (a x o h)
theorem tex_upd {H : Hp} {a : Addr} {o u : HO} (h : H a = some u) (hu : ∀ xs, u ≠ .tup xs) : TEx H (upd H a o) := fun b xs e => by
  by_cases hb : b = a
  · subst hb
    rw [h] at e
    exact absurd (Option.some.inj e) (hu xs)
  · rw [upd_ne hb]; exact e
theorem tex_lst {H : Hp} {a : Addr} {o : HO} {ys : List V} (h : H a = some (.lst ys)) : TEx H (upd H a o) := tex_upd h (fun xs q => nomatch q)
/-- an encoding -/
structure Enc (α : Type) where
  R : Hp → V → α → Prop
  mono : ∀ {H H' : Hp} {v : V} {x : α}, Ex H H' → R H v x → R H' v x
/-- .. of what never changes -/
class Imm {α : Type} (e : Enc α) : Prop where
  imm : ∀ {H H' : Hp} {v : V} {x : α}, TEx H H' → e.R H v x → e.R H' v x
def eInt : Enc Int := ⟨fun _ v i => v = .int i, fun _ h => h⟩
def eNat : Enc Nat := ⟨fun _ v i => v = .int (i : Int), fun _ h => h⟩
def eBl : Enc Bool := ⟨fun _ v b => v = .bl b, fun _ h => h⟩
def eStr : Enc Tx := ⟨fun _ v t => v = .str (ss t), fun _ h => h⟩
def eChr : Enc Nat := ⟨fun _ v c => v = .str (ss [c]), fun _ h => h⟩
def eNon : Enc Unit := ⟨fun _ v _ => v = .non, fun _ h => h⟩
instance : Imm eInt := ⟨fun _ h => h⟩
instance : Imm eNat := ⟨fun _ h => h⟩
instance : Imm eBl := ⟨fun _ h => h⟩
instance : Imm eStr := ⟨fun _ h => h⟩
instance : Imm eChr := ⟨fun _ h => h⟩
instance : Imm eNon := ⟨fun _ h => h⟩
theorem paired_mono {α β : Type} {F G : α → β → Prop} {xs : List α} {ys : List β} (h : Paired F xs ys) (k : ∀ a b, F a b → G a b) : Paired G xs ys := Paired.mapP h k
section
variable {α β γ δ ε : Type}
def e2 (ea : Enc α) (eb : Enc β) : Enc (α × β) :=
  ⟨fun H v p => ∃ a x y, v = .ref a ∧ H a = some (.tup [x, y]) ∧ ea.R H x p.1 ∧ eb.R H y p.2, fun e h => let ⟨a, x, y, h1, h2, h3, h4⟩ := h; ⟨a, x, y, h1, e _ _ h2, ea.mono e h3, eb.mono e h4⟩⟩
instance (ea : Enc α) (eb : Enc β) [ia : Imm ea] [ib : Imm eb] : Imm (e2 ea eb) := ⟨fun e h => let ⟨a, x, y, h1, h2, h3, h4⟩ := h; ⟨a, x, y, h1, e _ _ h2, ia.imm e h3, ib.imm e h4⟩⟩
def e3 (ea : Enc α) (eb : Enc β) (ec : Enc γ) : Enc (α × β × γ) :=
  ⟨fun H v p => ∃ a x y z, v = .ref a ∧ H a = some (.tup [x, y, z]) ∧ ea.R H x p.1 ∧ eb.R H y p.2.1 ∧ ec.R H z p.2.2, fun e h => let ⟨a, x, y, z, h1, h2, h3, h4, h5⟩ := h; ⟨a, x, y, z, h1, e _ _ h2, ea.mono e h3, eb.mono e h4, ec.mono e h5⟩⟩
instance (ea : Enc α) (eb : Enc β) (ec : Enc γ) [ia : Imm ea] [ib : Imm eb] [ic : Imm ec] : Imm (e3 ea eb ec) := ⟨fun e h => let ⟨a, x, y, z, h1, h2, h3, h4, h5⟩ := h; ⟨a, x, y, z, h1, e _ _ h2, ia.imm e h3, ib.imm e h4, ic.imm e h5⟩⟩
def e4 (ea : Enc α) (eb : Enc β) (ec : Enc γ) (ed : Enc δ) : Enc (α × β × γ × δ) :=
  ⟨fun H v p => ∃ a x y z u, v = .ref a ∧ H a = some (.tup [x, y, z, u]) ∧ ea.R H x p.1 ∧ eb.R H y p.2.1 ∧ ec.R H z p.2.2.1 ∧ ed.R H u p.2.2.2,
   fun e h => let ⟨a, x, y, z, u, h1, h2, h3, h4, h5, h6⟩ := h; ⟨a, x, y, z, u, h1, e _ _ h2, ea.mono e h3, eb.mono e h4, ec.mono e h5, ed.mono e h6⟩⟩
instance (ea : Enc α) (eb : Enc β) (ec : Enc γ) (ed : Enc δ) [ia : Imm ea] [ib : Imm eb] [ic : Imm ec] [id : Imm ed] : Imm (e4 ea eb ec ed) :=
  ⟨fun e h => let ⟨a, x, y, z, u, h1, h2, h3, h4, h5, h6⟩ := h; ⟨a, x, y, z, u, h1, e _ _ h2, ia.imm e h3, ib.imm e h4, ic.imm e h5, id.imm e h6⟩⟩
def e5 (ea : Enc α) (eb : Enc β) (ec : Enc γ) (ed : Enc δ) (ee : Enc ε) : Enc (α × β × γ × δ × ε) :=
  ⟨fun H v p => ∃ a x y z u w, v = .ref a ∧ H a = some (.tup [x, y, z, u, w]) ∧ ea.R H x p.1 ∧ eb.R H y p.2.1 ∧ ec.R H z p.2.2.1 ∧ ed.R H u p.2.2.2.1 ∧ ee.R H w p.2.2.2.2,
   fun e h => let ⟨a, x, y, z, u, w, h1, h2, h3, h4, h5, h6, h7⟩ := h; ⟨a, x, y, z, u, w, h1, e _ _ h2, ea.mono e h3, eb.mono e h4, ec.mono e h5, ed.mono e h6, ee.mono e h7⟩⟩
instance (ea : Enc α) (eb : Enc β) (ec : Enc γ) (ed : Enc δ) (ee : Enc ε) [ia : Imm ea] [ib : Imm eb] [ic : Imm ec] [id : Imm ed] [ie : Imm ee] : Imm (e5 ea eb ec ed ee) :=
  ⟨fun e h => let ⟨a, x, y, z, u, w, h1, h2, h3, h4, h5, h6, h7⟩ := h; ⟨a, x, y, z, u, w, h1, e _ _ h2, ia.imm e h3, ib.imm e h4, ic.imm e h5, id.imm e h6, ie.imm e h7⟩⟩
/-- a tuple of any length; a list that stands -/
def eTL (ea : Enc α) : Enc (List α) :=
  ⟨fun H v l => ∃ a xs, v = .ref a ∧ H a = some (.tup xs) ∧ Paired (ea.R H) xs l, fun e h => let ⟨a, xs, h1, h2, h3⟩ := h; ⟨a, xs, h1, e _ _ h2, paired_mono h3 fun _ _ r => ea.mono e r⟩⟩
instance (ea : Enc α) [ia : Imm ea] : Imm (eTL ea) := ⟨fun e h => let ⟨a, xs, h1, h2, h3⟩ := h; ⟨a, xs, h1, e _ _ h2, paired_mono h3 fun _ _ r => ia.imm e r⟩⟩
def eLs (ea : Enc α) : Enc (List α) :=
  ⟨fun H v l => ∃ a xs, v = .ref a ∧ H a = some (.lst xs) ∧ Paired (ea.R H) xs l, fun e h => let ⟨a, xs, h1, h2, h3⟩ := h; ⟨a, xs, h1, e _ _ h2, paired_mono h3 fun _ _ r => ea.mono e r⟩⟩
/-- the encoding of an image -/
def eMap (f : α → β) (eb : Enc β) : Enc α := ⟨fun H v x => eb.R H v (f x), fun e h => eb.mono e h⟩
instance (f : α → β) (eb : Enc β) [ib : Imm eb] : Imm (eMap f eb) := ⟨fun e h => ib.imm e h⟩
/-- None, or a value that is not None -/
def eOpt (ea : Enc α) : Enc (Option α) := ⟨fun H v x => match x with
  | none => v = .non
  | some y => v ≠ .non ∧ ea.R H v y, fun {H H' v x} e h => by
    cases x with
    | none => exact h
    | some y => exact ⟨h.1, ea.mono e h.2⟩⟩
instance (ea : Enc α) [ia : Imm ea] : Imm (eOpt ea) := ⟨fun {H H' v x} e h => by
    cases x with
    | none => exact h
    | some y => exact ⟨h.1, ia.imm e h.2⟩⟩
/-- the list at an address, as data -/
def LsAt (ea : Enc α) (H : Hp) (a : Addr) (l : List α) : Prop := ∃ xs, H a = some (.lst xs) ∧ Paired (ea.R H) xs l
theorem LsAt.mono {ea : Enc α} {H H' : Hp} {a : Addr} {l : List α} (h : LsAt ea H a l) (e : Ex H H') : LsAt ea H' a l := let ⟨xs, h1, h2⟩ := h; ⟨xs, e _ _ h1, paired_mono h2 fun _ _ r => ea.mono e r⟩
theorem paired_app {F : α → β → Prop} : ∀ {xs : List α} {ys : List β} {x : α} {y : β}, Paired F xs ys → F x y → Paired F (xs ++ [x]) (ys ++ [y])
  | _, _, _, _, .nil, h => .cons h .nil
  | _, _, _, _, .cons r t, h => .cons r (paired_app t h)
theorem paired_append {F : α → β → Prop} : ∀ {xs xs2 : List α} {ys ys2 : List β}, Paired F xs ys → Paired F xs2 ys2 → Paired F (xs ++ xs2) (ys ++ ys2)
  | _, _, _, _, .nil, h => h
  | _, _, _, _, .cons r t, h => .cons r (paired_append t h)
theorem paired_len {F : α → β → Prop} {xs : List α} {ys : List β} (h : Paired F xs ys) : xs.length = ys.length := Paired.length h
theorem paired_get {F : α → β → Prop} : ∀ {xs : List α} {ys : List β} {i : Nat} {y : β}, Paired F xs ys → ys[i]? = some y → ∃ x, xs[i]? = some x ∧ F x y
  | _, _, i, y, .nil, h => by simp at h
  | _, _, 0, y, .cons (a := a) r _, h => by
    simp only [List.getElem?_cons_zero] at h
    cases h
    exact ⟨a, rfl, r⟩
  | _, _, i + 1, y, .cons _ t, h => by
    simp only [List.getElem?_cons_succ] at h
    obtain ⟨x, h1, h2⟩ := paired_get t h
    exact ⟨x, by simpa using h1, h2⟩
theorem paired_getL {F : α → β → Prop} : ∀ {xs : List α} {ys : List β} {i : Nat} {x : α}, Paired F xs ys → xs[i]? = some x → ∃ y, ys[i]? = some y ∧ F x y
  | _, _, i, y, .nil, h => by simp at h
  | _, _, 0, y, .cons (b := b) r _, h => by
    simp only [List.getElem?_cons_zero] at h
    cases h
    exact ⟨b, rfl, r⟩
  | _, _, i + 1, y, .cons _ t, h => by
    simp only [List.getElem?_cons_succ] at h
    obtain ⟨x, h1, h2⟩ := paired_getL t h
    exact ⟨x, by simpa using h1, h2⟩
theorem paired_set {F : α → β → Prop} : ∀ {xs : List α} {ys : List β} {x : α} {y : β} (i : Nat), Paired F xs ys → F x y → Paired F (xs.set i x) (ys.set i y)
  | _, _, _, _, _, .nil, _ => .nil
  | _, _, _, _, 0, .cons _ t, h => .cons h t
  | _, _, _, _, i + 1, .cons r t, h => .cons r (paired_set i t h)
theorem paired_map {F : α → β → Prop} {f : γ → α} {g : γ → β} : ∀ (l : List γ), (∀ x ∈ l, F (f x) (g x)) → Paired F (l.map f) (l.map g)
  | [], _ => .nil
  | x :: r, h => .cons (h x List.mem_cons_self) (paired_map r fun y hy => h y (List.mem_cons_of_mem _ hy))
theorem paired_mapR {F : α → β → Prop} {g : γ → β} : ∀ {xs : List α} {l : List γ}, Paired (fun a c => F a (g c)) xs l → Paired F xs (l.map g)
  | _, _, .nil => .nil
  | _, _, .cons r t => .cons r (paired_mapR t)
theorem paired_unmapR {F : α → β → Prop} {g : γ → β} : ∀ {xs : List α} {l : List γ}, Paired F xs (l.map g) → Paired (fun a c => F a (g c)) xs l
  | _, [], h => by cases h; exact .nil
  | _, _ :: _, h => by
    cases h with
    | cons r t => exact .cons r (paired_unmapR t)
theorem LsAt.app {ea : Enc α} [ia : Imm ea] {H : Hp} {a : Addr} {l : List α} {xs : List V} {v : V} {x : α} (h : H a = some (.lst xs)) (hp : Paired (ea.R H) xs l) (hv : ea.R H v x) : LsAt ea (upd H a (.lst (xs ++ [v]))) a (l ++ [x]) :=
  ⟨_, upd_same, paired_app (paired_mono hp fun _ _ r => ia.imm (tex_lst h) r) (ia.imm (tex_lst h) hv)⟩
theorem LsAt.set {ea : Enc α} [ia : Imm ea] {H : Hp} {a : Addr} {l : List α} {xs : List V} {v : V} {x : α} (i : Nat) (h : H a = some (.lst xs)) (hp : Paired (ea.R H) xs l) (hv : ea.R H v x) : LsAt ea (upd H a (.lst (xs.set i v))) a (l.set i x) :=
  ⟨_, upd_same, paired_set i (paired_mono hp fun _ _ r => ia.imm (tex_lst h) r) (ia.imm (tex_lst h) hv)⟩
/-- the list at a when another list is written -/
theorem LsAt.other {ea : Enc α} [ia : Imm ea] {H : Hp} {a b : Addr} {l : List α} {o u : HO} (h : LsAt ea H a l) (hb : H b = some u) (hu : ∀ xs, u ≠ .tup xs) (hab : a ≠ b) : LsAt ea (upd H b o) a l :=
  let ⟨xs, h1, h2⟩ := h; ⟨xs, by rw [upd_ne hab]; exact h1, paired_mono h2 fun _ _ r => ia.imm (tex_upd hb hu) r⟩
end

/-! ### the heap without some lists -/
def hid (H : Hp) (ls : List Addr) : Hp := fun a => if a ∈ ls then none else H a
theorem hid_nil (H : Hp) : hid H [] = H := by funext a; simp [hid]
theorem hid_at {H : Hp} {ls : List Addr} {a : Addr} (h : a ∈ ls) : hid H ls a = none := by unfold hid; rw [if_pos h]
theorem hid_ne {H : Hp} {ls : List Addr} {a : Addr} (h : a ∉ ls) : hid H ls a = H a := by unfold hid; rw [if_neg h]
theorem hid_some {H : Hp} {ls : List Addr} {a : Addr} {o : HO} (h : hid H ls a = some o) : a ∉ ls ∧ H a = some o := by
  unfold hid at h
  split at h
  · cases h
  · rename_i hn; exact ⟨hn, h⟩
theorem ex_hid {H H' : Hp} (ls : List Addr) (e : Ex H H') : Ex (hid H ls) (hid H' ls) := fun a o h => by
  obtain ⟨h1, h2⟩ := hid_some h
  rw [hid_ne h1]; exact e _ _ h2
theorem ex_unhid {H H' : Hp} {ls : List Addr} (e : Ex H H') : Ex (hid H ls) H' := fun a o h => e _ _ (hid_some h).2
theorem ex_rehid {H H' : Hp} {ls : List Addr} (e : Ex (hid H ls) H') : Ex (hid H ls) (hid H' ls) := fun a o h => by
  rw [hid_ne (hid_some h).1]; exact e _ _ h
/-- the entry's heap, behind its own new lists hidden -/
theorem ex_base {B H : Hp} {ls : List Addr} (e : Ex B H) (h : ∀ a ∈ ls, B a = none) : Ex B (hid H ls) := fun a o q => by
  rw [hid_ne fun m => by rw [h a m] at q; cases q]
  exact e _ _ q
theorem hid_tex {H : Hp} {ls : List Addr} (h : ∀ a ∈ ls, ∃ o, H a = some o ∧ ∀ xs, o ≠ .tup xs) : TEx H (hid H ls) := fun a xs e => by
  rw [hid_ne fun m => by obtain ⟨o, h1, h2⟩ := h a m; rw [e] at h1; exact h2 xs (Option.some.inj h1).symm]
  exact e

/-! ### what an expression evaluates to, as data -/
section
variable {α β γ δ ε : Type} {K : PySem.W.Frag} {σ : L2.St} {H H' : Hp} {ta tb tc td te : TE} {t u : TT}
def EvR (e : Enc α) (te : TE) (σ : L2.St) (H : Hp) (x : α) : Prop := ∀ H1, Ex H H1 → ∀ Q : VK, (∀ v H2, Ex H1 H2 → e.R H2 v x → Q v H2) → te σ H1 Q
/-- a new list -/
def EvN (e : Enc α) (te : TE) (σ : L2.St) (H : Hp) (l : List α) : Prop := ∀ H1, Ex H H1 → ∀ Q : VK, (∀ p xs H2, H1 p = none → Ex H1 H2 → H2 p = some (.lst xs) → Paired (e.R H2) xs l → Q (.ref p) H2) → te σ H1 Q
theorem EvR.mono {e : Enc α} {x : α} (h : EvR e te σ H x) (k : Ex H H') : EvR e te σ H' x := fun H1 a Q q => h H1 (k.trans a) Q q
theorem EvN.mono {e : Enc α} {x : List α} (h : EvN e te σ H x) (k : Ex H H') : EvN e te σ H' x := fun H1 a Q q => h H1 (k.trans a) Q q
theorem EvN.r {e : Enc α} {l : List α} (h : EvN e te σ H l) : EvR (eLs e) te σ H l := fun H1 a Q q => h H1 a Q fun p xs H2 _ e2 h2 h3 => q _ H2 e2 ⟨p, xs, rfl, h2, h3⟩
theorem EvR.is {e : Enc α} {x y : α} (h : EvR e te σ H x) (k : x = y) : EvR e te σ H y := k ▸ h
theorem EvN.is {e : Enc α} {x y : List α} (h : EvN e te σ H x) (k : x = y) : EvN e te σ H y := k ▸ h
theorem EvR.cast {ea : Enc α} {eb : Enc β} {x : α} {y : β} (h : EvR ea te σ H x) (k : ∀ H v, ea.R H v x → eb.R H v y) : EvR eb te σ H y := fun H1 a Q q => h H1 a Q fun v H2 e2 r => q v H2 e2 (k _ _ r)
theorem er_var {e : Enc α} {i : Nat} {v : V} {x : α} (h : σ[i]? = some (some v)) (r : e.R H v x) : EvR e (tVar i) σ H x := fun H1 a _ q => ⟨v, h, q v H1 (Ex.refl _) (e.mono a r)⟩
theorem er_int {i : Int} : EvR eInt (tC (.int i)) σ H i := fun H1 _ _ q => q _ H1 (Ex.refl _) rfl
theorem er_nat {i : Nat} : EvR eNat (tC (.int (i : Int))) σ H i := fun H1 _ _ q => q _ H1 (Ex.refl _) rfl
theorem er_bl {b : Bool} : EvR eBl (tC (.bl b)) σ H b := fun H1 _ _ q => q _ H1 (Ex.refl _) rfl
theorem er_str {z : Str} {t : Tx} (h : z = ss t) : EvR eStr (tC (.str z)) σ H t := fun H1 _ _ q => q _ H1 (Ex.refl _) (congrArg V.str h)
theorem er_op {ea : Enc α} {eb : Enc β} {ec : Enc γ} {r : R2} {x : α} {y : β} {z : γ} (ha : EvR ea ta σ H x) (hb : EvR eb tb σ H y)
    (hr : ∀ v w H1, Ex H H1 → ea.R H1 v x → eb.R H1 w y → ∀ Q : VK, (∀ u H2, Ex H1 H2 → ec.R H2 u z → Q u H2) → r v w H1 Q) : EvR ec (tOp r ta tb) σ H z := fun H1 e Q q =>
  ha H1 e _ fun v H2 e2 r2 => hb H2 (e.trans e2) _ fun w H3 e3 r3 => hr v w H3 ((e.trans e2).trans e3) (ea.mono e3 r2) r3 Q fun u H4 e4 r4 => q u H4 ((e2.trans e3).trans e4) r4
theorem er_I0 {ec : Enc γ} {g : Int → Int → V} {x y : Int} {z : γ} (ha : EvR eInt ta σ H x) (hb : EvR eInt tb σ H y) (hz : ∀ H, ec.R H (g x y) z) : EvR ec (tOp (rI0 g) ta tb) σ H z :=
  er_op ha hb fun v w H1 _ r1 r2 Q q => ⟨x, y, r1, r2, q _ H1 (Ex.refl _) (hz H1)⟩
theorem er_I {ec : Enc γ} {C : Int → Int → Prop} {g : Int → Int → V} {x y : Int} {z : γ} (ha : EvR eInt ta σ H x) (hb : EvR eInt tb σ H y) (hc : C x y) (hz : ∀ H, ec.R H (g x y) z) : EvR ec (tOp (rI C g) ta tb) σ H z :=
  er_op ha hb fun v w H1 _ r1 r2 Q q => ⟨x, y, r1, r2, hc, q _ H1 (Ex.refl _) (hz H1)⟩
theorem er_add {x y : Int} (ha : EvR eInt ta σ H x) (hb : EvR eInt tb σ H y) : EvR eInt (tOp (rI0 fun i j => .int (i + j)) ta tb) σ H (x + y) := er_I0 ha hb fun _ => rfl
theorem er_sub {x y : Int} (ha : EvR eInt ta σ H x) (hb : EvR eInt tb σ H y) : EvR eInt (tOp (rI0 fun i j => .int (i - j)) ta tb) σ H (x - y) := er_I0 ha hb fun _ => rfl
theorem er_mul {x y : Int} (ha : EvR eInt ta σ H x) (hb : EvR eInt tb σ H y) (hc : CMul x y) : EvR eInt (tOp (rI CMul fun i j => .int (i * j)) ta tb) σ H (x * y) := er_I ha hb hc fun _ => rfl
theorem er_lt {x y : Int} (ha : EvR eInt ta σ H x) (hb : EvR eInt tb σ H y) : EvR eBl (tOp (rI0 fun i j => .bl (decide (i < j))) ta tb) σ H (decide (x < y)) := er_I0 ha hb fun _ => rfl
theorem er_le {x y : Int} (ha : EvR eInt ta σ H x) (hb : EvR eInt tb σ H y) : EvR eBl (tOp (rI0 fun i j => .bl (decide (i ≤ j))) ta tb) σ H (decide (x ≤ y)) := er_I0 ha hb fun _ => rfl
theorem er_gt {x y : Int} (ha : EvR eInt ta σ H x) (hb : EvR eInt tb σ H y) : EvR eBl (tOp (rI0 fun i j => .bl (decide (j < i))) ta tb) σ H (decide (y < x)) := er_I0 ha hb fun _ => rfl
theorem er_eqI {x y : Int} (ha : EvR eInt ta σ H x) (hb : EvR eInt tb σ H y) : EvR eBl (tOp rEq ta tb) σ H (decide (x = y)) := er_op ha hb fun v w H1 _ r1 r2 Q q => by
  cases r1; cases r2
  refine ⟨rfl, q _ H1 (Ex.refl _) ?_⟩
  show V.bl _ = V.bl _
  rw [Bool.eq_iff_iff.mpr (show decide (V.int x = V.int y) = true ↔ decide (x = y) = true by simp)]
theorem er_neI {x y : Int} (ha : EvR eInt ta σ H x) (hb : EvR eInt tb σ H y) : EvR eBl (tOp rNe ta tb) σ H (!decide (x = y)) := er_op ha hb fun v w H1 _ r1 r2 Q q => by
  cases r1; cases r2
  refine ⟨rfl, q _ H1 (Ex.refl _) ?_⟩
  show V.bl _ = V.bl _
  rw [show decide (V.int x = V.int y) = decide (x = y) from Bool.eq_iff_iff.mpr (by simp)]
theorem er_eqS {x y : Tx} (ha : EvR eStr ta σ H x) (hb : EvR eStr tb σ H y) : EvR eBl (tOp rEq ta tb) σ H (decide (x = y)) := er_op ha hb fun v w H1 _ r1 r2 Q q => by
  cases r1; cases r2
  refine ⟨rfl, q _ H1 (Ex.refl _) ?_⟩
  show V.bl _ = V.bl _
  rw [show decide (V.str (ss x) = V.str (ss y)) = decide (x = y) from Bool.eq_iff_iff.mpr (by simp; exact ⟨ss_inj, fun h => h ▸ rfl⟩)]
theorem er_neS {x y : Tx} (ha : EvR eStr ta σ H x) (hb : EvR eStr tb σ H y) : EvR eBl (tOp rNe ta tb) σ H (!decide (x = y)) := er_op ha hb fun v w H1 _ r1 r2 Q q => by
  cases r1; cases r2
  refine ⟨rfl, q _ H1 (Ex.refl _) ?_⟩
  show V.bl _ = V.bl _
  rw [show decide (V.str (ss x) = V.str (ss y)) = decide (x = y) from Bool.eq_iff_iff.mpr (by simp; exact ⟨ss_inj, fun h => h ▸ rfl⟩)]
theorem er_eqB {x y : Bool} (ha : EvR eBl ta σ H x) (hb : EvR eBl tb σ H y) : EvR eBl (tOp rEq ta tb) σ H (decide (x = y)) := er_op ha hb fun v w H1 _ r1 r2 Q q => by
  cases r1; cases r2
  refine ⟨rfl, q _ H1 (Ex.refl _) ?_⟩
  show V.bl _ = V.bl _
  rw [show decide (V.bl x = V.bl y) = decide (x = y) from Bool.eq_iff_iff.mpr (by simp)]
theorem er_neB {x y : Bool} (ha : EvR eBl ta σ H x) (hb : EvR eBl tb σ H y) : EvR eBl (tOp rNe ta tb) σ H (!decide (x = y)) := er_op ha hb fun v w H1 _ r1 r2 Q q => by
  cases r1; cases r2
  refine ⟨rfl, q _ H1 (Ex.refl _) ?_⟩
  show V.bl _ = V.bl _
  rw [show decide (V.bl x = V.bl y) = decide (x = y) from Bool.eq_iff_iff.mpr (by simp)]
theorem er_catS {x y : Tx} (ha : EvR eStr ta σ H x) (hb : EvR eStr tb σ H y) (hl : x.length + y.length ≤ 100000) :
    EvR eStr (tOp (fun x y H Q => ∃ i j, x = .str i ∧ y = .str j ∧ i.length + j.length ≤ sizeLine ∧ Q (.str (i ++ j)) H) ta tb) σ H (x ++ y) := er_op ha hb fun v w H1 _ r1 r2 Q q =>
  ⟨ss x, ss y, r1, r2, by rw [ss_len, ss_len]; exact sz_of hl, q _ H1 (Ex.refl _) (by rw [ss_app]; rfl)⟩
/-- an index of a text -/
theorem er_ixS {x : Tx} {i : Int} {c : Nat} (ha : EvR eStr ta σ H x) (hb : EvR eInt tb σ H i) (hl : x.length ≤ 100000) (hc : atI x i = some c) : EvR eChr (tOp rIxS ta tb) σ H c := er_op ha hb fun v w H1 _ r1 r2 Q q =>
  ⟨ss x, i, c, r1, r2, by rw [ss_len]; exact sz_of hl, by rw [ss_list]; exact hc, q _ H1 (Ex.refl _) rfl⟩
theorem er_chr {c : Nat} (h : EvR eChr te σ H c) : EvR eStr te σ H [c] := h.cast fun _ _ r => r
theorem er_chrI {c : Nat} (h : EvR eStr te σ H [c]) : EvR eChr te σ H c := h.cast fun _ _ r => r
theorem er_natI {n : Nat} (h : EvR eNat te σ H n) : EvR eInt te σ H (n : Int) := h.cast fun _ _ r => r
theorem er_intN {n : Nat} {i : Int} (h : EvR eInt te σ H i) (k : i = (n : Int)) : EvR eNat te σ H n := h.cast fun _ _ r => by
  subst k
  exact r
/-- places of tuples -/
theorem er_at {e : Enc α} {ec : Enc γ} {x : α} {i : Int} {z : γ} (ha : EvR e ta σ H x) (k : ∀ H v, e.R H v x → ∃ a xs w, v = .ref a ∧ H a = some (.tup xs) ∧ atI xs i = some w ∧ ec.R H w z) : EvR ec (tOp (rIxT K) ta (tC (.int i))) σ H z := fun H1 e1 Q q =>
  ha H1 e1 _ fun v H2 e2 r => by
    obtain ⟨a, xs, w, h1, h2, h3, h4⟩ := k H2 v r
    exact ⟨a, xs, i, w, h1, rfl, SqT.of h2, h3, q w H2 e2 h4⟩
theorem er_20 {ea : Enc α} {eb : Enc β} {p : α × β} (h : EvR (e2 ea eb) ta σ H p) : EvR ea (tOp (rIxT K) ta (tC (.int 0))) σ H p.1 := er_at h fun H v r => let ⟨a, x, y, h1, h2, h3, h4⟩ := r; ⟨a, _, x, h1, h2, rfl, h3⟩
theorem er_21 {ea : Enc α} {eb : Enc β} {p : α × β} (h : EvR (e2 ea eb) ta σ H p) : EvR eb (tOp (rIxT K) ta (tC (.int 1))) σ H p.2 := er_at h fun H v r => let ⟨a, x, y, h1, h2, h3, h4⟩ := r; ⟨a, _, y, h1, h2, rfl, h4⟩
theorem er_30 {ea : Enc α} {eb : Enc β} {ec : Enc γ} {p : α × β × γ} (h : EvR (e3 ea eb ec) ta σ H p) : EvR ea (tOp (rIxT K) ta (tC (.int 0))) σ H p.1 := er_at h fun H v r => let ⟨a, x, y, z, h1, h2, h3, h4, h5⟩ := r; ⟨a, _, x, h1, h2, rfl, h3⟩
theorem er_31 {ea : Enc α} {eb : Enc β} {ec : Enc γ} {p : α × β × γ} (h : EvR (e3 ea eb ec) ta σ H p) : EvR eb (tOp (rIxT K) ta (tC (.int 1))) σ H p.2.1 := er_at h fun H v r => let ⟨a, x, y, z, h1, h2, h3, h4, h5⟩ := r; ⟨a, _, y, h1, h2, rfl, h4⟩
theorem er_32 {ea : Enc α} {eb : Enc β} {ec : Enc γ} {p : α × β × γ} (h : EvR (e3 ea eb ec) ta σ H p) : EvR ec (tOp (rIxT K) ta (tC (.int 2))) σ H p.2.2 := er_at h fun H v r => let ⟨a, x, y, z, h1, h2, h3, h4, h5⟩ := r; ⟨a, _, z, h1, h2, rfl, h5⟩
theorem er_50 {ea : Enc α} {eb : Enc β} {ec : Enc γ} {ed : Enc δ} {ee : Enc ε} {p : α × β × γ × δ × ε} (h : EvR (e5 ea eb ec ed ee) ta σ H p) : EvR ea (tOp (rIxT K) ta (tC (.int 0))) σ H p.1 := er_at h fun H v r => let ⟨a, x, y, z, u, w, h1, h2, h3, h4, h5, h6, h7⟩ := r; ⟨a, _, x, h1, h2, rfl, h3⟩
theorem er_52 {ea : Enc α} {eb : Enc β} {ec : Enc γ} {ed : Enc δ} {ee : Enc ε} {p : α × β × γ × δ × ε} (h : EvR (e5 ea eb ec ed ee) ta σ H p) : EvR ec (tOp (rIxT K) ta (tC (.int 2))) σ H p.2.2.1 := er_at h fun H v r => let ⟨a, x, y, z, u, w, h1, h2, h3, h4, h5, h6, h7⟩ := r; ⟨a, _, z, h1, h2, rfl, h5⟩
theorem er_53 {ea : Enc α} {eb : Enc β} {ec : Enc γ} {ed : Enc δ} {ee : Enc ε} {p : α × β × γ × δ × ε} (h : EvR (e5 ea eb ec ed ee) ta σ H p) : EvR ed (tOp (rIxT K) ta (tC (.int 3))) σ H p.2.2.2.1 := er_at h fun H v r => let ⟨a, x, y, z, u, w, h1, h2, h3, h4, h5, h6, h7⟩ := r; ⟨a, _, u, h1, h2, rfl, h6⟩
theorem er_54 {ea : Enc α} {eb : Enc β} {ec : Enc γ} {ed : Enc δ} {ee : Enc ε} {p : α × β × γ × δ × ε} (h : EvR (e5 ea eb ec ed ee) ta σ H p) : EvR ee (tOp (rIxT K) ta (tC (.int 4))) σ H p.2.2.2.2 := er_at h fun H v r => let ⟨a, x, y, z, u, w, h1, h2, h3, h4, h5, h6, h7⟩ := r; ⟨a, _, w, h1, h2, rfl, h7⟩
/-- an index of a tuple, of a list, by data -/
theorem atI_paired {F : V → α → Prop} {xs : List V} {l : List α} {i : Int} {x : α} (h : Paired F xs l) (hx : atI l i = some x) : ∃ v, atI xs i = some v ∧ F v x := by
  unfold atI at hx ⊢
  rw [paired_len h]
  cases hj : ixN l.length i with
  | none => rw [hj] at hx; cases hx
  | some j =>
    rw [hj] at hx
    exact paired_get h hx
theorem er_ixTL {e : Enc α} {l : List α} {i : Int} {x : α} (ha : EvR (eTL e) ta σ H l) (hb : EvR eInt tb σ H i) (hx : atI l i = some x) : EvR e (tOp (rIxT K) ta tb) σ H x := er_op ha hb fun v w H1 _ r1 r2 Q q => by
  obtain ⟨a, xs, h1, h2, h3⟩ := r1
  obtain ⟨y, h4, h5⟩ := atI_paired h3 hx
  exact ⟨a, xs, i, y, h1, r2, SqT.of h2, h4, q y H1 (Ex.refl _) h5⟩
theorem er_ixLs {e : Enc α} {l : List α} {i : Int} {x : α} (ha : EvR (eLs e) ta σ H l) (hb : EvR eInt tb σ H i) (hx : atI l i = some x) : EvR e (tOp (rIxL K) ta tb) σ H x := er_op ha hb fun v w H1 _ r1 r2 Q q => by
  obtain ⟨a, xs, h1, h2, h3⟩ := r1
  obtain ⟨y, h4, h5⟩ := atI_paired h3 hx
  exact ⟨a, xs, i, y, h1, r2, SqL.of h2, h4, q y H1 (Ex.refl _) h5⟩

/-! ### tests -/
theorem et_r {b : Bool} (h : EvR eBl te σ H b) : EvT (tTest te) σ H b := fun H1 e _ q => h H1 e _ fun v H2 e2 r => ⟨b, r, q H2 e2⟩
theorem et_rB {b : Bool} (h : EvR eBl te σ H b) : EvT (tB te) σ H b := fun H1 e _ q => h H1 e _ fun v H2 e2 r => ⟨b, r, q H2 e2⟩
theorem et_yes : EvT tYes σ H true := fun H1 _ _ q => q H1 (Ex.refl _)
theorem er_and {a b : Bool} (h1 : EvR eBl ta σ H a) (h2 : a = true → EvR eBl tb σ H b) : EvR eBl (tAndV ta tb) σ H (a && b) := fun H1 e Q q => h1 H1 e _ fun v H2 e2 r => ⟨a, r, by
  cases a with
  | true =>
    show tb σ H2 Q
    exact h2 rfl H2 (e.trans e2) Q fun w H3 e3 r3 => q w H3 (e2.trans e3) r3
  | false => exact q _ H2 e2 rfl⟩
theorem er_or {a b : Bool} (h1 : EvR eBl ta σ H a) (h2 : a = false → EvR eBl tb σ H b) : EvR eBl (tOrV ta tb) σ H (a || b) := fun H1 e Q q => h1 H1 e _ fun v H2 e2 r => ⟨a, r, by
  cases a with
  | true => exact q _ H2 e2 rfl
  | false =>
    show tb σ H2 Q
    exact h2 rfl H2 (e.trans e2) Q fun w H3 e3 r3 => q w H3 (e2.trans e3) r3⟩
theorem er_not {a : Bool} (h : EvR eBl ta σ H a) : EvR eBl (tNotV ta) σ H (!a) := fun H1 e Q q => h H1 e _ fun v H2 e2 r => ⟨a, r, q _ H2 e2 rfl⟩
theorem er_chain {r r' : R2} {a b : Bool} {x y z : Int} (ha : EvR eInt ta σ H x) (hb : EvR eInt tb σ H y) (hc : EvR eInt tc σ H z)
    (h1 : ∀ H1 (Q : VK), Q (.bl a) H1 → r (.int x) (.int y) H1 Q) (h2 : ∀ H1 (Q : VK), Q (.bl b) H1 → r' (.int y) (.int z) H1 Q) : EvR eBl (tChain r r' ta tb tc) σ H (a && b) := fun H1 e Q q =>
  ha H1 e _ fun v H2 e2 r2 => hb H2 (e.trans e2) _ fun w H3 e3 r3 => by
    cases r2; cases r3
    refine h1 H3 _ ⟨a, rfl, ?_⟩
    cases a with
    | true =>
      show tc σ H3 _
      exact hc H3 ((e.trans e2).trans e3) _ fun u H4 e4 r4 => by
        cases r4
        exact h2 H4 _ (q _ H4 ((e2.trans e3).trans e4) rfl)
    | false => exact q _ H3 (e2.trans e3) rfl

/-! ### arguments, displays, calls -/
theorem er_tup2 {ea : Enc α} {eb : Enc β} {x : α} {y : β} (ha : EvR ea ta σ H x) (hb : EvR eb tb σ H y) : EvR (e2 ea eb) (tTup (tCons ta (tCons tb tNil))) σ H (x, y) := fun H1 e Q q =>
  ha H1 e _ fun v H2 e2' r2 => hb H2 (e.trans e2') _ fun w H3 e3' r3 => ⟨by show 2 ≤ sizeLine; decide, fun p hp => q _ _ ((e2'.trans e3').trans (Ex.new hp)) ⟨p, v, w, rfl, upd_same, ea.mono (e3'.trans (Ex.new hp)) r2, eb.mono (Ex.new hp) r3⟩⟩
theorem er_tup4 {ea : Enc α} {eb : Enc β} {ec : Enc γ} {ed : Enc δ} {x : α} {y : β} {z : γ} {w : δ} (ha : EvR ea ta σ H x) (hb : EvR eb tb σ H y) (hc : EvR ec tc σ H z) (hd : EvR ed td σ H w) : EvR (e4 ea eb ec ed) (tTup (tCons ta (tCons tb (tCons tc (tCons td tNil))))) σ H (x, y, z, w) := fun H1 e Q q =>
  ha H1 e _ fun v H2 k2 r2 => hb H2 (e.trans k2) _ fun w H3 k3 r3 => hc H3 ((e.trans k2).trans k3) _ fun w' H4 k4 r4 => hd H4 (((e.trans k2).trans k3).trans k4) _ fun w2 H5 k5 r5 =>
    ⟨by show 4 ≤ sizeLine; decide, fun p hp => q _ _ ((((k2.trans k3).trans k4).trans k5).trans (Ex.new hp)) ⟨p, v, w, w', w2, rfl, upd_same, ea.mono (((k3.trans k4).trans k5).trans (Ex.new hp)) r2, eb.mono ((k4.trans k5).trans (Ex.new hp)) r3, ec.mono (k5.trans (Ex.new hp)) r4, ed.mono (Ex.new hp) r5⟩⟩
theorem er_tup5 {ea : Enc α} {eb : Enc β} {ec : Enc γ} {ed : Enc δ} {ee : Enc ε} {x : α} {y : β} {z : γ} {w : δ} {o : ε} (ha : EvR ea ta σ H x) (hb : EvR eb tb σ H y) (hc : EvR ec tc σ H z) (hd : EvR ed td σ H w) (he : EvR ee te σ H o) :
    EvR (e5 ea eb ec ed ee) (tTup (tCons ta (tCons tb (tCons tc (tCons td (tCons te tNil)))))) σ H (x, y, z, w, o) := fun H1 e Q q =>
  ha H1 e _ fun v H2 k2 r2 => hb H2 (e.trans k2) _ fun w H3 k3 r3 => hc H3 ((e.trans k2).trans k3) _ fun w' H4 k4 r4 => hd H4 (((e.trans k2).trans k3).trans k4) _ fun w2 H5 k5 r5 => he H5 ((((e.trans k2).trans k3).trans k4).trans k5) _ fun w3 H6 k6 r6 =>
    ⟨by show 5 ≤ sizeLine; decide, fun p hp => q _ _ (((((k2.trans k3).trans k4).trans k5).trans k6).trans (Ex.new hp)) ⟨p, v, w, w', w2, w3, rfl, upd_same, ea.mono ((((k3.trans k4).trans k5).trans k6).trans (Ex.new hp)) r2, eb.mono (((k4.trans k5).trans k6).trans (Ex.new hp)) r3, ec.mono ((k5.trans k6).trans (Ex.new hp)) r4, ed.mono (k6.trans (Ex.new hp)) r5, ee.mono (Ex.new hp) r6⟩⟩
theorem er_tup1 {ea : Enc α} {x : α} (ha : EvR ea ta σ H x) : EvR (eTL ea) (tTup (tCons ta tNil)) σ H [x] := fun H1 e Q q =>
  ha H1 e _ fun v H2 e2' r2 => ⟨by show 1 ≤ sizeLine; decide, fun p hp => q _ _ (e2'.trans (Ex.new hp)) ⟨p, [v], rfl, upd_same, .cons (ea.mono (Ex.new hp) r2) .nil⟩⟩
theorem en_nil {ea : Enc α} : EvN ea (tLst tNil) σ H [] := fun H1 e Q q => ⟨Nat.zero_le _, fun p hp => q p [] _ hp (Ex.new hp) upd_same .nil⟩
theorem en_one {ea : Enc α} {x : α} (ha : EvR ea ta σ H x) : EvN ea (tLst (tCons ta tNil)) σ H [x] := fun H1 e Q q =>
  ha H1 e _ fun v H2 e2' r2 => ⟨by show 1 ≤ sizeLine; decide, fun p hp => q p [v] _ (fresh_back e2' hp) (e2'.trans (Ex.new hp)) upd_same (.cons (ea.mono (Ex.new hp) r2) .nil)⟩
/-- promises of pure defs -/
def Pu1 (ea : Enc α) (er : Enc ε) (pre : α → Prop) (f : α → ε) : Sp := fun vs H Q _ => ∃ a x, vs = [a] ∧ ea.R H a x ∧ pre x ∧ ∀ v H', Ex H H' → er.R H' v (f x) → Q v H'
def Pu2 (ea : Enc α) (eb : Enc β) (er : Enc ε) (pre : α → β → Prop) (f : α → β → ε) : Sp := fun vs H Q _ => ∃ a b x y, vs = [a, b] ∧ ea.R H a x ∧ eb.R H b y ∧ pre x y ∧ ∀ v H', Ex H H' → er.R H' v (f x y) → Q v H'
def Pu3 (ea : Enc α) (eb : Enc β) (ec : Enc γ) (er : Enc ε) (pre : α → β → γ → Prop) (f : α → β → γ → ε) : Sp := fun vs H Q _ => ∃ a b c x y z, vs = [a, b, c] ∧ ea.R H a x ∧ eb.R H b y ∧ ec.R H c z ∧ pre x y z ∧ ∀ v H', Ex H H' → er.R H' v (f x y z) → Q v H'
def Pu4 (ea : Enc α) (eb : Enc β) (ec : Enc γ) (ed : Enc δ) (er : Enc ε) (pre : α → β → γ → δ → Prop) (f : α → β → γ → δ → ε) : Sp := fun vs H Q _ => ∃ a b c d x y z w, vs = [a, b, c, d] ∧ ea.R H a x ∧ eb.R H b y ∧ ec.R H c z ∧ ed.R H d w ∧ pre x y z w ∧ ∀ v H', Ex H H' → er.R H' v (f x y z w) → Q v H'
theorem er_call1 {ea : Enc α} {er : Enc ε} {pre : α → Prop} {f : α → ε} {x : α} {E : XK} (ha : EvR ea ta σ H x) (hp : pre x) : EvR er (tCall (Pu1 ea er pre f) [] E (tCons ta tNil)) σ H (f x) := fun H1 e Q q =>
  ha H1 e _ fun v H2 k2 r2 => ⟨v, x, rfl, r2, hp, fun w H' k' r' => q w H' (k2.trans k') r'⟩
theorem er_call2 {ea : Enc α} {eb : Enc β} {er : Enc ε} {pre : α → β → Prop} {f : α → β → ε} {x : α} {y : β} {E : XK} (ha : EvR ea ta σ H x) (hb : EvR eb tb σ H y) (hp : pre x y) : EvR er (tCall (Pu2 ea eb er pre f) [] E (tCons ta (tCons tb tNil))) σ H (f x y) := fun H1 e Q q =>
  ha H1 e _ fun v H2 k2 r2 => hb H2 (e.trans k2) _ fun w H3 k3 r3 => ⟨v, w, x, y, rfl, ea.mono k3 r2, r3, hp, fun w H' k' r' => q w H' ((k2.trans k3).trans k') r'⟩
theorem er_call3 {ea : Enc α} {eb : Enc β} {ec : Enc γ} {er : Enc ε} {pre : α → β → γ → Prop} {f : α → β → γ → ε} {x : α} {y : β} {z : γ} {E : XK} (ha : EvR ea ta σ H x) (hb : EvR eb tb σ H y) (hc : EvR ec tc σ H z) (hp : pre x y z) :
    EvR er (tCall (Pu3 ea eb ec er pre f) [] E (tCons ta (tCons tb (tCons tc tNil)))) σ H (f x y z) := fun H1 e Q q =>
  ha H1 e _ fun v H2 k2 r2 => hb H2 (e.trans k2) _ fun w H3 k3 r3 => hc H3 ((e.trans k2).trans k3) _ fun w' H4 k4 r4 => ⟨v, w, w', x, y, z, rfl, ea.mono (k3.trans k4) r2, eb.mono k4 r3, r4, hp, fun w H' k' r' => q w H' (((k2.trans k3).trans k4).trans k') r'⟩
theorem er_call4 {ea : Enc α} {eb : Enc β} {ec : Enc γ} {ed : Enc δ} {er : Enc ε} {pre : α → β → γ → δ → Prop} {f : α → β → γ → δ → ε} {x : α} {y : β} {z : γ} {w : δ} {E : XK} (ha : EvR ea ta σ H x) (hb : EvR eb tb σ H y) (hc : EvR ec tc σ H z) (hd : EvR ed td σ H w) (hp : pre x y z w) :
    EvR er (tCall (Pu4 ea eb ec ed er pre f) [] E (tCons ta (tCons tb (tCons tc (tCons td tNil))))) σ H (f x y z w) := fun H1 e Q q =>
  ha H1 e _ fun v H2 k2 r2 => hb H2 (e.trans k2) _ fun w1 H3 k3 r3 => hc H3 ((e.trans k2).trans k3) _ fun w' H4 k4 r4 => hd H4 (((e.trans k2).trans k3).trans k4) _ fun w2 H5 k5 r5 =>
    ⟨v, w1, w', w2, x, y, z, w, rfl, ea.mono ((k3.trans k4).trans k5) r2, eb.mono (k4.trans k5) r3, ec.mono k5 r4, r5, hp, fun w H' k' r' => q w H' ((((k2.trans k3).trans k4).trans k5).trans k') r'⟩

/-! ### built-in calls -/
theorem er_lenS {x : Tx} (ha : EvR eStr ta σ H x) (hl : x.length ≤ 100000) : EvR eInt (tCB (fun xs H Q => ∃ z, xs = [.str z] ∧ z.length ≤ sizeLine ∧ Q (.int z.length) H) (tCons ta tNil)) σ H (x.length : Int) := fun H1 e Q q =>
  ha H1 e _ fun v H2 k2 r2 => by
    cases r2
    exact ⟨ss x, rfl, by rw [ss_len]; exact sz_of hl, q _ H2 k2 (by rw [ss_len]; rfl)⟩
theorem er_lenT {ea : Enc α} {l : List α} (ha : EvR (eTL ea) ta σ H l) : EvR eInt (tCB (fun xs H Q => ∃ p ys, xs = [.ref p] ∧ (SqL K H p ys ∨ SqT K H p ys) ∧ Q (.int ys.length) H) (tCons ta tNil)) σ H (l.length : Int) := fun H1 e Q q =>
  ha H1 e _ fun v H2 k2 r2 => by
    obtain ⟨a, xs, rfl, h2, h3⟩ := r2
    exact ⟨a, xs, rfl, .inr (SqT.of h2), q _ H2 k2 (by rw [paired_len h3]; rfl)⟩
theorem er_lenL {ea : Enc α} {l : List α} (ha : EvR (eLs ea) ta σ H l) : EvR eInt (tCB (fun xs H Q => ∃ p ys, xs = [.ref p] ∧ (SqL K H p ys ∨ SqT K H p ys) ∧ Q (.int ys.length) H) (tCons ta tNil)) σ H (l.length : Int) := fun H1 e Q q =>
  ha H1 e _ fun v H2 k2 r2 => by
    obtain ⟨a, xs, rfl, h2, h3⟩ := r2
    exact ⟨a, xs, rfl, .inl (SqL.of h2), q _ H2 k2 (by rw [paired_len h3]; rfl)⟩
theorem paired_eqs {ec : α → V} : ∀ {xs : List V} {l : List α}, Paired (fun v x => v = ec x) xs l → xs = l.map ec
  | _, _, .nil => rfl
  | _, _, .cons r t => by rw [List.map_cons, ← paired_eqs t, r]
theorem er_sum {l : List Int} (ha : EvR (eLs eInt) ta σ H l) : EvR eInt (tCB (rSum K) (tCons ta tNil)) σ H l.sum := fun H1 e Q q =>
  ha H1 e _ fun v H2 k2 r2 => by
    obtain ⟨a, xs, rfl, h2, h3⟩ := r2
    have hx : xs = l.map V.int := paired_eqs h3
    exact ⟨a, l, rfl, by rw [← hx]; exact SqL.of h2, q _ H2 k2 rfl⟩
theorem er_all {l : List Bool} (ha : EvR (eLs eBl) ta σ H l) : EvR eBl (tCB (rAll K) (tCons ta tNil)) σ H (l.all id) := fun H1 e Q q =>
  ha H1 e _ fun v H2 k2 r2 => by
    obtain ⟨a, xs, rfl, h2, h3⟩ := r2
    have hx : xs = l.map V.bl := paired_eqs h3
    exact ⟨a, l, rfl, by rw [← hx]; exact SqL.of h2, q _ H2 k2 rfl⟩
theorem er_any {l : List Bool} (ha : EvR (eLs eBl) ta σ H l) : EvR eBl (tCB (rAny K) (tCons ta tNil)) σ H (l.any id) := fun H1 e Q q =>
  ha H1 e _ fun v H2 k2 r2 => by
    obtain ⟨a, xs, rfl, h2, h3⟩ := r2
    have hx : xs = l.map V.bl := paired_eqs h3
    exact ⟨a, l, rfl, by rw [← hx]; exact SqL.of h2, q _ H2 k2 rfl⟩
theorem er_min2 {x y : Int} (ha : EvR eInt ta σ H x) (hb : EvR eInt tb σ H y) : EvR eInt (tCB (fun xs H Q => ∃ i j, xs = [.int i, .int j] ∧ Q (.int (if j < i then j else i)) H) (tCons ta (tCons tb tNil))) σ H (min x y) := fun H1 e Q q =>
  ha H1 e _ fun v H2 k2 r2 => hb H2 (e.trans k2) _ fun w H3 k3 r3 => by
    cases r2; cases r3
    refine ⟨x, y, rfl, q _ H3 (k2.trans k3) ?_⟩
    show V.int _ = V.int _
    congr 1
    split <;> omega
theorem er_max2 {x y : Int} (ha : EvR eInt ta σ H x) (hb : EvR eInt tb σ H y) : EvR eInt (tCB (fun xs H Q => ∃ i j, xs = [.int i, .int j] ∧ Q (.int (if j > i then j else i)) H) (tCons ta (tCons tb tNil))) σ H (max x y) := fun H1 e Q q =>
  ha H1 e _ fun v H2 k2 r2 => hb H2 (e.trans k2) _ fun w H3 k3 r3 => by
    cases r2; cases r3
    refine ⟨x, y, rfl, q _ H3 (k2.trans k3) ?_⟩
    show V.int _ = V.int _
    congr 1
    split <;> omega
/-- tuple(a list) -/
theorem er_tupleL {ea : Enc α} {l : List α} (ha : EvR (eLs ea) ta σ H l) : EvR (eTL ea) (tCB (fun xs H Q => ∃ p ys, xs = [.ref p] ∧ ((SqL K H p ys ∧ ∀ l, H l = none → Q (.ref l) (upd H l (.tup ys))) ∨ (SqT K H p ys ∧ Q (.ref p) H))) (tCons ta tNil)) σ H l := fun H1 e Q q =>
  ha H1 e _ fun v H2 k2 r2 => by
    obtain ⟨a, xs, rfl, h2, h3⟩ := r2
    exact ⟨a, xs, rfl, .inl ⟨SqL.of h2, fun p hp => q _ _ (k2.trans (Ex.new hp)) ⟨p, xs, rfl, upd_same, paired_mono h3 fun _ _ r => ea.mono (Ex.new hp) r⟩⟩⟩
/-- list(a tuple) -/
theorem en_listT {ea : Enc α} {l : List α} (ha : EvR (eTL ea) ta σ H l) : EvN ea (tCB (fun xs H Q => ∃ p ys, xs = [.ref p] ∧ (SqL K H p ys ∨ SqT K H p ys) ∧ ∀ l, H l = none → Q (.ref l) (upd H l (.lst ys))) (tCons ta tNil)) σ H l := fun H1 e Q q =>
  ha H1 e _ fun v H2 k2 r2 => by
    obtain ⟨a, xs, rfl, h2, h3⟩ := r2
    exact ⟨a, xs, rfl, .inr (SqT.of h2), fun p hp => q p xs _ (fresh_back k2 hp) (k2.trans (Ex.new hp)) upd_same (paired_mono h3 fun _ _ r => ea.mono (Ex.new hp) r)⟩
/-- a text in a list of texts -/
theorem inV_strs (x : Tx) : ∀ {xs : List V} {l : List Tx}, Paired (fun v t => v = V.str (ss t)) xs l → xs.all flatV = true ∧ inV (.str (ss x)) xs = l.contains x
  | _, _, .nil => ⟨rfl, rfl⟩
  | _, _, .cons (b := b) (l₁ := xs) (l₂ := l) r t => by
    subst r
    have ih := inV_strs x t
    refine ⟨ih.1, ?_⟩
    show (eqV (.str (ss b)) (.str (ss x)) || inV (.str (ss x)) xs) = _
    rw [ih.2, List.contains_cons]
    congr 1
    show (ss b == ss x) = (x == b)
    rw [Bool.eq_iff_iff, beq_iff_eq, beq_iff_eq]
    exact ⟨fun h => (ss_inj h).symm, fun h => h ▸ rfl⟩
theorem er_inL {x : Tx} {l : List Tx} (ha : EvR eStr ta σ H x) (hb : EvR (eLs eStr) tb σ H l) : EvR eBl (tOp (rIn K false) ta tb) σ H (l.contains x) := er_op ha hb fun v w H1 _ r1 r2 Q q => by
  obtain ⟨a, xs, rfl, h2, h3⟩ := r2
  cases r1
  have h := inV_strs x h3
  refine ⟨a, xs, rfl, .inl (SqL.of h2), rfl, h.1, q _ H1 (Ex.refl _) ?_⟩
  show V.bl _ = V.bl _
  rw [if_neg (by decide), h.2]
/-- a sign in a text -/
theorem er_inS {c : Nat} {x : Tx} (ha : EvR eChr ta σ H c) (hb : EvR eStr tb σ H x) : EvR eBl (tOp (fun x y H Q => ∃ (c : Nat) (z : Str), x = .str ⟨#[c]⟩ ∧ y = .str z ∧ Q (.bl (decide (c ∈ z.cps.toList))) H) ta tb) σ H (decide (c ∈ x)) := er_op ha hb fun v w H1 _ r1 r2 Q q =>
  ⟨c, ss x, r1, r2, q _ H1 (Ex.refl _) (by rw [ss_list]; rfl)⟩
theorem er_ltS {x y : Tx} (ha : EvR eStr ta σ H x) (hb : EvR eStr tb σ H y) : EvR eBl (tOp (fun x y H Q => ∃ i j, x = .str i ∧ y = .str j ∧ Q (.bl (decide (i.cps.toList < j.cps.toList))) H) ta tb) σ H (decide (x < y)) := er_op ha hb fun v w H1 _ r1 r2 Q q =>
  ⟨ss x, ss y, r1, r2, q _ H1 (Ex.refl _) (by rw [ss_list, ss_list]; rfl)⟩
/-- slices of texts -/
theorem eo_r {te : TE} {i : Int} (h : EvR eInt te σ H i) : EvO (tPart te) σ H (some i) := fun H1 e Q q => h H1 e _ fun v H2 k2 r2 => ⟨i, r2, q H2 k2⟩
def cutT (x : Tx) (lo hi : Option Int) : Tx := (x.drop (HT.sIx x.length 0 lo)).take (HT.sIx x.length x.length hi - HT.sIx x.length 0 lo)
theorem er_slS {x : Tx} {tl th : TO} {lo hi : Option Int} (ha : EvR eStr ta σ H x) (hl : EvO tl σ H lo) (hh : EvO th σ H hi) (hz : x.length ≤ 100000) : EvR eStr (tSl rSlS ta tl th) σ H (cutT x lo hi) := fun H1 e Q q =>
  ha H1 e _ fun v H2 k2 r2 => hl H2 (e.trans k2) _ fun H3 k3 => hh H3 ((e.trans k2).trans k3) _ fun H4 k4 => by
    cases r2
    refine ⟨ss x, rfl, by rw [ss_len]; exact sz_of hz, q _ H4 ((k2.trans k3).trans k4) ?_⟩
    show V.str _ = V.str _
    unfold cutS cutT
    rw [ss_len, ss_list]
    rfl
/-- "".join(texts) -/
theorem join_flat (ys : List Tx) : Txt.join (ss []) (ys.map ss) = ss ys.flatten := by
  rw [TL.join_eq]
  induction ys with
  | nil => rfl
  | cons x r ih =>
    cases r with
    | nil => show ss x = ss (x ++ []); rw [List.append_nil]
    | cons y r =>
      show ss x ++ ss [] ++ Str.join (ss []) ((y :: r).map ss) = ss (x ++ (y :: r).flatten)
      rw [ih, ss_app, List.append_nil, ss_app]
theorem er_join {ys : List Tx} {z : Str} (hz : z = ss []) (ha : EvR (eLs eStr) ta σ H ys) (hl : (ys.map (·.length)).sum ≤ 100000) :
    EvR eStr (tM1 (fun x xs H Q => ∃ a p, ∃ ys : List Str, x = .str a ∧ xs = [.ref p] ∧ (SqL K H p (ys.map V.str) ∨ SqT K H p (ys.map V.str)) ∧ (ys.map (·.length)).sum + ys.length * a.length ≤ 16777216 ∧ Q (.str (Txt.join a ys)) H) (tC (.str z)) ta) σ H ys.flatten := fun H1 e Q q =>
  ⟨⟨z, rfl⟩, ha H1 e _ fun v H2 k2 r2 => by
    obtain ⟨a, xs, rfl, h2, h3⟩ := r2
    have hx : xs = (ys.map ss).map V.str := by rw [List.map_map]; exact paired_eqs (ec := fun t => V.str (ss t)) h3
    subst hz
    refine ⟨ss [], a, ys.map ss, rfl, rfl, .inl (by rw [← hx]; exact SqL.of h2), ?_, q _ H2 k2 (congrArg V.str (join_flat ys))⟩
    have e1 : (ys.map ss).map (·.length) = ys.map (·.length) := by
      rw [List.map_map]
      exact List.map_congr_left fun t _ => ss_len t
    rw [e1]
    show _ + _ * (ss []).length ≤ _
    rw [ss_len]
    simp only [List.length_nil, Nat.mul_zero, Nat.add_zero]
    omega⟩
end
end K61

/-! K61B: sources, loops, comprehensions, statements over data; calls of named defs. -/
namespace K61
open PySem PySem.Spec PyProof.Rows L2 Evl
section
variable {α β γ δ ε : Type} {K : PySem.W.Frag} {σ : L2.St} {H H' : Hp} {ta tb tc td te tl : TE} {t u : TT} {D : Ends} {tu tw tz : TS} {g : TG}
/-- what an iterator gives, as long as Dep stands -/
def Yl (e : Enc α) (J : It) (Dep : Hp) (l : List α) : Prop := ∀ H', Ex Dep H' → ∀ i, (∀ x, l[i]? = some x → J.go i H' ∧ ∀ v H'', J.yld i H' v H'' → Ex H' H'' ∧ e.R H'' v x) ∧ (l.length ≤ i → J.stop i H')
def SrcOf (e : Enc α) (wi : TI) (σ : L2.St) (H : Hp) (l : List α) (A : Addr → Prop) : Prop := ∀ H1, Ex H H1 → ∀ R : It → Hp → Prop,
  (∀ J H2 Dep, Ex H1 H2 → Ex Dep H2 → (∀ a o, Dep a = some o → H1 a = none ∨ (∃ xs, o = .tup xs) ∨ A a) → Yl e J Dep l → R J H2) → wi σ H1 R
abbrev NoA : Addr → Prop := fun _ => False
theorem SrcOf.mono {e : Enc α} {wi : TI} {l : List α} {A : Addr → Prop} (h : SrcOf e wi σ H l A) (k : Ex H H') : SrcOf e wi σ H' l A := fun H1 a R r => h H1 (k.trans a) R r
theorem get_len {l : List α} {i : Nat} {x : α} (h : l[i]? = some x) : i < l.length := (List.getElem?_eq_some_iff.mp h).1
/-- the tuples of a heap -/
def tups (H : Hp) : Hp := fun a => match H a with
  | some (.tup xs) => some (.tup xs)
  | _ => none
theorem tups_some {H : Hp} {a : Addr} {o : HO} (h : tups H a = some o) : ∃ xs, o = .tup xs ∧ H a = some (.tup xs) := by
  unfold tups at h
  split at h
  · rename_i xs e
    cases h
    exact ⟨xs, rfl, e⟩
  · cases h
theorem tups_of {H : Hp} {a : Addr} {xs : List V} (h : H a = some (.tup xs)) : tups H a = some (.tup xs) := by
  unfold tups
  rw [h]
theorem ex_tups (H : Hp) : Ex (tups H) H := fun a o h => by
  obtain ⟨xs, rfl, e⟩ := tups_some h
  exact e
theorem tex_of_tups {H H' : Hp} (h : Ex (tups H) H') : TEx H H' := fun a xs e => h a _ (tups_of e)
theorem src_tup {e : Enc α} [ie : Imm e] {l : List α} (h : EvR (eTL e) tl σ H l) : SrcOf e (iTup K tl) σ H l NoA := fun H1 k R r =>
  h H1 k _ fun v H2 k2 rv => by
    obtain ⟨a, xs, rfl, h2, h3⟩ := rv
    refine ⟨a, rfl, ⟨xs, SqT.of h2⟩, r _ H2 (tups H2) k2 (ex_tups H2) (fun b o hb => ?_) fun H' hd i => ⟨fun x hx => ?_, fun hi => ?_⟩⟩
    · obtain ⟨ys, rfl, _⟩ := tups_some hb
      exact .inr (.inl ⟨ys, rfl⟩)
    · obtain ⟨v, hv, hr⟩ := paired_get h3 hx
      refine ⟨⟨xs, v, SqT.of (hd _ _ (tups_of h2)), hv⟩, fun w H'' hy => ?_⟩
      obtain ⟨rfl, hy⟩ := hy
      have := hy xs (SqT.of (hd _ _ (tups_of h2)))
      rw [hv] at this
      cases this
      exact ⟨Ex.refl _, ie.imm (tex_of_tups hd) hr⟩
    · exact ⟨xs, SqT.of (hd _ _ (tups_of h2)), by rw [paired_len h3]; exact hi⟩
/-- tuples and one object more -/
def tupsA (H : Hp) (p : Addr) : Hp := fun a => if a = p then H a else tups H a
theorem ex_tupsA (H : Hp) (p : Addr) : Ex (tupsA H p) H := fun a o h => by
  unfold tupsA at h
  split at h
  · exact h
  · exact ex_tups H a o h
theorem tupsA_at {H : Hp} {p : Addr} : tupsA H p p = H p := by unfold tupsA; rw [if_pos rfl]
theorem tex_of_tupsA {H H' : Hp} {p : Addr} (h : Ex (tupsA H p) H') : TEx H H' := fun a xs e => h a _ (by
  unfold tupsA
  split
  · exact e
  · exact tups_of e)
theorem yl_list {e : Enc α} [ie : Imm e] {l : List α} {p : Addr} {xs : List V} (h2 : H p = some (.lst xs)) (h3 : Paired (e.R H) xs l) : Yl e (Itl K p) (tupsA H p) l := fun H' hd i => by
  have hl : SqL K H' p xs := SqL.of (hd p _ (by rw [tupsA_at]; exact h2))
  refine ⟨fun x hx => ?_, fun hi => ⟨xs, hl, by rw [paired_len h3]; exact hi⟩⟩
  obtain ⟨v, hv, hr⟩ := paired_get h3 hx
  refine ⟨⟨xs, v, hl, hv⟩, fun w H'' hy => ?_⟩
  obtain ⟨rfl, hy⟩ := hy
  have := hy xs hl
  rw [hv] at this
  cases this
  exact ⟨Ex.refl _, ie.imm (tex_of_tupsA hd) hr⟩
theorem src_new {e : Enc α} [ie : Imm e] {l : List α} (h : EvN e tl σ H l) : SrcOf e (iList K tl) σ H l NoA := fun H1 k R r =>
  h H1 k _ fun p xs H2 hp k2 h2 h3 => by
    refine ⟨p, rfl, ⟨xs, SqL.of h2⟩, r _ H2 (tupsA H2 p) k2 (ex_tupsA H2 p) (fun b o hb => ?_) (yl_list h2 h3)⟩
    by_cases hbp : b = p
    · exact .inl (hbp ▸ hp)
    · unfold tupsA at hb
      rw [if_neg hbp] at hb
      obtain ⟨ys, rfl, _⟩ := tups_some hb
      exact .inr (.inl ⟨ys, rfl⟩)
theorem src_at {e : Enc α} [ie : Imm e] {l : List α} {p : Addr} (h : Ev tl σ H (.ref p)) (hl : LsAt e H p l) : SrcOf e (iList K tl) σ H l (fun a => a = p) := fun H1 k R r =>
  h H1 k _ fun H2 k2 => by
    obtain ⟨xs, h2, h3⟩ := hl.mono (k.trans k2)
    refine ⟨p, rfl, ⟨xs, SqL.of h2⟩, r _ H2 (tupsA H2 p) k2 (ex_tupsA H2 p) (fun b o hb => ?_) (yl_list h2 h3)⟩
    by_cases hbp : b = p
    · exact .inr (.inr hbp)
    · unfold tupsA at hb
      rw [if_neg hbp] at hb
      obtain ⟨ys, rfl, _⟩ := tups_some hb
      exact .inr (.inl ⟨ys, rfl⟩)
theorem src_ls {e : Enc α} [ie : Imm e] {l : List α} (h : EvR (eLs e) tl σ H l) : SrcOf e (iList K tl) σ H l (fun _ => True) := fun H1 k R r =>
  h H1 k _ fun v H2 k2 rv => by
    obtain ⟨p, xs, rfl, h2, h3⟩ := rv
    exact ⟨p, rfl, ⟨xs, SqL.of h2⟩, r _ H2 (tupsA H2 p) k2 (ex_tupsA H2 p) (fun b o hb => .inr (.inr trivial)) (yl_list h2 h3)⟩
theorem src_range1 {n : Nat} (h : EvR eNat ta σ H n) (hn : n ≤ 100000) : SrcOf eNat (iRng1 (tCons ta tNil)) σ H (List.range n) NoA := fun H1 k R r =>
  h H1 k _ fun v H2 k2 rv => by
    cases rv
    refine ⟨(n : Int), rfl, by omega, by omega, r _ H2 (tups H2) k2 (ex_tups H2) (fun b o hb => ?_) fun H' hd i => ⟨fun x hx => ?_, fun hi => ?_⟩⟩
    · obtain ⟨ys, rfl, _⟩ := tups_some hb
      exact .inr (.inl ⟨ys, rfl⟩)
    · have hi := get_len hx
      rw [List.length_range] at hi
      rw [List.getElem?_range hi] at hx
      cases hx
      refine ⟨by show i < ((n : Int)).toNat; omega, fun w H'' hy => ?_⟩
      obtain ⟨rfl, rfl⟩ := hy
      exact ⟨Ex.refl _, by show V.int (0 + (i : Int)) = V.int (i : Int); rw [Int.zero_add]⟩
    · rw [List.length_range] at hi
      show ((n : Int)).toNat ≤ i
      omega
/-- range(lo, hi) from naturals -/
theorem src_range2 {m n : Nat} (ha : EvR eNat ta σ H m) (hb : EvR eNat tb σ H n) (hm : m ≤ 100000) (hn : n ≤ 100000) : SrcOf eNat (iRng2 (tCons ta (tCons tb tNil))) σ H ((List.range (n - m)).map (fun i => m + i)) NoA := fun H1 k R r =>
  ha H1 k _ fun v H2 k2 rv => hb H2 (k.trans k2) _ fun w H3 k3 rw' => by
    cases rv; cases rw'
    refine ⟨(m : Int), (n : Int), rfl, ⟨by omega, by omega, by omega, by omega⟩, r _ H3 (tups H3) (k2.trans k3) (ex_tups H3) (fun b o hb => ?_) fun H' hd i => ⟨fun x hx => ?_, fun hi => ?_⟩⟩
    · obtain ⟨ys, rfl, _⟩ := tups_some hb
      exact .inr (.inl ⟨ys, rfl⟩)
    · have hi := get_len hx
      rw [List.length_map, List.length_range] at hi
      rw [List.getElem?_map, List.getElem?_range hi] at hx
      cases hx
      refine ⟨by show i < ((n : Int) - (m : Int)).toNat; omega, fun w H'' hy => ?_⟩
      obtain ⟨rfl, rfl⟩ := hy
      exact ⟨Ex.refl _, by show V.int ((m : Int) + (i : Int)) = V.int ((m + i : Nat) : Int); rw [Int.natCast_add]⟩
    · rw [List.length_map, List.length_range] at hi
      show ((n : Int) - (m : Int)).toNat ≤ i
      omega
theorem src_str {x : Tx} (h : EvR eStr te σ H x) : SrcOf eChr (iStr te) σ H x NoA := fun H1 k R r =>
  h H1 k _ fun v H2 k2 rv => by
    cases rv
    refine ⟨ss x, rfl, r _ H2 (tups H2) k2 (ex_tups H2) (fun b o hb => ?_) fun H' hd i => ⟨fun c hc => ?_, fun hi => ?_⟩⟩
    · obtain ⟨ys, rfl, _⟩ := tups_some hb
      exact .inr (.inl ⟨ys, rfl⟩)
    · refine ⟨by show i < x.toArray.size; rw [List.size_toArray]; exact get_len hc, fun w H'' hy => ?_⟩
      obtain ⟨rfl, d, hd, rfl⟩ := hy
      have hd : x.toArray[i]? = some d := hd
      rw [List.getElem?_toArray, hc] at hd
      cases hd
      exact ⟨Ex.refl _, rfl⟩
    · show x.toArray.size ≤ i
      rw [List.size_toArray]
      exact hi
/-- enumerate(a list that stands) -/
theorem src_enum {e : Enc α} [ie : Imm e] {l : List α} {p : Addr} (h : Ev ta σ H (.ref p)) (hl : LsAt e H p l) : SrcOf (e2 eNat e) (iEnum K (tCons ta tNil)) σ H ((List.range l.length).zip l) (fun a => a = p) := fun H1 k R r =>
  h H1 k _ fun H2 k2 => by
    obtain ⟨xs, h2, h3⟩ := hl.mono (k.trans k2)
    refine ⟨p, xs, rfl, SqL.of h2, r _ H2 (tupsA H2 p) k2 (ex_tupsA H2 p) (fun b o hb => ?_) fun H' hd i => ?_⟩
    · by_cases hbp : b = p
      · exact .inr (.inr hbp)
      · unfold tupsA at hb
        rw [if_neg hbp] at hb
        obtain ⟨ys, rfl, _⟩ := tups_some hb
        exact .inr (.inl ⟨ys, rfl⟩)
    · have hl' : SqL K H' p xs := SqL.of (hd p _ (by rw [tupsA_at]; exact h2))
      refine ⟨fun x hx => ?_, fun hi => ⟨xs, hl', by rw [paired_len h3]; rw [List.length_zip, List.length_range, Nat.min_self] at hi; exact hi⟩⟩
      rw [List.getElem?_zip_eq_some] at hx
      obtain ⟨hx1, hx2⟩ := hx
      obtain ⟨v, hv, hr⟩ := paired_get h3 hx2
      have hi := get_len hx2
      rw [List.getElem?_range hi] at hx1
      refine ⟨⟨xs, v, hl', hv⟩, fun w H'' hy => ?_⟩
      obtain ⟨T, y, rfl, hT, rfl, hy⟩ := hy
      have := hy xs hl'
      rw [hv] at this
      cases this
      refine ⟨Ex.new hT, T, _, _, rfl, upd_same, ?_, ie.imm ((tex_of_tupsA hd).trans (ex_tex (Ex.new hT))) hr⟩
      show V.int (i : Int) = V.int (x.1 : Int)
      rw [Option.some.inj hx1]
/-- zip of two lists that stand -/
theorem src_zip {ea : Enc α} {eb : Enc β} [ia : Imm ea] [ib : Imm eb] {l : List α} {m : List β} (ha : EvR (eLs ea) ta σ H l) (hb : EvR (eLs eb) tb σ H m) : SrcOf (e2 ea eb) (iZip K (tCons ta (tCons tb tNil))) σ H (l.zip m) (fun _ => True) := fun H1 k R r =>
  ha H1 k _ fun v H2 k2 rv => hb H2 (k.trans k2) _ fun w H3 k3 rw' => by
    obtain ⟨p, xs, rfl, h2, h3⟩ := rv
    obtain ⟨q, ys, rfl, h4, h5⟩ := rw'
    have h2 := k3 _ _ h2
    have h3 := paired_mono h3 fun _ _ r => ia.imm (ex_tex k3) r
    refine ⟨p, q, xs, ys, rfl, SqL.of h2, SqL.of h4, r _ H3 H3 (k2.trans k3) (Ex.refl _) (fun b o hb => .inr (.inr trivial)) fun H' hd i => ?_⟩
    have hl1 : SqL K H' p xs := SqL.of (hd _ _ h2)
    have hl2 : SqL K H' q ys := SqL.of (hd _ _ h4)
    refine ⟨fun x hx => ?_, fun hi => ⟨xs, ys, hl1, hl2, ?_⟩⟩
    · rw [List.getElem?_zip_eq_some] at hx
      obtain ⟨v, hv, hr⟩ := paired_get h3 hx.1
      obtain ⟨w, hw, hs⟩ := paired_get h5 hx.2
      refine ⟨⟨xs, ys, v, w, hl1, hl2, hv, hw⟩, fun z H'' hy => ?_⟩
      obtain ⟨T, y1, y2, rfl, hT, rfl, f1, f2⟩ := hy
      have e1 := f1 xs hl1
      have e2 := f2 ys hl2
      rw [hv] at e1
      rw [hw] at e2
      cases e1; cases e2
      exact ⟨Ex.new hT, T, _, _, rfl, upd_same, ia.imm (ex_tex (hd.trans (Ex.new hT))) hr, ib.imm (ex_tex (hd.trans (Ex.new hT))) hs⟩
    · rw [List.length_zip] at hi
      rw [paired_len h3, paired_len h5]
      omega

/-! ### targets -/
theorem g_1 {i : Nat} {v : V} {Q : L2.St → Hp → Prop} (h : Q (σ.set i (some v)) H) : gName i v σ H Q := h
theorem g_2 {ea : Enc α} {eb : Enc β} {p : α × β} {i j : Nat} {v : V} {Q : L2.St → Hp → Prop} (r : (e2 ea eb).R H v p) (h : ∀ x y, ea.R H x p.1 → eb.R H y p.2 → Q ((σ.set i (some x)).set j (some y)) H) :
    gTup K 2 (gCons (gName i) (gCons (gName j) gNil)) v σ H Q := by
  obtain ⟨a, x, y, rfl, h2, h3, h4⟩ := r
  exact ⟨a, _, rfl, SqT.of h2, rfl, x, _, rfl, y, _, rfl, rfl, h x y h3 h4⟩
theorem g_3 {ea : Enc α} {eb : Enc β} {ec : Enc γ} {p : α × β × γ} {i j k : Nat} {v : V} {Q : L2.St → Hp → Prop} (r : (e3 ea eb ec).R H v p) (h : ∀ x y z, ea.R H x p.1 → eb.R H y p.2.1 → ec.R H z p.2.2 → Q (((σ.set i (some x)).set j (some y)).set k (some z)) H) :
    gTup K 3 (gCons (gName i) (gCons (gName j) (gCons (gName k) gNil))) v σ H Q := by
  obtain ⟨a, x, y, z, rfl, h2, h3, h4, h5⟩ := r
  exact ⟨a, _, rfl, SqT.of h2, rfl, x, _, rfl, y, _, rfl, z, _, rfl, rfl, h x y z h3 h4 h5⟩
theorem g_4 {ea : Enc α} {eb : Enc β} {ec : Enc γ} {ed : Enc δ} {p : α × β × γ × δ} {i j k l : Nat} {v : V} {Q : L2.St → Hp → Prop} (r : (e4 ea eb ec ed).R H v p)
    (h : ∀ x y z w, ea.R H x p.1 → eb.R H y p.2.1 → ec.R H z p.2.2.1 → ed.R H w p.2.2.2 → Q ((((σ.set i (some x)).set j (some y)).set k (some z)).set l (some w)) H) :
    gTup K 4 (gCons (gName i) (gCons (gName j) (gCons (gName k) (gCons (gName l) gNil)))) v σ H Q := by
  obtain ⟨a, x, y, z, w, rfl, h2, h3, h4, h5, h6⟩ := r
  exact ⟨a, _, rfl, SqT.of h2, rfl, x, _, rfl, y, _, rfl, z, _, rfl, w, _, rfl, rfl, h x y z w h3 h4 h5 h6⟩

/-! ### for, while -/
theorem s_for {e : Enc α} {wi : TI} {l : List α} {A : Addr → Prop} (ls : List Addr) (hs : SrcOf e wi σ H l A) (hls : ∀ a ∈ ls, (∃ o, H a = some o ∧ ∀ xs, o ≠ .tup xs) ∧ ¬ A a) (I : Nat → L2.St → Hp → Prop)
    (h0 : ∀ H1, Ex H H1 → I 0 σ H1)
    (step : ∀ i x σ' H', l[i]? = some x → Ex (hid H ls) H' → I i σ' H' → ∀ v H'', Ex H' H'' → e.R H'' v x → g v σ' H'' fun σ2 H2 =>
      tu { D with nx := fun σ3 H3 => Ex (hid H' ls) H3 ∧ I (i + 1) σ3 H3, ct := fun σ3 H3 => Ex (hid H' ls) H3 ∧ I (i + 1) σ3 H3, bk := D.nx } σ2 H2)
    (done : ∀ σ' H', Ex (hid H ls) H' → I l.length σ' H' → D.nx σ' H') : tFor wi g tu D σ H :=
  hs H (Ex.refl H) _ fun J H1 Dep k1 kd hdep hy => by
    have hD : ∀ a ∈ ls, Dep a = none := fun a ha => by
      obtain ⟨⟨o, ho, hnt⟩, hA⟩ := hls a ha
      cases hq : Dep a with
      | none => rfl
      | some o' =>
        exfalso
        rcases hdep a o' hq with h | ⟨xs, h⟩ | h
        · rw [ho] at h; cases h
        · have h1 := kd a o' hq
          rw [k1 a o ho] at h1
          cases h1
          exact hnt xs h
        · exact hA h
    refine ⟨fun i m σ' H' => m = l.length - i ∧ i ≤ l.length ∧ Ex Dep H' ∧ Ex (hid H1 ls) H' ∧ I i σ' H', ⟨l.length, by omega, Nat.zero_le _, kd, ex_unhid (Ex.refl _), h0 H1 k1⟩, ?_⟩
    rintro i m σ' H' ⟨rfl, hi, kD, kH, hI⟩
    have kHH : Ex (hid H ls) H' := (ex_hid ls k1).trans kH
    by_cases hlt : i < l.length
    · have hx : l[i]? = some l[i] := List.getElem?_eq_getElem hlt
      obtain ⟨hgo, hyl⟩ := (hy H' kD i).1 _ hx
      refine .inr ⟨hgo, fun σ3 H3 => Ex (hid H' ls) H3 ∧ I (i + 1) σ3 H3, fun σ3 H3 h3 => ⟨l.length - (i + 1), by omega, rfl, hlt, ?_, ?_, h3.2⟩, fun v H'' hv => ?_⟩
      · intro a o ha
        refine h3.1 a o ?_
        rw [hid_ne fun hm => by rw [hD a hm] at ha; cases ha]
        exact kD a o ha
      · exact (ex_rehid kH).trans h3.1
      · obtain ⟨k2, hr⟩ := hyl v H'' hv
        exact step i _ σ' H' hx kHH hI v H'' k2 hr
    · have e1 : i = l.length := by omega
      subst e1
      exact .inl ⟨(hy H' kD _).2 (Nat.le_refl _), done σ' H' kHH hI⟩
theorem q_for {e : Enc α} {wi : TI} {l : List α} {A : Addr → Prop} (ls : List Addr) (hs : SrcOf e wi σ H l A) (hls : ∀ a ∈ ls, (∃ o, H a = some o ∧ ∀ xs, o ≠ .tup xs) ∧ ¬ A a) (I : Nat → L2.St → Hp → Prop)
    (h0 : ∀ H1, Ex H H1 → I 0 σ H1)
    (step : ∀ i x σ' H', l[i]? = some x → Ex (hid H ls) H' → I i σ' H' → ∀ v H'', Ex H' H'' → e.R H'' v x → g v σ' H'' fun σ2 H2 =>
      tu { D with nx := fun σ3 H3 => Ex (hid H' ls) H3 ∧ I (i + 1) σ3 H3, ct := fun σ3 H3 => Ex (hid H' ls) H3 ∧ I (i + 1) σ3 H3, bk := tz D } σ2 H2)
    (done : ∀ σ' H', Ex (hid H ls) H' → I l.length σ' H' → tz D σ' H') : tSeq (tFor wi g tu) tz D σ H := s_for (D := { D with nx := tz D }) ls hs hls I h0 step done
theorem s_wh (ls : List Addr) (W : Nat → L2.St → Hp → Prop) (m0 : Nat) (h0 : W m0 σ H)
    (hs : ∀ m σ' H', Ex (hid H ls) H' → W m σ' H' → ∃ b, EvT t σ' H' b ∧
      (b = true → ∀ H1, Ex H' H1 → tu { D with nx := fun σ2 H2 => Ex (hid H' ls) H2 ∧ ∃ m', m' < m ∧ W m' σ2 H2, ct := fun σ2 H2 => Ex (hid H' ls) H2 ∧ ∃ m', m' < m ∧ W m' σ2 H2, bk := D.nx } σ' H1) ∧ (b = false → ∀ H1, Ex H' H1 → D.nx σ' H1)) : tWhile t tu D σ H :=
  s_while (fun m σ' H' => Ex (hid H ls) H' ∧ W m σ' H') m0 ⟨ex_unhid (Ex.refl _), h0⟩ fun m σ' H' ⟨k, w⟩ => by
    obtain ⟨b, hb, h1, h2⟩ := hs m σ' H' k w
    refine ⟨b, hb, fun e H1 k1 => ⟨_, fun σ2 H2 q => ?_, h1 e H1 k1⟩, h2⟩
    obtain ⟨q1, m', hm, q2⟩ := q
    exact ⟨m', hm, (ex_rehid k).trans q1, q2⟩
theorem q_wh (ls : List Addr) (W : Nat → L2.St → Hp → Prop) (m0 : Nat) (h0 : W m0 σ H)
    (hs : ∀ m σ' H', Ex (hid H ls) H' → W m σ' H' → ∃ b, EvT t σ' H' b ∧
      (b = true → ∀ H1, Ex H' H1 → tu { D with nx := fun σ2 H2 => Ex (hid H' ls) H2 ∧ ∃ m', m' < m ∧ W m' σ2 H2, ct := fun σ2 H2 => Ex (hid H' ls) H2 ∧ ∃ m', m' < m ∧ W m' σ2 H2, bk := tz D } σ' H1) ∧ (b = false → ∀ H1, Ex H' H1 → tz D σ' H1)) : tSeq (tWhile t tu) tz D σ H :=
  s_wh (D := { D with nx := tz D }) ls W m0 h0 hs

/-! ### comprehensions -/
theorem filter_take {f : α → Bool} {l : List α} {i : Nat} {x : α} (h : l[i]? = some x) : (l.take (i + 1)).filter f = (l.take i).filter f ++ (if f x = true then [x] else []) := by
  rw [List.take_add_one, h, List.filter_append]
  congr 1
  show [x].filter f = _
  rw [List.filter_cons]
  split <;> simp
theorem en_lc {e : Enc α} {e' : Enc β} [ie : Imm e'] {wi : TI} {l : List α} {A : Addr → Prop} {vs : List Nat} (f : α → Bool) (h : α → β) (hs : SrcOf e wi σ H l A) (hl : l.length ≤ 40000)
    (ht : ∀ x v H1, x ∈ l → Ex H H1 → e.R H1 v x → ∀ Q : L2.St → Hp → Prop, (∀ σ2, wipe σ2 vs = wipe σ vs → EvT t σ2 H1 (f x) → (f x = true → EvR e' te σ2 H1 (h x)) → Q σ2 H1) → g v (wipe σ vs) H1 Q) :
    EvN e' (tLc wi g t te vs) σ H ((l.filter f).map h) := fun H1 k Q q => hs H1 k _ fun J H2 Dep k2 kd hdep hy => fun P hP => by
  refine ⟨fun i m H' => m = l.length - i ∧ i ≤ l.length ∧ Ex H2 H' ∧ ∃ acc, H' P = some (.lst acc) ∧ Paired (e'.R H') acc (((l.take i).filter f).map h), ⟨l.length, by omega, Nat.zero_le _, Ex.new hP, [], upd_same, .nil⟩, ?_⟩
  rintro i m H' ⟨rfl, hi, kH, acc, hacc, hp⟩
  by_cases hlt : i < l.length
  · have hx : l[i]? = some l[i] := List.getElem?_eq_getElem hlt
    obtain ⟨hgo, hyl⟩ := (hy H' (kd.trans kH) i).1 _ hx
    refine .inr ⟨hgo, fun H' => Ex H2 H' ∧ ∃ acc, H' P = some (.lst acc) ∧ Paired (e'.R H') acc (((l.take (i + 1)).filter f).map h), fun H3 h3 => ⟨l.length - (i + 1), by omega, rfl, hlt, h3⟩, fun v H'' hv => ?_⟩
    obtain ⟨k3, hr⟩ := hyl v H'' hv
    refine ht l[i] v H'' (List.getElem_mem hlt) ((k.trans k2).trans (kH.trans k3)) hr _ fun σ2 hw hT hE => ⟨hw, hT H'' (Ex.refl _) _ fun H3 k4 => ?_⟩
    have kk : Ex H' H3 := k3.trans k4
    have hft := filter_take (f := f) hx
    cases hb : f l[i] with
    | true =>
      rw [hb, if_pos rfl] at hft
      refine iteT (hE hb H3 k4 _ fun y H4 k5 ry => ⟨acc, k5 _ _ (kk _ _ hacc), ?_, ?_, ?_⟩)
      · refine sz_lt ?_
        rw [paired_len hp, List.length_map]
        have := List.length_filter_le f (l.take i)
        rw [List.length_take] at this
        omega
      · exact Ex.mut (kH.trans (kk.trans k5)) hP
      · refine ⟨_, upd_same, ?_⟩
        rw [hft, List.map_append]
        have hT2 : TEx H4 (upd H4 P (.lst (acc ++ [y]))) := tex_lst (k5 _ _ (kk _ _ hacc))
        exact paired_app (paired_mono hp fun _ _ r => ie.imm ((ex_tex (kk.trans k5)).trans hT2) r) (ie.imm hT2 ry)
    | false =>
      rw [hb, if_neg (by decide), List.append_nil] at hft
      refine iteF ⟨kH.trans kk, acc, kk _ _ hacc, ?_⟩
      rw [hft]
      exact paired_mono hp fun _ _ r => ie.imm (ex_tex kk) r
  · have e1 : i = l.length := by omega
    subst e1
    rw [List.take_length] at hp
    exact .inl ⟨(hy H' (kd.trans kH) _).2 (Nat.le_refl _), q P acc H' (fresh_back k2 hP) (k2.trans kH) hacc hp⟩
/-- no test -/
theorem en_lcA {e : Enc α} {e' : Enc β} [ie : Imm e'] {wi : TI} {l : List α} {A : Addr → Prop} {vs : List Nat} (h : α → β) (hs : SrcOf e wi σ H l A) (hl : l.length ≤ 40000)
    (ht : ∀ x v H1, x ∈ l → Ex H H1 → e.R H1 v x → ∀ Q : L2.St → Hp → Prop, (∀ σ2, wipe σ2 vs = wipe σ vs → EvR e' te σ2 H1 (h x) → Q σ2 H1) → g v (wipe σ vs) H1 Q) :
    EvN e' (tLc wi g tYes te vs) σ H (l.map h) := by
  have := en_lc (t := tYes) (te := te) (e' := e') (vs := vs) (g := g) (fun _ => true) h hs hl fun x v H1 hx k r Q q => ht x v H1 hx k r Q fun σ2 hw hE => q σ2 hw et_yes fun _ => hE
  rw [List.filter_eq_self.mpr (fun _ _ => rfl)] at this
  exact this

/-! ### statements -/
theorem s_asgR {e : Enc α} {x : α} {i : Nat} (h : EvR e te σ H x) (k : ∀ v H1, Ex H H1 → e.R H1 v x → D.nx (σ.set i (some v)) H1) : tAsg te (gName i) D σ H := h H (Ex.refl H) _ fun v H1 e r => k v H1 e r
theorem q_asgR {e : Enc α} {x : α} {i : Nat} (h : EvR e te σ H x) (k : ∀ v H1, Ex H H1 → e.R H1 v x → tz D (σ.set i (some v)) H1) : tSeq (tAsg te (gName i)) tz D σ H := s_asgR (D := { D with nx := tz D }) h k
theorem s_asgN {e : Enc α} {l : List α} {i : Nat} (h : EvN e te σ H l) (k : ∀ p H1, H p = none → Ex H H1 → LsAt e H1 p l → D.nx (σ.set i (some (.ref p))) H1) : tAsg te (gName i) D σ H := h H (Ex.refl H) _ fun p xs H1 hp e h1 h2 => k p H1 hp e ⟨xs, h1, h2⟩
theorem q_asgN {e : Enc α} {l : List α} {i : Nat} (h : EvN e te σ H l) (k : ∀ p H1, H p = none → Ex H H1 → LsAt e H1 p l → tz D (σ.set i (some (.ref p))) H1) : tSeq (tAsg te (gName i)) tz D σ H := s_asgN (D := { D with nx := tz D }) h k
theorem s_asgG {e : Enc α} {x : α} (h : EvR e te σ H x) (k : ∀ v H1, Ex H H1 → e.R H1 v x → g v σ H1 D.nx) : tAsg te g D σ H := h H (Ex.refl H) _ fun v H1 e r => k v H1 e r
theorem q_asgG {e : Enc α} {x : α} (h : EvR e te σ H x) (k : ∀ v H1, Ex H H1 → e.R H1 v x → g v σ H1 (tz D)) : tSeq (tAsg te g) tz D σ H := s_asgG (D := { D with nx := tz D }) h k
theorem s_retR {e : Enc α} {x : α} (h : EvR e te σ H x) (k : ∀ v H1, Ex H H1 → e.R H1 v x → D.rt v H1) : tRet te D σ H := h H (Ex.refl H) _ fun v H1 e r => k v H1 e r
theorem q_retR {e : Enc α} {x : α} (h : EvR e te σ H x) (k : ∀ v H1, Ex H H1 → e.R H1 v x → D.rt v H1) : tSeq (tRet te) tz D σ H := h H (Ex.refl H) _ fun v H1 e r => k v H1 e r
/-- xs.append(e) -/
theorem s_appR {e : Enc α} [ie : Imm e] {x : α} {p : Addr} {l : List α} (ha : Ev ta σ H (.ref p)) (hl : LsAt e H p l) (h : EvR e te σ H x) (hz : l.length < 100000) (k : ∀ H1, Ex (hid H [p]) H1 → LsAt e H1 p (l ++ [x]) → D.nx σ H1) :
    tDrop (tBM K "list" rAppend ta (tCons te tNil)) D σ H := ha H (Ex.refl H) _ fun H1 k1 => by
  obtain ⟨xs, h1, h2⟩ := hl
  refine ⟨Or.inl ⟨rfl, xs, sq_of (k1 p _ h1)⟩, h H1 k1 _ fun v H2 k2 r => ⟨p, xs, v, rfl, rfl, k2 _ _ (k1 _ _ h1), sz_lt (by rw [paired_len h2]; exact hz), k _ ?_ ?_⟩⟩
  · exact Ex.mut (ex_unhid (k1.trans k2)) (hid_at (List.mem_singleton.mpr rfl))
  · exact LsAt.app (k2 _ _ (k1 _ _ h1)) (paired_mono h2 fun _ _ r => e.mono (k1.trans k2) r) r
theorem q_appR {e : Enc α} [ie : Imm e] {x : α} {p : Addr} {l : List α} (ha : Ev ta σ H (.ref p)) (hl : LsAt e H p l) (h : EvR e te σ H x) (hz : l.length < 100000) (k : ∀ H1, Ex (hid H [p]) H1 → LsAt e H1 p (l ++ [x]) → tz D σ H1) :
    tSeq (tDrop (tBM K "list" rAppend ta (tCons te tNil))) tz D σ H := s_appR (D := { D with nx := tz D }) ha hl h hz k
/-- xs[i] = e -/
theorem s_setR {e : Enc α} [ie : Imm e] {x : α} {p : Addr} {l : List α} {j : Nat} (h : EvR e te σ H x) (ha : Ev ta σ H (.ref p)) (hi : EvR eNat tb σ H j) (hl : LsAt e H p l) (hj : j < l.length) (k : ∀ H1, Ex (hid H [p]) H1 → LsAt e H1 p (l.set j x) → D.nx σ H1) :
    tAsg te (gSub ta tb rSetL) D σ H := h H (Ex.refl H) _ fun v H1 k1 r => ha H1 k1 _ fun H2 k2 => hi H2 (k1.trans k2) _ fun w H3 k3 rw' => by
  cases rw'
  obtain ⟨xs, h1, h2⟩ := hl.mono ((k1.trans k2).trans k3)
  refine ⟨p, xs, (j : Int), j, rfl, rfl, h1, ixN_nat (by rw [paired_len h2]; exact hj), k _ ?_ ?_⟩
  · exact Ex.mut (ex_unhid ((k1.trans k2).trans k3)) (hid_at (List.mem_singleton.mpr rfl))
  · exact LsAt.set j h1 h2 (e.mono (k2.trans k3) r)
theorem q_setR {e : Enc α} [ie : Imm e] {x : α} {p : Addr} {l : List α} {j : Nat} (h : EvR e te σ H x) (ha : Ev ta σ H (.ref p)) (hi : EvR eNat tb σ H j) (hl : LsAt e H p l) (hj : j < l.length) (k : ∀ H1, Ex (hid H [p]) H1 → LsAt e H1 p (l.set j x) → tz D σ H1) :
    tSeq (tAsg te (gSub ta tb rSetL)) tz D σ H := s_setR (D := { D with nx := tz D }) h ha hi hl hj k
end

/-! ### defs by their names -/
section
variable {P : Program} {w : World} {K : PySem.W.Frag} {mg : Str → Option Value} {base : Heap}
/-- a def of the text stands at a module's name -/
structure DefAt (K : PySem.W.Frag) (mg : Str → Option Value) (x : Str) (st : Stmt) (ps : List Str) : Prop where
  ex : ∃ f fd, Fun K x x st f fd ∧ mg x = some (.ref f) ∧ Binds K fd ps []
/-- .. and keeps a promise -/
structure Cal (P : Program) (w : World) (K : PySem.W.Frag) (mg : Str → Option Value) (base : Heap) (x : Str) (k : Nat) (ps : List Str) (sp : Sp) : Prop where
  ex : ∃ f fd, FnOk P w K mg base CX0 k f fd ps sp ∧ mg x = some (.ref f) ∧ PySem.W.keepIn K (.ref f) = true ∧ Binds K fd ps []
theorem DefAt.cal {x : Str} {st : Stmt} {N ps : List Str} {k : Nat} {sp : Sp} (F : DefAt K mg x st ps) (S : FnScope N ps (defScope st)) (len : ∀ vs H Q E, sp vs H Q E → vs.length = ps.length)
    (hbody : ∀ (f : Addr) (cdv : Value) (A : Around) (outer : List Env) (s : Shared) (H : Hp) (vs : List V) (Q : VK) (E : XK), Room k (A.deeper (envOfC x (defScope st) s.heap.objs.size f cdv)) → sp vs H Q E →
      ∃ t, PSs (cxOf CX0 P w K mg base N x (defScope st) f cdv A outer s H E).nox (defBody st) t ∧ t { nx := fun _ H' => Q .non H', rt := Q } (start N vs) H) : Cal P w K mg base x (k + 1) ps sp := by
  obtain ⟨f, fd, F, hm, hb⟩ := F.ex
  exact ⟨f, fd, F.ok S len (hbody f), hm, F.kp, hb⟩
theorem pe_cal {X : Cx} {x : Str} {k j : Nat} {ps : List Str} {sp : Sp} {e : Expr} {es : List Expr} {t : TA} {p pos : Pos} (c : Cal X.prog X.w X.K X.mg X.base x k ps sp) (hr : Room j X.A) (hk : k ≤ j) (hg : Gl X x) (ha : PA X (e :: es) t)
    (hdb : (x == ("__debug__" : Str)) = false := by decide) (he : starEach (e :: es) X.env = (false, eval e X.env) :: starEach es X.env := by rfl) (hpl : (backTo pos (starEach es X.env)).any (·.1) = false := by rfl) :
    PE X (.Call (.Name x p) (e :: es) [] pos) (tCall sp [] E0 t) := by
  obtain ⟨f, fd, F, hm, hkp, hb⟩ := c.ex
  exact pe_call F (hr.mono hk) hg hm hkp hb .nil pass0 ha hdb he hpl
/-- the built-in names that the module leaves alone -/
structure Bl (mg : Str → Option Value) : Prop where
  len : mg "len" = none
  all : mg "all" = none
  any : mg "any" = none
  sum : mg "sum" = none
  min : mg "min" = none
  max : mg "max" = none
  range : mg "range" = none
  zip : mg "zip" = none
  enumerate : mg "enumerate" = none
  tuple : mg "tuple" = none
  list : mg "list" = none
  int : mg "int" = none
  str : mg "str" = none
  bool : mg "bool" = none
  abs : mg "abs" = none
  sorted : mg "sorted" = none
  isinstance : mg "isinstance" = none
end
end K61

/-! K61C: the layer's rules with the written part named (within a comprehension's block the context varies, the written part does not). -/
namespace K61
open PySem PySem.Spec PyProof.Rows L2 Evl
section
variable {X : Cx} (K : PySem.W.Frag)
theorem ix_tupK (h : X.K = K := by rfl) : IxR X (rIxT K) := h ▸ ix_tup
theorem ix_listK (h : X.K = K := by rfl) : IxR X (rIxL K) := h ▸ ix_list
theorem sl_tupK (h : X.K = K := by rfl) : SlR X (rSlT K) := h ▸ sl_tup
theorem sl_listK (h : X.K = K := by rfl) : SlR X (rSlL K) := h ▸ sl_list
theorem op_in_seqK (h : X.K = K := by rfl) : OpR X (compareOp .In) (rIn K false) := h ▸ op_in_seq
theorem op_notIn_seqK (h : X.K = K := by rfl) : OpR X (compareOp .NotIn) (rIn K true) := h ▸ op_notIn_seq
theorem op_catTK (h : X.K = K := by rfl) : OpR X (binaryOp .Add) (rCatT K) := h ▸ op_catT
theorem call_len_seqK (h : X.K = K := by rfl) : CallR X (.builtin "len") (fun xs H Q => ∃ p ys, xs = [.ref p] ∧ (SqL K H p ys ∨ SqT K H p ys) ∧ Q (.int ys.length) H) := h ▸ call_len_seq
theorem call_list_ofK (h : X.K = K := by rfl) : CallR X (.type "list") (fun xs H Q => ∃ p ys, xs = [.ref p] ∧ (SqL K H p ys ∨ SqT K H p ys) ∧ ∀ l, H l = none → Q (.ref l) (upd H l (.lst ys))) := h ▸ call_list_of
theorem call_tuple_ofK (h : X.K = K := by rfl) : CallR X (.type "tuple") (fun xs H Q => ∃ p ys, xs = [.ref p] ∧ ((SqL K H p ys ∧ ∀ l, H l = none → Q (.ref l) (upd H l (.tup ys))) ∨ (SqT K H p ys ∧ Q (.ref p) H))) := h ▸ call_tuple_of
theorem cr_sumK (hc : X.calm = true) (h : X.K = K := by rfl) : CallR X (.builtin "sum") (rSum K) := h ▸ cr_sum hc
theorem cr_allK (hc : X.calm = true) (h : X.K = K := by rfl) : CallR X (.builtin "all") (rAll K) := h ▸ cr_all hc
theorem cr_anyK (hc : X.calm = true) (h : X.K = K := by rfl) : CallR X (.builtin "any") (rAny K) := h ▸ cr_any hc
theorem cr_minK (hc : X.calm = true) (h : X.K = K := by rfl) : CallR X (.builtin "min") (rMin K) := h ▸ cr_min hc
theorem cr_maxK (hc : X.calm = true) (h : X.K = K := by rfl) : CallR X (.builtin "max") (rMax K) := h ▸ cr_max hc
theorem call_isiK' (h : X.K = K := by rfl) : CallR X (.builtin "isinstance") (rIsi K) := h ▸ call_isi
theorem op_eqDK (hu : X.A.units + 64 < cLine) (h : X.K = K := by rfl) : OpR X (compareOp .Eq) (rEqD K) := h ▸ op_eqD hu
theorem op_neDK (hu : X.A.units + 64 < cLine) (h : X.K = K := by rfl) : OpR X (compareOp .NotEq) (rNeD K) := h ▸ op_neD hu
theorem op_notInDK (hu : X.A.units + 65 < cLine) (h : X.K = K := by rfl) : OpR X (compareOp .NotIn) (rNotInD K) := h ▸ op_notInD hu
theorem pe_fldK {e : Expr} {f : Str} {pos : Pos} {ta : TE} (he : PE X e ta) (hb : attributeBase e f X.env (eval e X.env) = eval e X.env) (h : X.K = K := by rfl) : PE X (.Attribute e f pos) (tFld K ta f) := h ▸ pe_fld he hb
theorem pi_listK {tg l : Expr} {tl : TE} (hl : PE X l tl) (h : X.K = K := by rfl) : PI X tg l (iList K tl) := h ▸ pi_list hl
theorem pi_tupK {tg l : Expr} {tl : TE} (hl : PE X l tl) (h : X.K = K := by rfl) : PI X tg l (iTup K tl) := h ▸ pi_tup hl
theorem pg_tupK {es : List Expr} {k : Nat} {t : TGs} {n : Nat} {pos : Pos} (hc : X.calm = true) (h : PGs X es t) (hn : (assignEach es X.env).length = n := by rfl) (hst : (assignEach es X.env).findIdx? (·.1) = none := by rfl) (hK : X.K = K := by rfl) :
    PG X (.Tuple es k pos) (gTup K n t) := hK ▸ pg_tup hc h hn hst
theorem er_neg {σ : L2.St} {H : Hp} {ta : TE} {i : Int} (ha : EvR eInt ta σ H i) : EvR eInt (tUn (rU fun i => .int (-i)) ta) σ H (-i) := fun H1 e Q q => ha H1 e _ fun v H2 k2 r => ⟨i, r, q _ H2 k2 rfl⟩
theorem LsAt.r {α : Type} {e : Enc α} {H : Hp} {p : Addr} {l : List α} (h : LsAt e H p l) : (eLs e).R H (.ref p) l := let ⟨xs, h1, h2⟩ := h; ⟨p, xs, rfl, h1, h2⟩
theorem LsAt.some {α : Type} {e : Enc α} {H : Hp} {p : Addr} {l : List α} (h : LsAt e H p l) : ∃ o, H p = some o ∧ ∀ xs, o ≠ .tup xs := let ⟨xs, h1, _⟩ := h; ⟨_, h1, fun _ q => nomatch q⟩
theorem hidden {H : Hp} {p : Addr} {A : Addr → Prop} (h : ∃ o, H p = some o ∧ ∀ xs, o ≠ .tup xs) (hA : ¬ A p) : ∀ a ∈ [p], (∃ o, H a = some o ∧ ∀ xs, o ≠ .tup xs) ∧ ¬ A a := fun a ha => by
  have := List.mem_singleton.mp ha
  subst this
  exact ⟨h, hA⟩
theorem noA {p : Addr} : ¬ NoA p := fun h => h
theorem ex_new1 {B H : Hp} {p : Addr} (e : Ex B H) (h : B p = none) : Ex B (hid H [p]) := ex_base e fun a ha => by
  have := List.mem_singleton.mp ha
  subst this
  exact h
/-- pure defs that hand back a new list -/
def PuN1 {α ε : Type} (ea : Enc α) (er : Enc ε) (pre : α → Prop) (f : α → List ε) : Sp := fun vs H Q _ => ∃ a x, vs = [a] ∧ ea.R H a x ∧ pre x ∧ ∀ p H', H p = none → Ex H H' → LsAt er H' p (f x) → Q (.ref p) H'
def PuN4 {α β γ δ ε : Type} (ea : Enc α) (eb : Enc β) (ec : Enc γ) (ed : Enc δ) (er : Enc ε) (pre : α → β → γ → δ → Prop) (f : α → β → γ → δ → List ε) : Sp := fun vs H Q _ => ∃ a b c d x y z w, vs = [a, b, c, d] ∧ ea.R H a x ∧ eb.R H b y ∧ ec.R H c z ∧ ed.R H d w ∧ pre x y z w ∧ ∀ p H', H p = none → Ex H H' → LsAt er H' p (f x y z w) → Q (.ref p) H'
theorem en_call1 {α ε : Type} {σ : L2.St} {H : Hp} {ta : TE} {ea : Enc α} {er : Enc ε} {pre : α → Prop} {f : α → List ε} {x : α} {E : XK} (ha : EvR ea ta σ H x) (hp : pre x) : EvN er (tCall (PuN1 ea er pre f) [] E (tCons ta tNil)) σ H (f x) := fun H1 e Q q =>
  ha H1 e _ fun v H2 k2 r2 => ⟨v, x, rfl, r2, hp, fun p H' hp k' ⟨xs, h1, h2⟩ => q p xs H' (fresh_back k2 hp) (k2.trans k') h1 h2⟩
theorem en_call4 {α β γ δ ε : Type} {σ : L2.St} {H : Hp} {ta tb tc td : TE} {ea : Enc α} {eb : Enc β} {ec : Enc γ} {ed : Enc δ} {er : Enc ε} {pre : α → β → γ → δ → Prop} {f : α → β → γ → δ → List ε} {x : α} {y : β} {z : γ} {w : δ} {E : XK} (ha : EvR ea ta σ H x) (hb : EvR eb tb σ H y) (hc : EvR ec tc σ H z) (hd : EvR ed td σ H w) (hp : pre x y z w) :
    EvN er (tCall (PuN4 ea eb ec ed er pre f) [] E (tCons ta (tCons tb (tCons tc (tCons td tNil))))) σ H (f x y z w) := fun H1 e Q q =>
  ha H1 e _ fun v H2 k2 r2 => hb H2 (e.trans k2) _ fun w1 H3 k3 r3 => hc H3 ((e.trans k2).trans k3) _ fun w' H4 k4 r4 => hd H4 (((e.trans k2).trans k3).trans k4) _ fun w2 H5 k5 r5 =>
    ⟨v, w1, w', w2, x, y, z, w, rfl, ea.mono ((k3.trans k4).trans k5) r2, eb.mono (k4.trans k5) r3, ec.mono k5 r4, r5, hp, fun p H' hp k' ⟨xs, h1, h2⟩ => q p xs H' (fresh_back (((k2.trans k3).trans k4).trans k5) hp) ((((k2.trans k3).trans k4).trans k5).trans k') h1 h2⟩
theorem s_retN {α : Type} {σ : L2.St} {H : Hp} {te : TE} {D : Ends} {e : Enc α} {l : List α} (h : EvN e te σ H l) (k : ∀ p H1, H p = none → Ex H H1 → LsAt e H1 p l → D.rt (.ref p) H1) : tRet te D σ H := h H (Ex.refl H) _ fun p xs H1 hp e h1 h2 => k p H1 hp e ⟨xs, h1, h2⟩
/-- if c: xs.append(e) -/
theorem q_ifApp {α : Type} {K : PySem.W.Frag} {σ : L2.St} {H : Hp} {ta te : TE} {t : TT} {D : Ends} {tz : L2.TS} {e : Enc α} [ie : Imm e] {b : Bool} {x : α} {p : Addr} {l : List α} (ht : EvT t σ H b) (ha : Ev ta σ H (.ref p)) (hl : LsAt e H p l) (h : b = true → EvR e te σ H x) (hz : l.length < 100000)
    (k : ∀ H1, Ex (hid H [p]) H1 → LsAt e H1 p (l ++ if b = true then [x] else []) → tz D σ H1) : tSeq (tIfS t (tDrop (tBM K "list" rAppend ta (tCons te tNil))) tNext) tz D σ H :=
  q_when ht (fun hb H1 k1 => s_appR (D := { D with nx := tz D }) (ha.mono k1) (hl.mono k1) ((h hb).mono k1) hz fun H2 k2 r2 => k H2 ((ex_hid [p] k1).trans k2) (by rw [if_pos hb]; exact r2))
    (fun hb H1 k1 => k H1 (ex_unhid k1) (by rw [hb, if_neg (by decide), List.append_nil]; exact hl.mono k1))
section
variable {α β : Type} {K : PySem.W.Frag} {σ : L2.St} {H : Hp} {ta tb tc : TE}
/-- isinstance against a built-in class -/
theorem er_isi {e : Enc α} {x : α} {a b : String} {r : Bool} (ha : EvR e ta σ H x) (ht : ∀ H v, e.R H v x → TyX K H v (.type a)) (hk : kitB a b = some r) : EvR eBl (tCB (rIsi K) (tCons ta (tCons (tC (.ty b)) tNil))) σ H r := fun H1 k Q q =>
  ha H1 k _ fun v H2 k2 rv => ⟨v, .ty b, .type a, .type b, r, rfl, ClsV.ty b, ht H2 v rv, kit_ty hk, q _ H2 k2 rfl⟩
theorem ty_int {H : Hp} {v : V} {x : Int} (h : eInt.R H v x) : TyX K H v (.type "int") := by cases h; exact .base (.int x)
theorem ty_bl {H : Hp} {v : V} {x : Bool} (h : eBl.R H v x) : TyX K H v (.type "bool") := by cases h; exact .base (.bl x)
theorem ty_str {H : Hp} {v : V} {x : Tx} (h : eStr.R H v x) : TyX K H v (.type "str") := by cases h; exact .base (.str (ss x))
theorem ty_tl {H : Hp} {v : V} {e : Enc α} {x : List α} (h : (eTL e).R H v x) : TyX K H v (.type "tuple") := by obtain ⟨a, xs, rfl, h2, _⟩ := h; exact .base (.tup h2)
theorem ty_2 {H : Hp} {v : V} {ea : Enc α} {eb : Enc β} {x : α × β} (h : (e2 ea eb).R H v x) : TyX K H v (.type "tuple") := by obtain ⟨a, _, _, rfl, h2, _⟩ := h; exact .base (.tup h2)
theorem er_len2 {ea : Enc α} {eb : Enc β} {x : α × β} (ha : EvR (e2 ea eb) ta σ H x) : EvR eInt (tCB (fun xs H Q => ∃ p ys, xs = [.ref p] ∧ (SqL K H p ys ∨ SqT K H p ys) ∧ Q (.int ys.length) H) (tCons ta tNil)) σ H 2 := fun H1 k Q q =>
  ha H1 k _ fun v H2 k2 rv => by
    obtain ⟨a, _, _, rfl, h2, _⟩ := rv
    exact ⟨a, _, rfl, .inr (SqT.of h2), q _ H2 k2 rfl⟩
theorem er_len3 {γ : Type} {ea : Enc α} {eb : Enc β} {ec : Enc γ} {x : α × β × γ} (ha : EvR (e3 ea eb ec) ta σ H x) : EvR eInt (tCB (fun xs H Q => ∃ p ys, xs = [.ref p] ∧ (SqL K H p ys ∨ SqT K H p ys) ∧ Q (.int ys.length) H) (tCons ta tNil)) σ H 3 := fun H1 k Q q =>
  ha H1 k _ fun v H2 k2 rv => by
    obtain ⟨a, _, _, _, rfl, h2, _⟩ := rv
    exact ⟨a, _, rfl, .inr (SqT.of h2), q _ H2 k2 rfl⟩
/-- lo <= x <= hi -/
theorem er_between {x y z : Int} (ha : EvR eInt ta σ H x) (hb : EvR eInt tb σ H y) (hc : EvR eInt tc σ H z) : EvR eBl (tChain (rI0 fun i j => .bl (decide (i ≤ j))) (rI0 fun i j => .bl (decide (i ≤ j))) ta tb tc) σ H (decide (x ≤ y) && decide (y ≤ z)) :=
  er_chain ha hb hc (fun _ _ q => ⟨x, y, rfl, rfl, q⟩) fun _ _ q => ⟨y, z, rfl, rfl, q⟩
end
theorem huD {k : Nat} (hr : Room k X.A) : X.A.units + 65 < cLine := Nat.lt_of_le_of_lt (by have := hr.un; omega) hr.un
end
end K61

/-! K61P1: the program's defs about word lists. -/
namespace K61
open PySem PySem.Spec PyProof.Rows L2 Evl
def top (i : Nat) : Stmt := PySem.Challenge.pw_greedycuts_k61_whole_bounds_for_all_text.main.body.getD i (.Pass ⟨0, 0, 0, 0⟩)
abbrev eWs : Enc Ws := eTL (e2 eStr eInt)
/-- the module's constants -/
structure Cst (mg : Str → Option Value) : Prop where
  ALPHABET : ∃ u, mg "ALPHABET" = some u ∧ RelV (.str "abcdefghijklmnopqrstuvwxyz") u
  LONGEST : ∃ u, mg "LONGEST" = some u ∧ RelV (.int 4) u
  MOST_WORDS : ∃ u, mg "MOST_WORDS" = some u ∧ RelV (.int 8) u
  MOST_COST : ∃ u, mg "MOST_COST" = some u ∧ RelV (.int 9) u
  MOST_FACTOR : ∃ u, mg "MOST_FACTOR" = some u ∧ RelV (.int 1000) u
  MOST_REST : ∃ u, mg "MOST_REST" = some u ∧ RelV (.int 100000) u
theorem pe_con1 {X : Cx} {x : Str} {v : V} {pos : Pos} (h : ∃ u, X.mg x = some u ∧ RelV v u) (hg : Gl X x) (hd : (x == ("__debug__" : Str)) = false := by decide) : PE X (.Name x pos) (tC v) := by
  obtain ⟨u, h1, h2⟩ := h
  exact pe_glob hg h1 h2 hd
theorem small {n : Nat} (h : n ≤ 1000) : n ≤ 40000 := Nat.le_trans h (by decide)
section
variable {P : Program} {w : World} {K : PySem.W.Frag} {mg : Str → Option Value} {base : Heap}
/-! ### names_in -/
-- slots: 0=words 1=entry
abbrev st_names_in : Stmt := top 13
abbrev N_names_in : List Str := ["words", "entry"]
theorem sc_names_in : FnScope N_names_in ["words"] (defScope st_names_in) := ⟨rfl, rfl, rfl, by decide +kernel, rfl, by decide +kernel, by decide +kernel⟩
abbrev sp_names : Sp := Pu1 eWs (eLs eStr) Good names
theorem ok_names (B : Bl mg) (D : Cst mg) (F : DefAt K mg "names_in" st_names_in ["words"]) : Cal P w K mg base "names_in" 1 ["words"] sp_names := by
  refine F.cal sc_names_in (fun vs H Q E h => ?_) (fun f cdv A outer s H vs Q E hr h => ?_)
  · obtain ⟨_, _, rfl, _⟩ := h; rfl
  · obtain ⟨va, ws, rfl, ra, g, q⟩ := h
    refine ⟨_, (pss_one (ps_ret (pe_lc (own := [("entry", 1)]) rfl sc_names_in.nd (pi_tupK K (pv 0)) (blkOk_by (own := [("entry", 1)]) (N := N_names_in) (sc := defScope st_names_in) (by decide +kernel)) (fun _ _ _ _ _ => (pg_name (i := 1) sc_names_in.nd rfl (.inl rfl))) (fun _ _ _ _ _ => pts_nil) (fun _ _ _ _ _ => (pe_ix (ix_tupK K) (pv 1) pe_int (fun _ _ => rfl)))))), ?_⟩
    exact s_retR (EvN.r (en_lcA (fun e => e.1) (src_tup (er_var rfl ra)) (small (Nat.le_trans g.few (by decide))) fun x v H1 hx k r Q q => g_1 (q _ rfl (er_20 (er_var rfl r))))) q
/-! ### letters_in -/
theorem name_short {ws : Ws} (g : Good ws) {e : Tx × Int} (h : e ∈ ws) : e.1.length ≤ 100000 := Nat.le_trans (g.len e h).2 (by decide)
theorem sum_len {ws : Ws} (g : Good ws) (f : Tx × Int → Bool) : (((ws.filter f).map (·.1)).map (·.length)).sum ≤ 100000 := by
  have key : ∀ l : Ws, (∀ e ∈ l, e.1.length ≤ 4) → (((l.filter f).map (·.1)).map (·.length)).sum ≤ 4 * l.length := by
    intro l
    induction l with
    | nil => intro _; exact Nat.le_refl _
    | cons e r ih =>
      intro h
      have := ih fun x hx => h x (List.mem_cons_of_mem _ hx)
      have h1 := h e List.mem_cons_self
      rw [List.filter_cons, List.length_cons]
      split
      · rw [List.map_cons, List.map_cons, List.sum_cons]
        omega
      · omega
  have h1 := key ws fun e he => (g.len e he).2
  have := g.few
  omega
theorem len1 (t : Tx) : decide ((t.length : Int) = 1) = (t.length == 1) := Bool.eq_iff_iff.mpr (by simp; omega)
-- slots: 0=words 1=entry
abbrev st_letters_in : Stmt := top 12
abbrev N_letters_in : List Str := ["words", "entry"]
theorem sc_letters_in : FnScope N_letters_in ["words"] (defScope st_letters_in) := ⟨rfl, rfl, rfl, by decide +kernel, rfl, by decide +kernel, by decide +kernel⟩
abbrev sp_letters : Sp := Pu1 eWs eStr Good lets
theorem ok_letters (B : Bl mg) (D : Cst mg) (F : DefAt K mg "letters_in" st_letters_in ["words"]) : Cal P w K mg base "letters_in" 1 ["words"] sp_letters := by
  refine F.cal sc_letters_in (fun vs H Q E h => ?_) (fun f cdv A outer s H vs Q E hr h => ?_)
  · obtain ⟨_, _, rfl, _⟩ := h; rfl
  · obtain ⟨va, ws, rfl, ra, g, q⟩ := h
    refine ⟨_, (pss_one (ps_ret (pe_join pe_str (pe_lc (own := [("entry", 1)]) rfl sc_letters_in.nd (pi_tupK K (pv 0)) (blkOk_by (own := [("entry", 1)]) (N := N_letters_in) (sc := defScope st_letters_in) (by decide +kernel)) (fun _ _ _ _ _ => (pg_name (i := 1) sc_letters_in.nd rfl (.inl rfl))) (fun _ _ _ _ _ => (pts_one (pt_cmpR op_eq (pe_callB call_len_str (by rfl) B.len (by decide +kernel) (pa_cons (pe_ix (ix_tupK K) (pv 1) pe_int (fun _ _ => rfl)) pa_nil)) pe_int (nomark _)))) (fun _ _ _ _ _ => (pe_ix (ix_tupK K) (pv 1) pe_int (fun _ _ => rfl))))))), ?_⟩
    refine s_retR ((er_join (ys := (ws.filter (fun e => e.1.length == 1)).map (·.1)) (by decide +kernel) (EvN.r (en_lc (fun e => e.1.length == 1) (fun e => e.1) (src_tup (er_var rfl ra)) (small (Nat.le_trans g.few (by decide))) fun x v H1 hx k r Q q =>
      g_1 (q _ rfl (et_is (et_r (er_eqI (er_lenS (er_20 (er_var rfl r)) (name_short g hx)) er_int)) (len1 _)) fun _ => er_20 (er_var rfl r)))) (sum_len g _)).is ?_) q
    exact List.flatMap_def.symm
/-! ### cost_in, has_word -/
theorem eqT (s t : Tx) : decide (s = t) = (s == t) := Bool.eq_iff_iff.mpr (by simp)
-- slots: 0=words 1=word* 2=entry
abbrev st_cost_in : Stmt := top 14
abbrev N_cost_in : List Str := ["words", "word", "entry"]
theorem sc_cost_in : FnScope N_cost_in ["words", "word"] (defScope st_cost_in) := ⟨rfl, rfl, rfl, by decide +kernel, rfl, by decide +kernel, by decide +kernel⟩
abbrev sp_cost : Sp := Pu2 eWs eStr eInt (fun ws t => Good ws ∧ t ∈ names ws) cost
theorem cost_at {ws : Ws} {t : Tx} (h : t ∈ names ws) : atI ((ws.filter (fun e => e.1 == t)).map (·.2)) 0 = some (cost ws t) := by
  unfold cost
  obtain ⟨e, he, rfl⟩ := mem_names.mp h
  have hm : e ∈ ws.filter (fun x => x.1 == e.1) := List.mem_filter.mpr ⟨he, by simp⟩
  cases hl : ws.filter (fun x => x.1 == e.1) with
  | nil => rw [hl] at hm; cases hm
  | cons x r => exact atI_nat (j := 0) rfl
theorem ok_cost (B : Bl mg) (D : Cst mg) (F : DefAt K mg "cost_in" st_cost_in ["words", "word"]) : Cal P w K mg base "cost_in" 1 ["words", "word"] sp_cost := by
  refine F.cal sc_cost_in (fun vs H Q E h => ?_) (fun f cdv A outer s H vs Q E hr h => ?_)
  · obtain ⟨_, _, _, _, rfl, _⟩ := h; rfl
  · obtain ⟨va, vb, ws, t, rfl, ra, rb, ⟨g, hm⟩, q⟩ := h
    refine ⟨_, (pss_one (ps_ret (pe_ix (ix_listK K) (pe_lc (own := [("entry", 2)]) rfl sc_cost_in.nd (pi_tupK K (pv 0)) (blkOk_by (own := [("entry", 2)]) (N := N_cost_in) (sc := defScope st_cost_in) (by decide +kernel)) (fun _ _ _ _ _ => (pg_name (i := 2) sc_cost_in.nd rfl (.inl rfl))) (fun _ _ _ _ _ => (pts_one (pt_cmpR op_eq (pe_ix (ix_tupK K) (pv 2) pe_int (fun _ _ => rfl)) (pv 1) (nomark _)))) (fun _ _ _ _ _ => (pe_ix (ix_tupK K) (pv 2) pe_int (fun _ _ => rfl)))) pe_int (fun _ _ => rfl)))), ?_⟩
    exact s_retR (er_ixLs (EvN.r (en_lc (fun e => e.1 == t) (fun e => e.2) (src_tup (er_var rfl ra)) (small (Nat.le_trans g.few (by decide))) fun x v H1 hx k r Q q =>
      g_1 (q _ rfl (et_is (et_r (er_eqS (er_20 (er_var rfl r)) (er_var rfl (eStr.mono k rb)))) (eqT _ _)) fun _ => er_21 (er_var rfl r)))) er_int (cost_at hm)) q
-- slots: 0=words 1=word
abbrev st_has_word : Stmt := top 15
abbrev N_has_word : List Str := ["words", "word"]
theorem sc_has_word : FnScope N_has_word ["words", "word"] (defScope st_has_word) := ⟨rfl, rfl, rfl, by decide +kernel, rfl, by decide +kernel, by decide +kernel⟩
abbrev sp_has : Sp := Pu2 eWs eStr eBl (fun ws _ => Good ws) (fun ws t => (names ws).contains t)
theorem ok_has (B : Bl mg) (D : Cst mg) (F : DefAt K mg "has_word" st_has_word ["words", "word"]) (c_names_in : Cal P w K mg base "names_in" 1 ["words"] sp_names) : Cal P w K mg base "has_word" 2 ["words", "word"] sp_has := by
  refine F.cal sc_has_word (fun vs H Q E h => ?_) (fun f cdv A outer s H vs Q E hr h => ?_)
  · obtain ⟨_, _, _, _, rfl, _⟩ := h; rfl
  · obtain ⟨va, vb, ws, t, rfl, ra, rb, g, q⟩ := h
    refine ⟨_, (pss_one (ps_ret (pe_cmpR (op_in_seqK K) (pv 1) (pe_cal c_names_in hr (by decide) (by rfl) (pa_cons (pv 0) pa_nil)) (by rfl)))), ?_⟩
    exact s_retR (er_inL (er_var rfl rb) (er_call1 (er_var rfl ra) g)) q
/-! ### words_from, longest_from -/
theorem cutT_nat (x : Tx) (i j : Nat) : cutT x (some (i : Int)) (some (j : Int)) = (x.drop i).take (j - i) := by
  unfold cutT
  rw [HT.sIx_nat, HT.sIx_nat]
  by_cases hi : i ≤ x.length
  · rw [show min i x.length = i by omega]
    by_cases hj : j ≤ x.length
    · rw [show min j x.length = j by omega]
    · rw [show min j x.length = x.length by omega, List.take_of_length_le (i := x.length - i) (by rw [List.length_drop]; omega), List.take_of_length_le (i := j - i) (by rw [List.length_drop]; omega)]
  · rw [show min i x.length = x.length by omega, List.drop_of_length_le (i := x.length) (by omega), List.drop_of_length_le (i := i) (by omega), List.take_nil, List.take_nil]
-- slots: 0=words 1=text* 2=index* 3=names* 4=parts 5=size 6=part
abbrev st_words_from : Stmt := top 17
abbrev N_words_from : List Str := ["words", "text", "index", "names", "parts", "size", "part"]
theorem sc_words_from : FnScope N_words_from ["words", "text", "index"] (defScope st_words_from) := ⟨rfl, rfl, rfl, by decide +kernel, rfl, by decide +kernel, by decide +kernel⟩
abbrev sp_wfrom : Sp := Pu3 eWs eStr eNat (eTL eStr) (fun ws t i => Good ws ∧ t.length ≤ 1000 ∧ i ≤ t.length) (fun ws t i => parts ws (t.drop i))
theorem ok_wfrom (B : Bl mg) (D : Cst mg) (F : DefAt K mg "words_from" st_words_from ["words", "text", "index"]) (c_names_in : Cal P w K mg base "names_in" 1 ["words"] sp_names) : Cal P w K mg base "words_from" 2 ["words", "text", "index"] sp_wfrom := by
  refine F.cal sc_words_from (fun vs H Q E h => ?_) (fun f cdv A outer s H vs Q E hr h => ?_)
  · obtain ⟨_, _, _, _, _, _, rfl, _⟩ := h; rfl
  · obtain ⟨va, vb, vc, ws, t, i, rfl, ra, rb, rc, ⟨g, ht, hi⟩, q⟩ := h
    refine ⟨_, (pss_cons (ps_set (i := 3) sc_words_from.nd rfl (.inr rfl) (pe_cal c_names_in hr (by decide) (by rfl) (pa_cons (pv 0) pa_nil)))
    (pss_cons (ps_setLc (i := 4) (own := [("size", 5)]) rfl sc_words_from.nd rfl rfl (sw_true rfl rfl rfl (by decide +kernel)) (pi_range2 (by rfl) B.range (pa_cons pe_int (pa_cons (pe_op (op_add) (pe_callB (call_min2 rfl) (by rfl) B.min (by decide +kernel) (pa_cons (pe_con1 D.LONGEST (by rfl)) (pa_cons (pe_op (op_sub) (pe_callB call_len_str (by rfl) B.len (by decide +kernel) (pa_cons (pv 1) pa_nil)) (pv 2)) pa_nil))) pe_int) pa_nil))) (blkOk_by (own := [("size", 5)]) (N := N_words_from) (sc := defScope st_words_from) (by decide +kernel)) (fun _ _ _ _ _ => (pg_name (i := 5) sc_words_from.nd rfl (.inl rfl))) (fun _ _ _ _ _ => pts_nil) (fun _ _ _ _ _ => (pe_slice sl_str (pv 1) (po_some (pv 2)) (po_some (pe_op (op_add) (pv 2) (pv 5))))))
    (pss_one (ps_ret (pe_callTy (call_tuple_ofK K) (by rfl) B.tuple (by decide +kernel) (pa_cons (pe_lc (own := [("part", 6)]) rfl sc_words_from.nd (pi_listK K (pv 4)) (blkOk_by (own := [("part", 6)]) (N := N_words_from) (sc := defScope st_words_from) (by decide +kernel)) (fun _ _ _ _ _ => (pg_name (i := 6) sc_words_from.nd rfl (.inl rfl))) (fun _ _ _ _ _ => (pts_one (pt_cmpR (op_in_seqK K) (pv 6) (pv 3) (by rfl)))) (fun _ _ _ _ _ => (pv 6))) pa_nil)))))), ?_⟩
    refine q_asgR (er_call1 (er_var rfl ra) g) fun v1 H1 k1 r1 => ?_
    refine q_asgN (l := ((List.range (min 4 (t.length - i) + 1 - 1)).map (fun k => 1 + k)).map (fun n => (t.drop i).take n))
      (en_lcA (e' := eStr) (fun n => (t.drop i).take n) (src_range2 (m := 1) (n := min 4 (t.length - i) + 1) er_nat (er_intN (er_add (er_min2 er_int (er_sub (er_lenS (er_var rfl (eStr.mono k1 rb)) (by omega)) (er_natI (er_var rfl (eNat.mono k1 rc))))) er_int) ?_) (by decide) (by omega)) ?_ ?_) fun p H2 hp k2 r2 => ?_
    · omega
    · rw [List.length_map, List.length_range]; exact small (by omega)
    · intro n v H2 hn k2 r Q q
      refine g_1 (q _ rfl ((er_slS (er_var rfl (eStr.mono (k1.trans k2) rb)) (eo_r (er_natI (er_var rfl (eNat.mono (k1.trans k2) rc)))) (eo_r (er_add (er_natI (er_var rfl (eNat.mono (k1.trans k2) rc))) (er_natI (er_var rfl r)))) (by omega)).is ?_))
      rw [← Int.natCast_add, cutT_nat, Nat.add_sub_cancel_left]
    · refine s_retR ((er_tupleL (EvN.r (en_lc (e' := eStr) (fun p => (names ws).contains p) (fun p => p) (src_at (ev_var rfl) r2) ?_ fun x v H3 hx k3 r Q q =>
        g_1 (q _ rfl (et_r (er_inL (er_var rfl r) (er_var rfl ((eLs eStr).mono (k2.trans k3) r1)))) fun _ => er_var rfl r)))).is ?_) fun v H3 k3 r3 => q v H3 ((k1.trans k2).trans k3) r3
      · rw [List.length_map, List.length_map, List.length_range]; exact small (by omega)
      · rw [List.map_id', List.map_map]
        show _ = parts ws (t.drop i)
        unfold parts
        rw [List.length_drop, Nat.add_sub_cancel]
        congr 1
        refine List.map_congr_left fun k _ => ?_
        show List.take (1 + k) _ = List.take (k + 1) _
        rw [Nat.add_comm]
-- slots: 0=words 1=text 2=index
abbrev st_longest_from : Stmt := top 18
abbrev N_longest_from : List Str := ["words", "text", "index"]
theorem sc_longest_from : FnScope N_longest_from ["words", "text", "index"] (defScope st_longest_from) := ⟨rfl, rfl, rfl, by decide +kernel, rfl, by decide +kernel, by decide +kernel⟩
abbrev sp_lfrom : Sp := Pu3 eWs eStr eNat eStr (fun ws t i => Good ws ∧ t.length ≤ 1000 ∧ i < t.length ∧ Over ws t) (fun ws t i => lw ws (t.drop i))
theorem ok_lfrom (B : Bl mg) (D : Cst mg) (F : DefAt K mg "longest_from" st_longest_from ["words", "text", "index"]) (c_words_from : Cal P w K mg base "words_from" 2 ["words", "text", "index"] sp_wfrom) : Cal P w K mg base "longest_from" 3 ["words", "text", "index"] sp_lfrom := by
  refine F.cal sc_longest_from (fun vs H Q E h => ?_) (fun f cdv A outer s H vs Q E hr h => ?_)
  · obtain ⟨_, _, _, _, _, _, rfl, _⟩ := h; rfl
  · obtain ⟨va, vb, vc, ws, t, i, rfl, ra, rb, rc, ⟨g, ht, hi, ho⟩, q⟩ := h
    refine ⟨_, (pss_one (ps_ret (pe_ix (ix_tupK K) (pe_cal c_words_from hr (by decide) (by rfl) (pa_cons (pv 0) (pa_cons (pv 1) (pa_cons (pv 2) pa_nil)))) (pe_un un_neg pe_int) (fun _ _ => rfl)))), ?_⟩
    refine s_retR (er_ixTL (x := lw ws (t.drop i)) (er_call3 (er_var rfl ra) (er_var rfl rb) (er_var rfl rc) ⟨g, ht, by omega⟩) (er_neg er_int) ?_) q
    have hne : parts ws (t.drop i) ≠ [] := parts_ne g (ho.drop i) (by intro e; have := congrArg List.length e; rw [List.length_drop, List.length_nil] at this; omega)
    unfold lw
    obtain ⟨l, x, e⟩ := (List.eq_nil_or_concat (parts ws (t.drop i))).resolve_left hne
    rw [e, List.concat_eq_append]
    rw [atI_last]
    simp
end
end K61

/-! K61P2: the program's longest match, reader, steps. -/
namespace K61
open PySem PySem.Spec PyProof.Rows L2 Evl
section
variable {P : Program} {w : World} {K : PySem.W.Frag} {mg : Str → Option Value} {base : Heap}
-- slots: 0=words 1=text 2=found 3=at 4=word
abbrev st_match_of : Stmt := top 22
abbrev N_match_of : List Str := ["words", "text", "found", "at", "word"]
theorem sc_match_of : FnScope N_match_of ["words", "text"] (defScope st_match_of) := ⟨rfl, rfl, rfl, by decide +kernel, rfl, by decide +kernel, by decide +kernel⟩
abbrev sp_match : Sp := Pu2 eWs eStr (eTL eStr) (fun ws t => Good ws ∧ t.length ≤ 1000 ∧ Over ws t) mt
theorem ok_match (B : Bl mg) (D : Cst mg) (F : DefAt K mg "match_of" st_match_of ["words", "text"]) (c_longest_from : Cal P w K mg base "longest_from" 3 ["words", "text", "index"] sp_lfrom) : Cal P w K mg base "match_of" 4 ["words", "text"] sp_match := by
  refine F.cal sc_match_of (fun vs H Q E h => ?_) (fun f cdv A outer s H vs Q E hr h => ?_)
  · obtain ⟨_, _, _, _, rfl, _⟩ := h; rfl
  · obtain ⟨va, vb, ws, t, rfl, ra, rb, ⟨g, ht, ho⟩, q⟩ := h
    refine ⟨_, (pss_cons (ps_set (i := 2) sc_match_of.nd rfl (.inl rfl) (pe_lst pa_nil))
    (pss_cons (ps_set (i := 3) sc_match_of.nd rfl (.inl rfl) pe_int)
    (pss_cons (ps_while PassesOwn.never (pt_cmpR op_lt (pv 3) (pe_callB call_len_str (by rfl) B.len (by decide +kernel) (pa_cons (pv 1) pa_nil)) (nomark _)) (pss_cons (ps_set (i := 4) sc_match_of.nd rfl (.inl rfl) (pe_cal c_longest_from hr (by decide) (by rfl) (pa_cons (pv 0) (pa_cons (pv 1) (pa_cons (pv 3) pa_nil)))))
    (pss_cons (ps_expr (pe_bm PySem.F.plainAttrs_list PySem.F.slot_list_append PySem.F.type_list_append mt_append (pv 2) (pa_cons (pv 4) pa_nil)))
    (pss_one (ps_set (i := 3) sc_match_of.nd rfl (.inl rfl) (pe_op (op_add) (pv 3) (pe_callB call_len_str (by rfl) B.len (by decide +kernel) (pa_cons (pv 4) pa_nil))))))))
    (pss_one (ps_ret (pe_callTy (call_tuple_ofK K) (by rfl) B.tuple (by decide +kernel) (pa_cons (pv 2) pa_nil))))))), ?_⟩
    refine q_asgN (e := eStr) en_nil fun p H1 hp k1 r1 => ?_
    refine q_asgR (er_nat (i := 0)) fun v0 H2 k2 r2 => ?_
    cases r2
    refine q_wh [p] (fun m σ' H' => ∃ (n : Nat) (gs : List Tx) (z : Option V), σ' = [some va, some vb, some (.ref p), some (.int (n : Int)), z] ∧ n ≤ t.length ∧ m = t.length - n ∧ LsAt eStr H' p gs ∧ mt ws t = gs ++ mt ws (t.drop n) ∧ gs.length ≤ n)
      t.length ⟨0, [], none, rfl, Nat.zero_le _, rfl, r1.mono k2, rfl, Nat.le_refl _⟩ ?_
    rintro m σ' H' kH ⟨n, gs, z, rfl, hn, rfl, hl, hm, hgl⟩
    have kB : Ex H H' := (ex_new1 (k1.trans k2) hp).trans kH
    refine ⟨_, et_r (er_lt (er_natI (er_var rfl rfl)) (er_lenS (er_var rfl (eStr.mono kB rb)) (by omega))), fun hb H3 k3 => ?_, fun hb H3 k3 => ?_⟩
    · have hlt : n < t.length := by have := of_decide_eq_true hb; omega
      have hne : t.drop n ≠ [] := by intro e; have := congrArg List.length e; rw [List.length_drop, List.length_nil] at this; omega
      have hlw := lw_len g (ho.drop n) hne
      rw [List.length_drop] at hlw
      refine q_asgR (er_call3 (er_var rfl (eWs.mono (kB.trans k3) ra)) (er_var rfl (eStr.mono (kB.trans k3) rb)) (er_var rfl rfl) ⟨g, ht, hlt, ho⟩) fun v1 H4 k4 r4 => ?_
      refine q_appR (ev_var rfl) (hl.mono (k3.trans k4)) (er_var rfl r4) (by omega) fun H5 k5 r5 => ?_
      refine s_asgR (er_add (er_natI (er_var rfl rfl)) (er_lenS (er_var rfl r4) (by omega))) fun v2 H6 k6 r6 => ?_
      cases r6
      refine ⟨((ex_hid [p] (k3.trans k4)).trans k5).trans k6, t.length - (n + (lw ws (t.drop n)).length), by omega, n + (lw ws (t.drop n)).length, gs ++ [lw ws (t.drop n)], some v1, rfl, by omega, rfl, r5.mono k6, ?_, ?_⟩
      · rw [hm, mt_cons g (ho.drop n) hne, List.drop_drop, List.append_assoc]; rfl
      · rw [List.length_append, List.length_singleton]; omega
    · have hge : n = t.length := by have := of_decide_eq_false hb; omega
      refine s_retR (er_tupleL (er_var rfl (hl.mono k3).r)) fun v H4 k4 r4 => q v H4 ((kB.trans k3).trans k4) ?_
      rw [hm, hge, List.drop_length, mt_nil, List.append_nil]
      exact r4
/-! ### cost_of_row, can_grow -/
-- slots: 0=words* 1=row 2=word
abbrev st_cost_of_row : Stmt := top 23
abbrev N_cost_of_row : List Str := ["words", "row", "word"]
theorem sc_cost_of_row : FnScope N_cost_of_row ["words", "row"] (defScope st_cost_of_row) := ⟨rfl, rfl, rfl, by decide +kernel, rfl, by decide +kernel, by decide +kernel⟩
abbrev sp_rowc : Sp := Pu2 eWs (eTL eStr) eInt (fun ws row => Good ws ∧ (∀ x ∈ row, x ∈ names ws) ∧ row.length ≤ 1000) rowCost
theorem ok_rowc (B : Bl mg) (D : Cst mg) (F : DefAt K mg "cost_of_row" st_cost_of_row ["words", "row"]) (c_cost_in : Cal P w K mg base "cost_in" 1 ["words", "word"] sp_cost) : Cal P w K mg base "cost_of_row" 2 ["words", "row"] sp_rowc := by
  refine F.cal sc_cost_of_row (fun vs H Q E h => ?_) (fun f cdv A outer s H vs Q E hr h => ?_)
  · obtain ⟨_, _, _, _, rfl, _⟩ := h; rfl
  · obtain ⟨va, vb, ws, row, rfl, ra, rb, ⟨g, hw, hl⟩, q⟩ := h
    refine ⟨_, (pss_one (ps_ret (pe_callB (cr_sumK K rfl) (by rfl) B.sum (by decide +kernel) (pa_cons (pe_lc (own := [("word", 2)]) rfl sc_cost_of_row.nd (pi_tupK K (pv 1)) (blkOk_by (own := [("word", 2)]) (N := N_cost_of_row) (sc := defScope st_cost_of_row) (by decide +kernel)) (fun _ _ _ _ _ => (pg_name (i := 2) sc_cost_of_row.nd rfl (.inl rfl))) (fun _ _ _ _ _ => pts_nil) (fun _ _ _ _ _ => (pe_cal c_cost_in hr (by decide) (by rfl) (pa_cons (pv 0) (pa_cons (pv 2) pa_nil))))) pa_nil)))), ?_⟩
    exact s_retR (er_sum (EvN.r (en_lcA (e' := eInt) (fun x => cost ws x) (src_tup (er_var rfl rb)) (small hl) fun x v H1 hx k r Q q => g_1 (q _ rfl (er_call2 (er_var rfl (eWs.mono k ra)) (er_var rfl r) ⟨g, hw x hx⟩))))) q
theorem cutT_to (x : Tx) (j : Nat) : cutT x none (some (j : Int)) = x.take j := by
  unfold cutT
  rw [HT.sIx_nat, HT.sIx_none, List.drop_zero, Nat.sub_zero]
  by_cases h : j ≤ x.length
  · rw [Nat.min_eq_left h]
  · rw [Nat.min_eq_right (by omega), List.take_length, List.take_of_length_le (by omega)]
theorem cutT_from (x : Tx) (i : Nat) : cutT x (some (i : Int)) none = x.drop i := by
  unfold cutT
  rw [HT.sIx_nat, HT.sIx_none]
  by_cases h : i ≤ x.length
  · rw [Nat.min_eq_left h, List.take_of_length_le (by rw [List.length_drop]; omega)]
  · rw [Nat.min_eq_right (by omega), Nat.sub_self, List.take_zero, List.drop_of_length_le (by omega)]
theorem any_map_id {α : Type} (l : List α) (f : α → Bool) : (l.map f).any id = l.any f := by
  induction l with
  | nil => rfl
  | cons x r ih => rw [List.map_cons, List.any_cons, List.any_cons, ih]; rfl
theorem all_map_id {α : Type} (l : List α) (f : α → Bool) : (l.map f).all id = l.all f := by
  induction l with
  | nil => rfl
  | cons x r ih => rw [List.map_cons, List.all_cons, List.all_cons, ih]; rfl
-- slots: 0=words 1=text* 2=word 3=cost
abbrev st_can_grow : Stmt := top 24
abbrev N_can_grow : List Str := ["words", "text", "word", "cost"]
theorem sc_can_grow : FnScope N_can_grow ["words", "text"] (defScope st_can_grow) := ⟨rfl, rfl, rfl, by decide +kernel, rfl, by decide +kernel, by decide +kernel⟩
abbrev sp_grow : Sp := Pu2 eWs eStr eBl (fun ws t => Good ws ∧ t.length ≤ 1000) grow
theorem ok_grow (B : Bl mg) (D : Cst mg) (F : DefAt K mg "can_grow" st_can_grow ["words", "text"]) : Cal P w K mg base "can_grow" 1 ["words", "text"] sp_grow := by
  refine F.cal sc_can_grow (fun vs H Q E h => ?_) (fun f cdv A outer s H vs Q E hr h => ?_)
  · obtain ⟨_, _, _, _, rfl, _⟩ := h; rfl
  · obtain ⟨va, vb, ws, t, rfl, ra, rb, ⟨g, ht⟩, q⟩ := h
    refine ⟨_, (pss_one (ps_ret (pe_callB (cr_anyK K rfl) (by rfl) B.any (by decide +kernel) (pa_cons (pe_lc (own := [("word", 2), ("cost", 3)]) rfl sc_can_grow.nd (pi_tupK K (pv 0)) (blkOk_by (own := [("word", 2), ("cost", 3)]) (N := N_can_grow) (sc := defScope st_can_grow) (by decide +kernel)) (fun _ _ _ _ _ => (pg_tupK K (n := 2) rfl (pgs_cons (pg_name (i := 2) sc_can_grow.nd rfl (.inl rfl)) (pgs_cons (pg_name (i := 3) sc_can_grow.nd rfl (.inl rfl)) pgs_nil)))) (fun _ _ _ _ _ => pts_nil) (fun _ _ _ _ _ => (pe_and (pe_cmpR op_gt (pe_callB call_len_str (by rfl) B.len (by decide +kernel) (pa_cons (pv 2) pa_nil)) (pe_callB call_len_str (by rfl) B.len (by decide +kernel) (pa_cons (pv 1) pa_nil)) (nomark _)) (pe_one (pe_cmpR op_eq (pe_slice sl_str (pv 2) po_none (po_some (pe_callB call_len_str (by rfl) B.len (by decide +kernel) (pa_cons (pv 1) pa_nil)))) (pv 1) (nomark _)))))) pa_nil)))), ?_⟩
    refine s_retR ((er_any (EvN.r (en_lcA (e' := eBl) (fun (e : Tx × Int) => decide (t.length < e.1.length) && (e.1.take t.length == t)) (src_tup (er_var rfl ra)) (small (Nat.le_trans g.few (by decide))) fun x v H1 hx k r Q q =>
      g_2 r fun v1 v2 r1 r2 => q _ rfl ((er_and (er_gt (er_lenS (er_var rfl r1) (name_short g hx)) (er_lenS (er_var rfl (eStr.mono k rb)) (by omega))) fun _ =>
        er_eqS (er_slS (er_var rfl r1) eo_none (eo_r (er_lenS (er_var rfl (eStr.mono k rb)) (by omega))) (name_short g hx)) (er_var rfl (eStr.mono k rb))).is ?_)))).is (any_map_id _ _)) q
    rw [cutT_to, eqT]
    congr 1
    exact Bool.eq_iff_iff.mpr (by simp)
/-! ### read_on -/
theorem neT (s t : Tx) : (!decide (s = t)) = true ↔ s ≠ t := by simp
-- slots: 0=words 1=held 2=letter 3=given 4=word
abbrev st_read_on : Stmt := top 25
abbrev N_read_on : List Str := ["words", "held", "letter", "given", "word"]
theorem sc_read_on : FnScope N_read_on ["words", "held", "letter"] (defScope st_read_on) := ⟨rfl, rfl, rfl, by decide +kernel, rfl, by decide +kernel, by decide +kernel⟩
abbrev sp_read : Sp := Pu3 eWs eStr eChr (e2 (eTL eStr) eStr) (fun ws h c => Good ws ∧ h.length ≤ 100 ∧ Over ws h ∧ c ∈ lets ws) rd
theorem ok_read (B : Bl mg) (D : Cst mg) (F : DefAt K mg "read_on" st_read_on ["words", "held", "letter"]) (c_longest_from : Cal P w K mg base "longest_from" 3 ["words", "text", "index"] sp_lfrom)
    (c_can_grow : Cal P w K mg base "can_grow" 1 ["words", "text"] sp_grow) : Cal P w K mg base "read_on" 4 ["words", "held", "letter"] sp_read := by
  refine F.cal sc_read_on (fun vs H Q E h => ?_) (fun f cdv A outer s H vs Q E hr h => ?_)
  · obtain ⟨_, _, _, _, _, _, rfl, _⟩ := h; rfl
  · obtain ⟨va, vb, vc, ws, h0, c, rfl, ra, rb, rc, ⟨g, hlen, ho, hc⟩, q⟩ := h
    refine ⟨_, (pss_cons (ps_set (i := 1) sc_read_on.nd rfl (.inl rfl) (pe_op (op_add_str) (pv 1) (pv 2)))
    (pss_cons (ps_set (i := 3) sc_read_on.nd rfl (.inl rfl) (pe_lst pa_nil))
    (pss_cons (ps_while PassesOwn.never (PW.pt (pw_and (pt_cmpR op_ne (pv 1) pe_str (nomark _)) (pw_and1 (pt_not (pt_val (pe_cal c_can_grow hr (by decide) (by rfl) (pa_cons (pv 0) (pa_cons (pv 1) pa_nil)))))))) (pss_cons (ps_set (i := 4) sc_read_on.nd rfl (.inl rfl) (pe_cal c_longest_from hr (by decide) (by rfl) (pa_cons (pv 0) (pa_cons (pv 1) (pa_cons pe_int pa_nil)))))
    (pss_cons (ps_expr (pe_bm PySem.F.plainAttrs_list PySem.F.slot_list_append PySem.F.type_list_append mt_append (pv 3) (pa_cons (pv 4) pa_nil)))
    (pss_one (ps_set (i := 1) sc_read_on.nd rfl (.inl rfl) (pe_slice sl_str (pv 1) (po_some (pe_callB call_len_str (by rfl) B.len (by decide +kernel) (pa_cons (pv 4) pa_nil))) po_none))))))
    (pss_one (ps_ret (pe_tup (pa_cons (pe_callTy (call_tuple_ofK K) (by rfl) B.tuple (by decide +kernel) (pa_cons (pv 3) pa_nil)) (pa_cons (pv 1) pa_nil)))))))), ?_⟩
    refine q_asgR (er_catS (er_var rfl rb) (er_chr (er_var rfl rc)) (by simp; omega)) fun v1 H1 k1 r1 => ?_
    refine q_asgN (e := eStr) en_nil fun p H2 hp k2 r2 => ?_
    have hp0 : H p = none := fresh_back k1 hp
    refine q_wh [p] (fun m σ' H' => ∃ (h : Tx) (gs : List Tx) (z : Option V), σ' = [some va, some (.str (ss h)), some vc, some (.ref p), z] ∧ Over ws h ∧ h.length ≤ 101 ∧ m = h.length ∧ LsAt eStr H' p gs ∧
      gs.length + h.length ≤ 101 ∧ (rd ws h0 c).1 = gs ++ (rdo ws h).1 ∧ (rd ws h0 c).2 = (rdo ws h).2) (h0 ++ [c]).length ⟨h0 ++ [c], [], none, by cases r1; rfl, ho.append (over_one hc), by simp; omega, rfl, r2, by simp; omega, rfl, rfl⟩ ?_
    rintro m σ' H' kH ⟨h, gs, z, rfl, hoh, hlh, rfl, hl, hgl, e1, e2⟩
    have kB : Ex H H' := (ex_new1 (k1.trans k2) hp0).trans kH
    refine ⟨_, et_and (et_r (er_neS (er_var (e := eStr) (x := h) rfl rfl) (er_str (t := []) (by decide +kernel)))) (fun _ => et_not (et_rB (er_call2 (er_var rfl (eWs.mono kB ra)) (er_var (e := eStr) (x := h) rfl rfl) ⟨g, by omega⟩))), fun hb H3 k3 => ?_, fun hb H3 k3 => ?_⟩
    · rw [Bool.and_eq_true] at hb
      have hne : h ≠ [] := (neT _ _).mp hb.1
      have hg : grow ws h = false := by simpa using hb.2
      have hlw := lw_len g hoh hne
      refine q_asgR (er_call3 (er_var rfl (eWs.mono (kB.trans k3) ra)) (er_var (e := eStr) (x := h) rfl rfl) (er_nat (i := 0)) ⟨g, by omega, List.length_pos_iff.mpr hne, hoh⟩) fun v2 H4 k4 r4 => ?_
      refine q_appR (ev_var rfl) (hl.mono (k3.trans k4)) (er_var rfl r4) (by omega) fun H5 k5 r5 => ?_
      refine s_asgR (er_slS (er_var (e := eStr) (x := h) rfl rfl) (eo_r (er_lenS (er_var rfl r4) (by rw [List.drop_zero]; omega))) eo_none (by omega)) fun v3 H6 k6 r6 => ?_
      rw [cutT_from, List.drop_zero] at r6
      cases r6
      rw [List.drop_zero] at r5
      refine ⟨((ex_hid [p] (k3.trans k4)).trans k5).trans k6, (h.drop (lw ws h).length).length, ?_, h.drop (lw ws h).length, gs ++ [lw ws h], some v2, rfl, hoh.drop _, ?_, rfl, r5.mono k6, ?_, ?_, ?_⟩
      · rw [List.length_drop]; omega
      · rw [List.length_drop]; omega
      · rw [List.length_append, List.length_singleton, List.length_drop]; omega
      · rw [e1, rdo_cons g hoh hne hg, List.append_assoc]; rfl
      · rw [e2, rdo_cons g hoh hne hg]
    · have hst : h = [] ∨ grow ws h = true := by
        by_cases hn : h = []
        · exact .inl hn
        · right
          have h1 : (!decide (h = [])) = true := (neT _ _).mpr hn
          rw [h1, Bool.true_and] at hb
          simpa using hb
      rw [rdo_stop hst] at e1 e2
      refine s_retR (er_tup2 (er_tupleL (er_var rfl (hl.mono k3).r)) (er_var (e := eStr) (x := h) rfl rfl)) fun v H4 k4 r4 => q v H4 ((kB.trans k3).trans k4) ?_
      have e3 : rd ws h0 c = (gs, h) := Prod.ext (by rw [e1, List.append_nil]) e2
      rw [e3]
      exact r4
/-! ### steps_of -/
abbrev eStep : Enc (Tx × Tx × Int × Int) := e4 eStr eStr eInt eInt
-- slots: 0=words 1=held 2=tail 3=letter 4=given 5=rest 6=gain 7=longer 8=found
abbrev st_steps_of : Stmt := top 27
abbrev N_steps_of : List Str := ["words", "held", "tail", "letter", "given", "rest", "gain", "longer", "found"]
theorem sc_steps_of : FnScope N_steps_of ["words", "held", "tail", "letter"] (defScope st_steps_of) := ⟨rfl, rfl, rfl, by decide +kernel, rfl, by decide +kernel, by decide +kernel⟩
def PreSt (ws : Ws) (h t : Tx) (c : Nat) : Prop := Good ws ∧ h.length ≤ 100 ∧ t.length ≤ 100 ∧ Over ws h ∧ c ∈ lets ws
abbrev sp_steps : Sp := PuN4 eWs eStr eStr eChr eStep PreSt steps
theorem ok_steps (B : Bl mg) (D : Cst mg) (F : DefAt K mg "steps_of" st_steps_of ["words", "held", "tail", "letter"]) (c_read_on : Cal P w K mg base "read_on" 4 ["words", "held", "letter"] sp_read) (c_cost_of_row : Cal P w K mg base "cost_of_row" 2 ["words", "row"] sp_rowc)
    (c_has_word : Cal P w K mg base "has_word" 2 ["words", "word"] sp_has) (c_cost_in : Cal P w K mg base "cost_in" 1 ["words", "word"] sp_cost) (c_can_grow : Cal P w K mg base "can_grow" 1 ["words", "text"] sp_grow) :
    Cal P w K mg base "steps_of" 5 ["words", "held", "tail", "letter"] sp_steps := by
  refine F.cal sc_steps_of (fun vs H Q E h => ?_) (fun f cdv A outer s H vs Q E hr h => ?_)
  · obtain ⟨_, _, _, _, _, _, _, _, rfl, _⟩ := h; rfl
  · obtain ⟨va, vb, vc, vd, ws, h, t, c, rfl, ra, rb, rc, rd', ⟨g, hlh, hlt, ho, hc⟩, q⟩ := h
    refine ⟨_, (pss_cons (ps_asg (pe_cal c_read_on hr (by decide) (by rfl) (pa_cons (pv 0) (pa_cons (pv 1) (pa_cons (pv 3) pa_nil)))) (pg_tupK K (n := 2) rfl (pgs_cons (pg_name (i := 4) sc_steps_of.nd rfl (.inl rfl)) (pgs_cons (pg_name (i := 5) sc_steps_of.nd rfl (.inl rfl)) pgs_nil))))
    (pss_cons (ps_set (i := 6) sc_steps_of.nd rfl (.inl rfl) (pe_cal c_cost_of_row hr (by decide) (by rfl) (pa_cons (pv 0) (pa_cons (pv 4) pa_nil))))
    (pss_cons (ps_set (i := 7) sc_steps_of.nd rfl (.inl rfl) (pe_op (op_add_str) (pv 2) (pv 3)))
    (pss_cons (ps_set (i := 8) sc_steps_of.nd rfl (.inl rfl) (pe_lst pa_nil))
    (pss_cons (ps_if (pt_val (pe_cal c_has_word hr (by decide) (by rfl) (pa_cons (pv 0) (pa_cons (pv 7) pa_nil)))) (pss_one (ps_expr (pe_bm PySem.F.plainAttrs_list PySem.F.slot_list_append PySem.F.type_list_append mt_append (pv 8) (pa_cons (pe_tup (pa_cons (pv 5) (pa_cons pe_str (pa_cons (pv 6) (pa_cons (pe_cal c_cost_in hr (by decide) (by rfl) (pa_cons (pv 0) (pa_cons (pv 7) pa_nil))) pa_nil))))) pa_nil)))) pss_nil)
    (pss_cons (ps_if (pt_val (pe_cal c_can_grow hr (by decide) (by rfl) (pa_cons (pv 0) (pa_cons (pv 7) pa_nil)))) (pss_one (ps_expr (pe_bm PySem.F.plainAttrs_list PySem.F.slot_list_append PySem.F.type_list_append mt_append (pv 8) (pa_cons (pe_tup (pa_cons (pv 5) (pa_cons (pv 7) (pa_cons (pv 6) (pa_cons pe_int pa_nil))))) pa_nil)))) pss_nil)
    (pss_one (ps_ret (pv 8))))))))), ?_⟩
    refine q_asgG (er_call3 (er_var rfl ra) (er_var rfl rb) (er_var rfl rd') ⟨g, hlh, ho, hc⟩) fun v1 H1 k1 r1 => g_2 r1 fun x1 x2 rx1 rx2 => ?_
    have hw := rdo_words g _ (ho.append (over_one hc))
    have hgl : (rd ws h c).1.length ≤ 1000 := Nat.le_trans hw.2.1 (by simp; omega)
    refine q_asgR (er_call2 (er_var rfl (eWs.mono k1 ra)) (er_var rfl rx1) ⟨g, hw.1, hgl⟩) fun v2 H2 k2 r2 => ?_
    refine q_asgR (er_catS (er_var rfl (eStr.mono (k1.trans k2) rc)) (er_chr (er_var rfl (eChr.mono (k1.trans k2) rd'))) (by simp; omega)) fun v3 H3 k3 r3 => ?_
    refine q_asgN (e := eStep) en_nil fun p H4 hp k4 r4 => ?_
    have kB := ((k1.trans k2).trans k3).trans k4
    have hp0 : H p = none := fresh_back ((k1.trans k2).trans k3) hp
    cases r3; cases r2; cases rx2
    refine q_ifApp (x := ((rd ws h c).2, [], rowCost ws (rd ws h c).1, cost ws (t ++ [c]))) (et_rB (er_call2 (er_var rfl (eWs.mono kB ra)) (er_var (e := eStr) (x := t ++ [c]) rfl rfl) g)) (ev_var rfl) r4
      (fun hb => er_tup4 (er_var rfl rfl) (er_str (t := []) (by decide +kernel)) (er_var rfl rfl) (er_call2 (er_var rfl (eWs.mono kB ra)) (er_var (e := eStr) (x := t ++ [c]) rfl rfl) ⟨g, by simpa using hb⟩)) (by decide) fun H5 k5 r5 => ?_
    have kB5 : Ex H H5 := (ex_new1 kB hp0).trans k5
    refine q_ifApp (x := ((rd ws h c).2, t ++ [c], rowCost ws (rd ws h c).1, 0)) (et_rB (er_call2 (er_var rfl (eWs.mono kB5 ra)) (er_var (e := eStr) (x := t ++ [c]) rfl rfl) ⟨g, by simp; omega⟩)) (ev_var rfl) r5
      (fun hb => er_tup4 (er_var rfl rfl) (er_var rfl rfl) (er_var rfl rfl) er_int) (by split <;> simp) fun H6 k6 r6 => ?_
    have kB6 : Ex H H6 := (ex_new1 kB5 hp0).trans k6
    refine s_retR (er_var (e := ⟨fun H v (_ : Unit) => v = .ref p, fun _ h => h⟩) (x := ()) rfl rfl) fun v H7 k7 r7 => ?_
    have r7 : v = .ref p := r7
    subst r7
    exact q p H7 hp0 (kB6.trans k7) (r6.mono k7)
end
end K61

/-! K61P3: the program's checks of a list and a bound. -/
namespace K61
open PySem PySem.Spec PyProof.Rows L2 Evl
section
variable {P : Program} {w : World} {K : PySem.W.Frag} {mg : Str → Option Value} {base : Heap}
-- slots: 0=value 1=low 2=high
abbrev st_is_between : Stmt := top 8
abbrev N_is_between : List Str := ["value", "low", "high"]
theorem sc_is_between : FnScope N_is_between ["value", "low", "high"] (defScope st_is_between) := ⟨rfl, rfl, rfl, by decide +kernel, rfl, by decide +kernel, by decide +kernel⟩
abbrev sp_between : Sp := Pu3 eInt eInt eInt eBl (fun _ _ _ => True) (fun v l h => decide (l ≤ v) && decide (v ≤ h))
theorem ok_between (B : Bl mg) (D : Cst mg) (F : DefAt K mg "is_between" st_is_between ["value", "low", "high"]) : Cal P w K mg base "is_between" 1 ["value", "low", "high"] sp_between := by
  refine F.cal sc_is_between (fun vs H Q E h => ?_) (fun f cdv A outer s H vs Q E hr h => ?_)
  · obtain ⟨_, _, _, _, _, _, rfl, _⟩ := h; rfl
  · obtain ⟨va, vb, vc, x, l, h, rfl, ra, rb, rc, _, q⟩ := h
    refine ⟨_, (pss_one (ps_ret (pe_and (pe_callB (call_isiK' K) (by rfl) B.isinstance (by decide +kernel) (pa_cons (pv 0) (pa_cons (pe_bltn (v := .ty "int") (by rfl) B.int (by decide +kernel) rfl) pa_nil))) (pe_and (pe_not (pe_callB (call_isiK' K) (by rfl) B.isinstance (by decide +kernel) (pa_cons (pv 0) (pa_cons (pe_bltn (v := .ty "bool") (by rfl) B.bool (by decide +kernel) rfl) pa_nil)))) (pe_one (pe_chain op_le op_le (pv 1) (pv 0) (pv 2))))))), ?_⟩
    refine s_retR ((er_and (er_isi (er_var rfl ra) (fun _ _ r => ty_int r) (r := true) (by decide +kernel)) fun _ => er_and (er_not (er_isi (er_var rfl ra) (fun _ _ r => ty_int r) (r := false) (by decide +kernel))) fun _ =>
      er_between (er_var rfl rb) (er_var rfl ra) (er_var rfl rc)).is ?_) q
    rfl
-- slots: 0=value
abbrev st_is_integer : Stmt := top 20
abbrev N_is_integer : List Str := ["value"]
theorem sc_is_integer : FnScope N_is_integer ["value"] (defScope st_is_integer) := ⟨rfl, rfl, rfl, by decide +kernel, rfl, by decide +kernel, by decide +kernel⟩
abbrev sp_integer : Sp := Pu1 eInt eBl (fun _ => True) (fun _ => true)
theorem ok_integer (B : Bl mg) (D : Cst mg) (F : DefAt K mg "is_integer" st_is_integer ["value"]) : Cal P w K mg base "is_integer" 1 ["value"] sp_integer := by
  refine F.cal sc_is_integer (fun vs H Q E h => ?_) (fun f cdv A outer s H vs Q E hr h => ?_)
  · obtain ⟨_, _, rfl, _⟩ := h; rfl
  · obtain ⟨va, x, rfl, ra, _, q⟩ := h
    refine ⟨_, (pss_one (ps_ret (pe_and (pe_callB (call_isiK' K) (by rfl) B.isinstance (by decide +kernel) (pa_cons (pv 0) (pa_cons (pe_bltn (v := .ty "int") (by rfl) B.int (by decide +kernel) rfl) pa_nil))) (pe_one (pe_not (pe_callB (call_isiK' K) (by rfl) B.isinstance (by decide +kernel) (pa_cons (pv 0) (pa_cons (pe_bltn (v := .ty "bool") (by rfl) B.bool (by decide +kernel) rfl) pa_nil)))))))), ?_⟩
    exact s_retR (er_and (er_isi (er_var rfl ra) (fun _ _ r => ty_int r) (r := true) (by decide +kernel)) fun _ => er_not (er_isi (er_var rfl ra) (fun _ _ r => ty_int r) (r := false) (by decide +kernel))) q
-- slots: 0=value 1=letter
abbrev st_is_word : Stmt := top 9
abbrev N_is_word : List Str := ["value", "letter"]
theorem sc_is_word : FnScope N_is_word ["value"] (defScope st_is_word) := ⟨rfl, rfl, rfl, by decide +kernel, rfl, by decide +kernel, by decide +kernel⟩
def abc : Tx := [97, 98, 99, 100, 101, 102, 103, 104, 105, 106, 107, 108, 109, 110, 111, 112, 113, 114, 115, 116, 117, 118, 119, 120, 121, 122]
theorem in_abc {c : Nat} (h : 97 ≤ c ∧ c ≤ 99) : decide (c ∈ abc) = true := by
  have : c = 97 ∨ c = 98 ∨ c = 99 := by omega
  rcases this with rfl | rfl | rfl <;> decide
def PreW (t : Tx) : Prop := 1 ≤ t.length ∧ t.length ≤ 4 ∧ ∀ c ∈ t, 97 ≤ c ∧ c ≤ 99
theorem all_true {α : Type} (l : List α) (f : α → Bool) (h : ∀ x ∈ l, f x = true) : (l.map f).all id = true := by
  rw [List.all_eq_true]
  intro x hx
  obtain ⟨y, hy, rfl⟩ := List.mem_map.mp hx
  exact h y hy
abbrev sp_word : Sp := Pu1 eStr eBl PreW (fun _ => true)
theorem ok_word (B : Bl mg) (D : Cst mg) (F : DefAt K mg "is_word" st_is_word ["value"]) : Cal P w K mg base "is_word" 1 ["value"] sp_word := by
  refine F.cal sc_is_word (fun vs H Q E h => ?_) (fun f cdv A outer s H vs Q E hr h => ?_)
  · obtain ⟨_, _, rfl, _⟩ := h; rfl
  · obtain ⟨va, t, rfl, ra, ⟨h1, h4, hc⟩, q⟩ := h
    refine ⟨_, (pss_cons (ps_if (PW.pt (pw_or (pt_not (pt_val (pe_callB (call_isiK' K) (by rfl) B.isinstance (by decide +kernel) (pa_cons (pv 0) (pa_cons (pe_bltn (v := .ty "str") (by rfl) B.str (by decide +kernel) rfl) pa_nil))))) (pw_or1 (pt_not (pt_chain op_le op_le pe_int (pe_callB call_len_str (by rfl) B.len (by decide +kernel) (pa_cons (pv 0) pa_nil)) (pe_con1 D.LONGEST (by rfl))))))) (pss_one (ps_ret pe_bl)) pss_nil)
    (pss_one (ps_ret (pe_callB (cr_allK K rfl) (by rfl) B.all (by decide +kernel) (pa_cons (pe_lc (own := [("letter", 1)]) rfl sc_is_word.nd (pi_str (pv 0)) (blkOk_by (own := [("letter", 1)]) (N := N_is_word) (sc := defScope st_is_word) (by decide +kernel)) (fun _ _ _ _ _ => (pg_name (i := 1) sc_is_word.nd rfl (.inl rfl))) (fun _ _ _ _ _ => pts_nil) (fun _ _ _ _ _ => (pe_cmpR op_in_sign (pv 1) (pe_con1 D.ALPHABET (by rfl)) (by rfl)))) pa_nil))))), ?_⟩
    refine q_when (et_or (et_not (et_rB (er_isi (er_var rfl ra) (fun _ _ r => ty_str r) (r := true) (by decide +kernel)))) fun _ => et_not (et_r (er_between er_int (er_lenS (er_var rfl ra) (by omega)) er_int))) (fun hb => ?_) (fun _ H1 k1 => ?_)
    · exfalso
      have e1 : decide ((1 : Int) ≤ (t.length : Int)) = true := decide_eq_true (by omega)
      have e2 : decide ((t.length : Int) ≤ 4) = true := decide_eq_true (by omega)
      rw [e1, e2] at hb
      exact absurd hb (by decide)
    · refine s_retR ((er_all (EvN.r (en_lcA (e' := eBl) (fun c => decide (c ∈ abc)) (src_str (er_var rfl (eStr.mono k1 ra))) (by omega) fun x v H2 hx k r Q q => g_1 (q _ rfl (er_inS (er_var rfl r) (er_str (t := abc) (by decide +kernel))))))).is ?_)
        fun v H2 k2 r => q v H2 (k1.trans k2) r
      exact all_true _ _ fun c h => in_abc (hc c h)
-- slots: 0=value
abbrev st_is_entry : Stmt := top 10
abbrev N_is_entry : List Str := ["value"]
theorem sc_is_entry : FnScope N_is_entry ["value"] (defScope st_is_entry) := ⟨rfl, rfl, rfl, by decide +kernel, rfl, by decide +kernel, by decide +kernel⟩
abbrev sp_entry : Sp := Pu1 (e2 eStr eInt) eBl (fun e => PreW e.1 ∧ 1 ≤ e.2 ∧ e.2 ≤ 9) (fun _ => true)
theorem ok_entry (B : Bl mg) (D : Cst mg) (F : DefAt K mg "is_entry" st_is_entry ["value"]) (c_is_word : Cal P w K mg base "is_word" 1 ["value"] sp_word) (c_is_between : Cal P w K mg base "is_between" 1 ["value", "low", "high"] sp_between) : Cal P w K mg base "is_entry" 2 ["value"] sp_entry := by
  refine F.cal sc_is_entry (fun vs H Q E h => ?_) (fun f cdv A outer s H vs Q E hr h => ?_)
  · obtain ⟨_, _, rfl, _⟩ := h; rfl
  · obtain ⟨va, e, rfl, ra, ⟨hw, h1, h9⟩, q⟩ := h
    refine ⟨_, (pss_one (ps_ret (pe_and (pe_callB (call_isiK' K) (by rfl) B.isinstance (by decide +kernel) (pa_cons (pv 0) (pa_cons (pe_bltn (v := .ty "tuple") (by rfl) B.tuple (by decide +kernel) rfl) pa_nil))) (pe_and (pe_cmpR op_eq (pe_callB (call_len_seqK K) (by rfl) B.len (by decide +kernel) (pa_cons (pv 0) pa_nil)) pe_int (nomark _)) (pe_and (pe_cal c_is_word hr (by decide) (by rfl) (pa_cons (pe_ix (ix_tupK K) (pv 0) pe_int (fun _ _ => rfl)) pa_nil)) (pe_one (pe_cal c_is_between hr (by decide) (by rfl) (pa_cons (pe_ix (ix_tupK K) (pv 0) pe_int (fun _ _ => rfl)) (pa_cons pe_int (pa_cons (pe_con1 D.MOST_COST (by rfl)) pa_nil)))))))))), ?_⟩
    refine s_retR ((er_and (er_isi (er_var rfl ra) (fun _ _ r => ty_2 r) (r := true) (by decide +kernel)) fun _ => er_and (er_eqI (er_len2 (er_var rfl ra)) er_int) fun _ => er_and (er_call1 (er_20 (er_var rfl ra)) hw) fun _ =>
      er_call3 (er_21 (er_var rfl ra)) er_int er_int trivial).is ?_) q
    rw [decide_eq_true h1, decide_eq_true h9]
    rfl
-- slots: 0=value 1=names* 2=entry 3=letter 4=at 5=one
abbrev st_is_list : Stmt := top 11
abbrev N_is_list : List Str := ["value", "names", "entry", "letter", "at", "one"]
theorem sc_is_list : FnScope N_is_list ["value"] (defScope st_is_list) := ⟨rfl, rfl, rfl, by decide +kernel, rfl, by decide +kernel, by decide +kernel⟩
abbrev sp_list : Sp := Pu1 eWs eBl Good (fun _ => true)
theorem ok_list (B : Bl mg) (D : Cst mg) (F : DefAt K mg "is_list" st_is_list ["value"]) (c_is_entry : Cal P w K mg base "is_entry" 2 ["value"] sp_entry) : Cal P w K mg base "is_list" 3 ["value"] sp_list := by
  refine F.cal sc_is_list (fun vs H Q E h => ?_) (fun f cdv A outer s H vs Q E hr h => ?_)
  · obtain ⟨_, _, rfl, _⟩ := h; rfl
  · obtain ⟨va, ws, rfl, ra, g, q⟩ := h
    have hl1 : 1 ≤ ws.length := List.length_pos_iff.mpr g.ne
    have hl8 := g.few
    have hnl : (names ws).length = ws.length := List.length_map _
    refine ⟨_, (pss_cons (ps_if (PW.pt (pw_or (pt_not (pt_val (pe_callB (call_isiK' K) (by rfl) B.isinstance (by decide +kernel) (pa_cons (pv 0) (pa_cons (pe_bltn (v := .ty "tuple") (by rfl) B.tuple (by decide +kernel) rfl) pa_nil))))) (pw_or (pt_not (pt_chain op_le op_le pe_int (pe_callB (call_len_seqK K) (by rfl) B.len (by decide +kernel) (pa_cons (pv 0) pa_nil)) (pe_con1 D.MOST_WORDS (by rfl)))) (pw_or1 (pt_not (pt_val (pe_callB (cr_allK K rfl) (by rfl) B.all (by decide +kernel) (pa_cons (pe_lc (own := [("one", 5)]) rfl sc_is_list.nd (pi_tupK K (pv 0)) (blkOk_by (own := [("one", 5)]) (N := N_is_list) (sc := defScope st_is_list) (by decide +kernel)) (fun _ _ _ _ _ => (pg_name (i := 5) sc_is_list.nd rfl (.inl rfl))) (fun _ _ _ _ _ => pts_nil) (fun _ _ _ _ _ => (pe_cal c_is_entry hr (by decide) (by rfl) (pa_cons (pv 5) pa_nil)))) pa_nil)))))))) (pss_one (ps_ret pe_bl)) pss_nil)
    (pss_cons (ps_set (i := 1) sc_is_list.nd rfl (.inr rfl) (pe_lc (own := [("entry", 2)]) rfl sc_is_list.nd (pi_tupK K (pv 0)) (blkOk_by (own := [("entry", 2)]) (N := N_is_list) (sc := defScope st_is_list) (by decide +kernel)) (fun _ _ _ _ _ => (pg_name (i := 2) sc_is_list.nd rfl (.inl rfl))) (fun _ _ _ _ _ => pts_nil) (fun _ _ _ _ _ => (pe_ix (ix_tupK K) (pv 2) pe_int (fun _ _ => rfl)))))
    (pss_cons (ps_if (pt_not (pt_val (pe_callB (cr_allK K rfl) (by rfl) B.all (by decide +kernel) (pa_cons (pe_lc (own := [("at", 4)]) rfl sc_is_list.nd (pi_range1 (by rfl) B.range (pa_cons (pe_op (op_sub) (pe_callB (call_len_seqK K) (by rfl) B.len (by decide +kernel) (pa_cons (pv 1) pa_nil)) pe_int) pa_nil)) (blkOk_by (own := [("at", 4)]) (N := N_is_list) (sc := defScope st_is_list) (by decide +kernel)) (fun _ _ _ _ _ => (pg_name (i := 4) sc_is_list.nd rfl (.inl rfl))) (fun _ _ _ _ _ => pts_nil) (fun _ _ _ _ _ => (pe_cmpR op_lt_str (pe_ix (ix_listK K) (pv 1) (pv 4) (fun _ _ => rfl)) (pe_ix (ix_listK K) (pv 1) (pe_op (op_add) (pv 4) pe_int) (fun _ _ => rfl)) (nomark _)))) pa_nil)))) (pss_one (ps_ret pe_bl)) pss_nil)
    (pss_one (ps_ret (pe_callB (cr_allK K rfl) (by rfl) B.all (by decide +kernel) (pa_cons (pe_lc (own := [("letter", 3)]) rfl sc_is_list.nd (pi_str (pe_join pe_str (pv 1))) (blkOk_by (own := [("letter", 3)]) (N := N_is_list) (sc := defScope st_is_list) (by decide +kernel)) (fun _ _ _ _ _ => (pg_name (i := 3) sc_is_list.nd rfl (.inl rfl))) (fun _ _ _ _ _ => pts_nil) (fun _ _ _ _ _ => (pe_cmpR (op_in_seqK K) (pv 3) (pv 1) (by rfl)))) pa_nil))))))), ?_⟩
    refine q_when (et_or (et_not (et_rB (er_isi (er_var rfl ra) (fun _ _ r => ty_tl r) (r := true) (by decide +kernel)))) fun _ => et_or (et_not (et_r (er_between er_int (er_lenT (er_var rfl ra)) er_int))) fun _ =>
      et_not (et_rB (er_all (EvN.r (en_lcA (e' := eBl) (fun _ => true) (src_tup (er_var rfl ra)) (by omega) fun x v H1 hx k r Q q => g_1 (q _ rfl (er_call1 (er_var rfl r) ⟨⟨(g.len x hx).1, (g.len x hx).2, g.abc x hx⟩, g.cst x hx⟩))))))) (fun hb => ?_) (fun _ H1 k1 => ?_)
    · exfalso
      have e1 : decide ((1 : Int) ≤ (ws.length : Int)) = true := decide_eq_true (by omega)
      have e2 : decide ((ws.length : Int) ≤ 8) = true := decide_eq_true (by omega)
      rw [e1, e2, all_true _ _ (fun _ _ => rfl)] at hb
      exact absurd hb (by decide)
    · refine q_asgN (en_lcA (e' := eStr) (fun e => e.1) (src_tup (er_var rfl (eWs.mono k1 ra))) (by omega) fun x v H2 hx k r Q q => g_1 (q _ rfl (er_20 (er_var rfl r)))) fun p H2 hp k2 r2 => ?_
      have r2 : LsAt eStr H2 p (names ws) := r2
      refine q_when (et_not (et_rB (er_all (EvN.r (en_lcA (e' := eBl) (fun i => decide ((names ws).getD i [] < (names ws).getD (i + 1) [])) (src_range1 (n := ws.length - 1) (er_intN (er_sub (er_lenL (er_var rfl r2.r)) er_int) (by rw [hnl]; omega)) (by omega)) (by rw [List.length_range]; omega)
        fun i v H3 hi k r Q q => g_1 (q _ rfl (er_ltS (er_ixLs (er_var rfl (r2.mono k).r) (er_natI (er_var rfl r)) (atI_nat (j := i) ?_)) (er_ixLs (i := ((i + 1 : Nat) : Int)) (er_var rfl (r2.mono k).r) ((er_add (er_natI (er_var rfl r)) er_int).is (by rw [Int.natCast_add]; rfl)) (atI_nat (j := i + 1) ?_)))))))))
        (fun hb => ?_) (fun _ H3 k3 => ?_)
      · have hi := List.mem_range.mp hi
        rw [List.getD_eq_getElem?_getD, List.getElem?_eq_getElem (by omega)]; rfl
      · have hi := List.mem_range.mp hi
        rw [List.getD_eq_getElem?_getD, List.getElem?_eq_getElem (by omega)]; rfl
      · exfalso
        rw [all_true _ _ (fun i hi => ?_)] at hb
        · exact absurd hb (by decide)
        · have hi := List.mem_range.mp hi
          refine decide_eq_true ?_
          have h1 : i < (names ws).length := by omega
          have h2 : i + 1 < (names ws).length := by omega
          rw [List.getD_eq_getElem?_getD, List.getD_eq_getElem?_getD, List.getElem?_eq_getElem h1, List.getElem?_eq_getElem h2]
          exact List.pairwise_iff_getElem.mp g.asc i (i + 1) h1 h2 (by omega)
      · refine s_retR ((er_all (EvN.r (en_lcA (e' := eBl) (fun c => (names ws).contains [c]) (src_str (er_join (ys := names ws) (by decide +kernel) (er_var rfl (r2.mono k3).r) ?_)) ?_ fun c v H4 hc k r Q q =>
          g_1 (q _ rfl (er_inL (er_chr (er_var rfl r)) (er_var rfl ((r2.mono k3).mono k).r)))))).is ?_) fun v H4 k4 r4 => q v H4 (((k1.trans k2).trans k3).trans k4) r4
        · have := sum_len g (fun _ => true)
          rw [List.filter_eq_self.mpr (fun _ _ => rfl)] at this
          exact this
        · have := sum_len g (fun _ => true)
          rw [List.filter_eq_self.mpr (fun _ _ => rfl)] at this
          rw [List.length_flatten]
          have h2 : ((names ws).map (·.length)).sum ≤ 32 := by
            have key : ∀ l : Ws, (∀ e ∈ l, e.1.length ≤ 4) → ((l.map (·.1)).map (·.length)).sum ≤ 4 * l.length := by
              intro l
              induction l with
              | nil => intro _; exact Nat.le_refl _
              | cons e r ih =>
                intro h
                have i1 := ih fun x hx => h x (List.mem_cons_of_mem _ hx)
                have i2 := h e List.mem_cons_self
                rw [List.length_cons, List.map_cons, List.map_cons, List.sum_cons]
                omega
            have := key ws fun e he => (g.len e he).2
            unfold names
            omega
          exact Nat.le_trans h2 (by decide)
        · refine all_true _ _ fun c hc => ?_
          obtain ⟨t, ht, hct⟩ := List.mem_flatten.mp hc
          obtain ⟨e, he, rfl⟩ := mem_names.mp ht
          simpa using g.ltr e he c hct
-- slots: 0=words
abbrev st_check_words : Stmt := top 21
abbrev N_check_words : List Str := ["words"]
theorem sc_check_words : FnScope N_check_words ["words"] (defScope st_check_words) := ⟨rfl, rfl, rfl, by decide +kernel, rfl, by decide +kernel, by decide +kernel⟩
abbrev sp_check : Sp := Pu1 eWs eNon Good (fun _ => ())
theorem ok_check (B : Bl mg) (D : Cst mg) (F : DefAt K mg "check_words" st_check_words ["words"]) (c_is_list : Cal P w K mg base "is_list" 3 ["value"] sp_list) : Cal P w K mg base "check_words" 4 ["words"] sp_check := by
  refine F.cal sc_check_words (fun vs H Q E h => ?_) (fun f cdv A outer s H vs Q E hr h => ?_)
  · obtain ⟨_, _, rfl, _⟩ := h; rfl
  · obtain ⟨va, ws, rfl, ra, g, q⟩ := h
    refine ⟨_, (pss_one (ps_if (pt_not (pt_val (pe_cal c_is_list hr (by decide) (by rfl) (pa_cons (pv 0) pa_nil)))) (pss_one ps_never) pss_nil)), ?_⟩
    exact s_when (et_not (et_rB (er_call1 (er_var rfl ra) g))) (fun hb => absurd hb (by decide)) fun _ H1 k1 => q .non H1 k1 rfl
-- slots: 0=words 1=a 2=b 3=c
abbrev st_check_bound : Stmt := top 32
abbrev N_check_bound : List Str := ["words", "a", "b", "c"]
theorem sc_check_bound : FnScope N_check_bound ["words", "a", "b", "c"] (defScope st_check_bound) := ⟨rfl, rfl, rfl, by decide +kernel, rfl, by decide +kernel, by decide +kernel⟩
def PreB (ws : Ws) (a b c : Int) : Prop := Good ws ∧ (0 ≤ a ∧ a ≤ 1000) ∧ (1 ≤ b ∧ b ≤ 1000) ∧ (0 ≤ c ∧ c ≤ 100000)
abbrev sp_checkb : Sp := Pu4 eWs eInt eInt eInt eNon PreB (fun _ _ _ _ => ())
theorem s_dropR {α : Type} {σ : L2.St} {H : Hp} {te : TE} {D : Ends} {tz : L2.TS} {e : Enc α} {x : α} (h : EvR e te σ H x) (k : ∀ H1, Ex H H1 → tz D σ H1) : tSeq (tDrop te) tz D σ H := h H (Ex.refl H) _ fun _ H1 k1 _ => k H1 k1
theorem ok_checkb (B : Bl mg) (D : Cst mg) (F : DefAt K mg "check_bound" st_check_bound ["words", "a", "b", "c"]) (c_check_words : Cal P w K mg base "check_words" 4 ["words"] sp_check) (c_is_integer : Cal P w K mg base "is_integer" 1 ["value"] sp_integer) :
    Cal P w K mg base "check_bound" 5 ["words", "a", "b", "c"] sp_checkb := by
  refine F.cal sc_check_bound (fun vs H Q E h => ?_) (fun f cdv A outer s H vs Q E hr h => ?_)
  · obtain ⟨_, _, _, _, _, _, _, _, rfl, _⟩ := h; rfl
  · obtain ⟨va, vb, vc, vd, ws, a, b, c, rfl, ra, rb, rc, rd', ⟨g, ha, hb, hc⟩, q⟩ := h
    refine ⟨_, (pss_cons (ps_expr (pe_cal c_check_words hr (by decide) (by rfl) (pa_cons (pv 0) pa_nil)))
    (pss_cons (ps_if (PW.pt (pw_or (pt_not (pt_val (pe_cal c_is_integer hr (by decide) (by rfl) (pa_cons (pv 1) pa_nil)))) (pw_or1 (pt_not (pt_chain op_le op_le pe_int (pv 1) (pe_con1 D.MOST_FACTOR (by rfl))))))) (pss_one ps_never) pss_nil)
    (pss_cons (ps_if (PW.pt (pw_or (pt_not (pt_val (pe_cal c_is_integer hr (by decide) (by rfl) (pa_cons (pv 2) pa_nil)))) (pw_or1 (pt_not (pt_chain op_le op_le pe_int (pv 2) (pe_con1 D.MOST_FACTOR (by rfl))))))) (pss_one ps_never) pss_nil)
    (pss_one (ps_if (PW.pt (pw_or (pt_not (pt_val (pe_cal c_is_integer hr (by decide) (by rfl) (pa_cons (pv 3) pa_nil)))) (pw_or1 (pt_not (pt_chain op_le op_le pe_int (pv 3) (pe_con1 D.MOST_REST (by rfl))))))) (pss_one ps_never) pss_nil))))), ?_⟩
    refine s_dropR (er_call1 (er_var rfl ra) g) fun H1 k1 => ?_
    refine q_when (et_or (et_not (et_rB (er_call1 (er_var rfl (eInt.mono k1 rb)) trivial))) fun _ => et_not (et_r (er_between er_int (er_var rfl (eInt.mono k1 rb)) er_int))) (fun h => ?_) (fun _ H2 k2 => ?_)
    · exfalso; rw [decide_eq_true ha.1, decide_eq_true ha.2] at h; exact absurd h (by decide)
    refine q_when (et_or (et_not (et_rB (er_call1 (er_var rfl (eInt.mono (k1.trans k2) rc)) trivial))) fun _ => et_not (et_r (er_between er_int (er_var rfl (eInt.mono (k1.trans k2) rc)) er_int))) (fun h => ?_) (fun _ H3 k3 => ?_)
    · exfalso; rw [decide_eq_true hb.1, decide_eq_true hb.2] at h; exact absurd h (by decide)
    refine s_when (et_or (et_not (et_rB (er_call1 (er_var rfl (eInt.mono ((k1.trans k2).trans k3) rd')) trivial))) fun _ => et_not (et_r (er_between er_int (er_var rfl (eInt.mono ((k1.trans k2).trans k3) rd')) er_int))) (fun h => ?_) (fun _ H4 k4 => ?_)
    · exfalso; rw [decide_eq_true hc.1, decide_eq_true hc.2] at h; exact absurd h (by decide)
    exact q .non H4 (((k1.trans k2).trans k3).trans k4) rfl
end
end K61

/-! K61D: rules that the layer lacks: a display and a comprehension of a dict with tuple keys, sorted of data, < of pairs of texts; classes by name. -/
namespace K61
open PySem PySem.Spec PyProof.Rows L2 Evl
/-! ### a tuple's key stored -/
section
variable {X : Cx} {pins : List (Addr × Obj)} {σ : L2.St} {H : Hp} {s : Shared}
/-- a fresh state of a tuple-keyed dict is held -/
theorem put_held {h' : Heap} {t' : Nat} {D b : Addr} {kvs : List (List Key × V)} {k : List Key} {v : V} {r : Value} (I : Inv X pins σ H s) (e : H D = some (.dT kvs)) (eb : H b = some (.tup (k.map kV))) (l : kvs.length < sizeLine) (rv : RelV v r)
    {xs : List (List Key × Addr × Value)} (rel : KT H kvs xs) (hd : (D == sysModules) = false) (dd : h'.DictOfH (tupleKind (mixKind X.prog X.w)) D (storedH xs k b r)) (hs : Heap.SameBut D s.heap h') :
    Inv X pins σ (upd H D (.dT (putK kvs k v))) { s with heap := h', toks := t' } := by
  have hl : (putK kvs k v).length ≤ sizeLine := Nat.le_trans (length_putK kvs k v) l
  obtain ⟨o, es, ep, ho, h2, h3, h4, _, h5⟩ := dd
  have still : ∀ c ys, H c = some (.tup ys) → upd H D (.dT (putK kvs k v)) c = some (.tup ys) := fun c ys ec => by
    rw [upd_ne (ne_of ec e (fun z => nomatch z))]; exact ec
  exact d_write I (by rw [e]; exact True.intro) hs ⟨o, ho⟩ ⟨hl, hd, _, (rel.put k eb rv).keeps still, o, es, ep, ho, h2, h3, h4, h5⟩
theorem set_tupleKey {D b : Addr} {kvs : List (List Key × V)} {k : List Key} {v : V} {r : Value} {E : Value → Shared → Prop} {Q : Unit → Shared → Prop} (hu : X.A.units + 1 < cLine) (hroom : (tupleKind (mixKind X.prog X.w)).room X.A) (I : Inv X pins σ H s) (e : H D = some (.dT kvs)) (eb : H b = some (.tup (k.map kV))) (l : kvs.length < sizeLine) (rv : RelV v r)
    (h : ∀ s', Inv X pins σ (upd H D (.dT (putK kvs k v))) s' → Q () s') : wpAny (model X.prog X.w) X.A (dictSet D (.ref b) r) Q E s := by
  obtain ⟨z, hd, xs, rel, dd⟩ := dt_of I.hok e
  have hz : xs.length ≤ sizeLine := by rw [← Paired.length rel]; exact z
  exact wpAny_dictSet_heap (hsz := hz) hroom (key_of I.hok eb) dd fun h' dd' hs => h _ (put_held I e eb l rv rel hd dd' hs)
theorem room_of (hu : X.A.units + 1 < cLine) : (tupleKind (mixKind X.prog X.w)).room X.A := show X.A.units < cLine by omega
end

/-! ### {(a, b): v} -/
def tDispT1 (tk tv : TE) : TE := fun σ H Q => ∀ p, H p = none → tk σ (upd H p (.dT [])) fun y H1 => tv σ H1 fun z H2 => H2 p = some (.dT []) ∧ ∃ b ks, y = .ref b ∧ H2 b = some (.tup (ks.map kV)) ∧ Q (.ref p) (upd H2 p (.dT [(ks, z)]))
theorem pe_dispT1 {X : Cx} {pos : Pos} {k v : Expr} {tk tv : TE} (hu : X.A.units + 1 < cLine) (hk : PE X k tk) (hv : PE X v tv) : PE X (.Dict [some k] [v] pos) (tDispT1 tk tv) := by
  refine ⟨fun pins s σ H Q I q => ?_⟩
  have hnone := I.hok.fresh (Nat.le_refl s.heap.objs.size)
  have I1 := I.laid (a := s.heap.objs.size) (o := .dT []) (h' := s.heap.push { cls := .type "dict", data := .dict #[] }) (t' := s.toks) (fun _ _ q => Heap.get?_push_of_some _ q) (Nat.le_refl _) (dt_empty s.heap I.big)
  have shape : (evalEachOpt [some k] X.env).zip ((evalEach [v] X.env).map fun v => do let x ← v; standAt pos; pure x) = (pairTrees [some k] [v] X.env pos).map fun p => (some p.1, p.2) := zip_pairTrees [some k] [v] X.env pos rfl rfl
  rw [arm_eval_Dict, shape, dictDisplay_pairs (pairTrees [some k] [v] X.env pos) (by intro z; cases z) (by show (1 : Nat) < 17; decide)]
  refine wpAny_bind (wpAny_standAt (wpAny_bind (wpAny_subDictH (knd := tupleKind (mixKind X.prog X.w)) (Q := fun d s' => wpAny (model X.prog X.w) X.A (pure (Value.ref d)) (EP X pins σ Q) X.xe s') (room_of hu) (by show (1 : Nat) ≤ 15; decide)
    (pairTrees_cons_walk (thn (hk.run pins _ σ _ _ I1 (q _ hnone)) fun ku s1 ⟨y, H1, J1, ry, q1⟩ => thn (hv.run pins s1 σ H1 _ J1 q1) fun vu s2 ⟨z, H2, J2, rz, hD, b, ks, hy, hb, q2⟩ => ?_)))))
  subst hy
  cases (show ku = Value.ref b from ry)
  obtain ⟨_, hmod, xs, rel, dd⟩ := dt_of J2.hok hD
  cases rel
  show wpAny _ _ (evalPairs []) _ _ _
  refine wpAny_pure ⟨[(ks, b, vu)], ⟨rfl, rfl, key_of J2.hok hb, trivial⟩, dd, fun h' tk dd' hs => wpAny_pure ⟨.ref s.heap.objs.size, _, ?_, rfl, q2⟩⟩
  exact put_held (kvs := []) J2 hD hb (by decide) rz .nil hmod dd' hs

/-! ### {key: value for target in iter if ..}, the keys tuples -/
def tDcT (wi : TI) (g : TG) (tt : TT) (tk tv : TE) (vs : List Nat) : TE := fun σ H Q => wi σ H fun J H1 => ∀ D, H1 D = none → ∃ W : Nat → Nat → Hp → Prop, (∃ m, W 0 m (upd H1 D (.dT []))) ∧ ∀ i m H, W i m H →
  (J.stop i H ∧ Q (.ref D) H) ∨ (J.go i H ∧ ∃ Nx : Hp → Prop, (∀ H', Nx H' → ∃ m', m' < m ∧ W (i + 1) m' H') ∧ ∀ x H', J.yld i H x H' → g x (wipe σ vs) H' fun σ2 H2 => wipe σ2 vs = wipe σ vs ∧ tt σ2 H2 fun b H3 =>
    if b = true then tk σ2 H3 fun y H4 => tv σ2 H4 fun z H5 => ∃ kvs k a, y = .ref a ∧ H5 a = some (.tup (k.map kV)) ∧ H5 D = some (.dT kvs) ∧ kvs.length < sizeLine ∧ Nx (upd H5 D (.dT (putK kvs k z))) else Nx H3)
section
variable {X : Cx}
/-- what a block's state is worth behind a turn that left the iterator's cells alone -/
theorem blk_back {scope : Scope} {ce : Env} {fp : List Addr} {s3 s7 s' : Shared} {H3 H' : Hp} {σ8 σ0 : L2.St} {P : Program} {w : World} {K : PySem.W.Frag} {tg : Expr} {J : It} {it : Addr} {tn : Nat → Heap → Prop} {i : Nat} (T : Turn P w K tg J fp it tn)
    (I' : Inv (X.blk s3 H3 scope ce fp) ([] ++ pinsAt fp s7.heap) σ8 H' s') (st7 : tn i s7.heap) (hl : σ0.length = σ8.length) (hw : ∀ (i : Nat) v, σ0[i]? = some (some v) → σ8[i]? = some (some v)) :
    Inv (X.blk s3 H3 scope ce fp) [] σ0 H' s' ∧ tn i s'.heap ∧ ∀ b ∈ fp, H' b = none := by
  have stand : ∀ b ∈ fp, ∀ o, s7.heap.get? b = some o → s'.heap.get? b = some o ∧ H' b = none := fun b hb o e => by
    have z := I'.pin (b, o) (by simp [mem_pinsAt hb e])
    exact ⟨z.1, z.2.1⟩
  refine ⟨(Inv.unpinned (pins := []) I').weak hl hw, T.keep _ _ _ st7 fun b hb o e => (stand b hb o e).1, fun b hb => ?_⟩
  obtain ⟨o, e, _⟩ := T.obj _ _ st7 b hb
  exact (stand b hb o e).2
theorem dict_comp {pins : List (Addr × Obj)} {s : Shared} {σ : L2.St} {H : Hp} {Q : VK} {kx vx tg iter : Expr} {ifs : List Expr} {scope : Scope} {own : List (Str × Nat)} {pos pos' : Pos} {wi : TI} {g : TG} {tt : TT} {tk tv : TE} {Qf : Value → Shared → Prop}
    (hu : X.A.units + 1 < cLine) (hc : X.calm = true) (hN : X.N.Nodup) (I : Inv X pins σ H s) (hi : PI X tg iter wi) (ok : BlkOk X.N X.env.scope scope own)
    (hg : ∀ s H C cl fp, PG (X.blk s H scope (compEnvC scope cl C X.env) fp) tg g) (ht : ∀ s H C cl fp, PTs (X.blk s H scope (compEnvC scope cl C X.env) fp) ifs tt)
    (hk : ∀ s H C cl fp, PE (X.blk s H scope (compEnvC scope cl C X.env) fp) kx tk) (he : ∀ s H C cl fp, PE (X.blk s H scope (compEnvC scope cl C X.env) fp) vx tv) (hs : ∀ x, foldedSetIterable iter X.env x = pure x)
    (h : tDcT wi g tt tk tv (own.map (·.2)) σ H Q)
    (leave : ∀ D C s' m H', Inv X pins σ H' s' → Q (.ref D) H' → s'.heap.Ns C m → FpOk X pins H' C → compPost (model X.prog X.w) X.A X.xe none Qf (.ref D) C (.ok .next) s') :
    wpAny (model X.prog X.w) X.A (comprehension (.DictComp kx vx [⟨tg, iter, ifs, 0⟩] scope pos) scope X.env pos' newDict false (eval iter X.env) none) Qf X.xe s := by
  have captured : ∀ y ∈ scope.names, y.2 = .free → ∃ c, X.env.cells.lookup y.1 = some c := fun y hy e => (ok.free y hy e).elim (fun k => I.ok.has _ (.inl k)) fun k => I.ok.has _ (.inr k)
  refine wpAny_comprehension_free (use := none) rfl hs (closure_ok captured) ok.kind (fun y hy e => by rw [ok.uniq y hy, e]) (thn (hi.run pins s σ H _ I h) fun xv s1 hx => thn hx fun itv s2 ⟨it, fp, tn, J, H2, e, I2, T, st2, f2, q⟩ => ?_)
  subst e
  refine wpAny_newObj_type (newEnv_comp ?_)
  -- the dict and the block's frame
  obtain ⟨W, ⟨m0, w0⟩, turn⟩ := q s2.heap.objs.size (I2.hok.fresh (Nat.le_refl _))
  have keeps3 : ∀ b o, s2.heap.get? b = some o → (s2.heap.push { cls := .type "dict", data := .dict #[] }).get? b = some o := fun _ _ e => Heap.get?_push_of_some _ e
  have I3 := I2.laid (a := s2.heap.objs.size) (o := .dT []) (t' := s2.toks) keeps3 (Nat.le_refl _) (dt_empty s2.heap I2.big)
  have f3 : ∀ b ∈ fp, FpOk X pins (upd H2 s2.heap.objs.size (.dT [])) b ∧ b < (s2.heap.push { cls := .type "dict", data := .dict #[] }).objs.size := fun b hb => by
    obtain ⟨o, e, _⟩ := T.obj _ _ st2 b hb
    have lt := Heap.lt_size e
    refine ⟨⟨?_, (f2 b hb).2⟩, by rw [Heap.size_push]; exact Nat.lt_succ_of_lt lt⟩
    rw [upd_ne (Nat.ne_of_lt lt)]
    exact (f2 b hb).1
  have I4 := block_start I3 ok hN f3
  have st4 := T.keep _ _ _ st2 fun b _ o e => pushCells_keeps scope.names _ _ _ (Heap.get?_push_of_some { cls := .type "dict", data := .dict #[] } (keeps3 b o e))
  generalize hs3 : ({ heap := s2.heap.push { cls := .type "dict", data := .dict #[] }, gens := s2.gens, drawn := s2.drawn, toks := s2.toks, os := s2.os } : Shared) = s3 at I3 I4 f3 ⊢
  have e3 : s3.heap = s2.heap.push { cls := .type "dict", data := .dict #[] } := by rw [← hs3]
  rw [← e3] at st4 f3
  generalize hH3 : upd H2 s2.heap.objs.size (.dT []) = H3 at I3 I4 f3 w0
  have pg := hg s3 H3 s3.heap.objs.size (cellsFrom (s3.heap.objs.size + 1) scope.names (cloFrom X.env.cells scope.names [])) fp
  have pt := ht s3 H3 s3.heap.objs.size (cellsFrom (s3.heap.objs.size + 1) scope.names (cloFrom X.env.cells scope.names [])) fp
  have pk := hk s3 H3 s3.heap.objs.size (cellsFrom (s3.heap.objs.size + 1) scope.names (cloFrom X.env.cells scope.names [])) fp
  have pe := he s3 H3 s3.heap.objs.size (cellsFrom (s3.heap.objs.size + 1) scope.names (cloFrom X.env.cells scope.names [])) fp
  show codeAny _ _ (.compStart (.DictComp kx vx [⟨tg, iter, ifs, 0⟩] scope pos) 0 (.ref it) (.ref s2.heap.objs.size) (compEnvC scope (cellsFrom (s3.heap.objs.size + 1) scope.names (cloFrom X.env.cells scope.names [])) s3.heap.objs.size X.env))
    (compPost (model X.prog X.w) X.A X.xe none Qf (.ref s2.heap.objs.size) s3.heap.objs.size) _
  generalize hce : compEnvC scope (cellsFrom (s3.heap.objs.size + 1) scope.names (cloFrom X.env.cells scope.names [])) s3.heap.objs.size X.env = ce at I4 pg pt pk pe ⊢
  have frame : ce.locals = s3.heap.objs.size := by rw [← hce]; rfl
  have cells : ∀ {σ' : L2.St} {H' : Hp} {s' : Shared}, Inv (X.blk s3 H3 scope ce fp) [] σ' H' s' → (∀ b ∈ fp, H' b = none) → ∀ b ∈ fp, FpOk (X.blk s3 H3 scope ce fp) [] H' b := fun {σ' H' s'} I' hn b hb =>
    ⟨hn b hb, (I'.ok.exf b hb).1, I'.ok.exfs b hb, .inl hb, fun x c e => (I'.ok.exf b hb).2 x c e, fun p hp => by cases hp⟩
  have hroom : (tupleKind (mixKind (X.blk s3 H3 scope ce fp).prog (X.blk s3 H3 scope ce fp).w)).room (X.blk s3 H3 scope ce fp).A := room_of (X := X.blk s3 H3 scope ce fp) hu
  have whole : codeAny (model X.prog X.w) X.A (.compLoop (.DictComp kx vx [⟨tg, iter, ifs, 0⟩] scope pos) 0 (.ref it) (.ref s2.heap.objs.size) ce) (compPost (model X.prog X.w) X.A X.xe none Qf (.ref s2.heap.objs.size) s3.heap.objs.size)
      { s3 with heap := pushCells (s3.heap.push { cls := .type "dict", data := .dict #[] }) scope.names } := by
    refine compLoop_anyD (fun n s' => ∃ i H', (Inv (X.blk s3 H3 scope ce fp) [] (wipe σ (own.map (·.2))) H' s' ∧ tn i s'.heap ∧ ∀ b ∈ fp, H' b = none) ∧ W i n H') ?_ m0 ⟨0, H3, ⟨I4, by rw [e3] at st4; rw [e3]; exact st4, fun b hb => (f3 b hb).1.1⟩, w0⟩
    rintro n s5 ⟨i, H5, ⟨I5, st5, n5⟩, w5⟩
    rcases turn i n H5 w5 with ⟨stop, qq⟩ | ⟨go, Nx, hNx, step⟩
    · refine thnF (T.done (X.blk s3 H3 scope ce fp) rfl rfl rfl hc i [] s5 _ H5 (fun _ _ => False) I5 (cells I5 n5) st5 stop) fun r s6 ⟨hr, I6⟩ => ?_
      subst hr
      have I7 : Inv X pins σ H5 s6 := I3.call' (ch := fp) I6.os I6.base I6.hok I6.bare fun b hb => let z := (f3 b hb).1; ⟨z.2.2.2.1, z.2.1, z.2.2.2.2.1, z.2.2.2.2.2⟩
      obtain ⟨m, hn, _⟩ := I6.loc
      have hn : s6.heap.Ns ce.locals m := hn
      have nC : H5 ce.locals = none := I6.free
      rw [frame] at hn nC
      exact leave _ _ s6 m H5 I7 qq hn (I3.fpOk (Nat.le_refl _) nC)
    · refine thnF (T.item (X.blk s3 H3 scope ce fp) rfl rfl rfl hc i [] s5 _ H5 (fun _ _ => False) I5 (cells I5 n5) st5 go) fun r s6 ⟨u, hr, h6⟩ => ?_
      subst hr
      refine thnF h6 fun _ s7 ⟨x, H7, I7, r7, y7, st7, n7⟩ => ?_
      refine thnF (pg.run _ s7 _ H7 x u _ (I7.pinned (cells I7 n7) (T.obj _ _ st7)) r7 (step x H7 y7)) fun _ s8 ⟨σ8, H8, I8, hw8, q8⟩ => ?_
      have lens : (wipe σ (own.map (·.2))).length = σ8.length := by rw [← hw8, wipe_length]
      have slots : ∀ (i : Nat) v, (wipe σ (own.map (·.2)))[i]? = some (some v) → σ8[i]? = some (some v) := fun j v e => by
        rw [← hw8] at e
        exact (wipe_some e).1
      have fin : ∀ {s' : Shared} {H' : Hp}, Inv (X.blk s3 H3 scope ce fp) ([] ++ pinsAt fp s7.heap) σ8 H' s' → Nx H' → ∃ m, m < n ∧ ∃ i H', (Inv (X.blk s3 H3 scope ce fp) [] (wipe σ (own.map (·.2))) H' s' ∧ tn i s'.heap ∧ ∀ b ∈ fp, H' b = none) ∧ W i m H' := fun {s' H'} I' nx => by
        obtain ⟨m', hm, w'⟩ := hNx H' nx
        exact ⟨m', hm, i + 1, H', blk_back T I' st7 lens slots, w'⟩
      refine thnF (pt.run _ s8 σ8 H8 _ I8 q8) fun b s9 ⟨H9, I9, q9⟩ => ?_
      cases b with
      | false =>
        rw [if_neg (by decide)] at q9
        rw [if_neg (by decide)]
        exact fin I9 q9
      | true =>
        rw [if_pos rfl] at q9
        rw [if_pos rfl]
        refine thnF (pk.run _ s9 σ8 H9 _ I9 q9) fun ku s10 ⟨y, H10, I10, r10, q10⟩ => thnF (pe.run _ s10 σ8 H10 _ I10 q10) fun vu s11 ⟨z, H11, I11, r11, kvs, ks, a, hy, hb, hD, hz, nx⟩ => ?_
        subst hy
        cases (show ku = Value.ref a from r10)
        exact set_tupleKey (X := X.blk s3 H3 scope ce fp) hu hroom I11 hD hb hz r11 fun s12 I12 => fin I12 nx
  exact codeAny_compStart_dict whole (T.self X.A 0 _ _ _ (by rw [e3]; rw [e3] at st4; exact st4) whole)
end
end K61

/-! K61E: the rest of the own rules: the comprehension as a value, < of pairs of texts, sorted of data, classes by name; dicts as data. -/
namespace K61
open PySem PySem.Spec PyProof.Rows L2 Evl
section
variable {X : Cx}
theorem pe_dcT {kx vx tg iter : Expr} {ifs : List Expr} {scope : Scope} {own : List (Str × Nat)} {pos : Pos} {wi : TI} {g : TG} {tt : TT} {tk tv : TE} (hu : X.A.units + 1 < cLine) (hc : X.calm = true) (hN : X.N.Nodup) (hi : PI X tg iter wi) (ok : BlkOk X.N X.env.scope scope own)
    (hg : ∀ (s : Shared) (H : Hp) (C : Addr) (cl : List (Str × Addr)) (fp : List Addr), PG (X.blk s H scope (compEnvC scope cl C X.env) fp) tg g) (ht : ∀ (s : Shared) (H : Hp) (C : Addr) (cl : List (Str × Addr)) (fp : List Addr), PTs (X.blk s H scope (compEnvC scope cl C X.env) fp) ifs tt)
    (hk : ∀ (s : Shared) (H : Hp) (C : Addr) (cl : List (Str × Addr)) (fp : List Addr), PE (X.blk s H scope (compEnvC scope cl C X.env) fp) kx tk) (he : ∀ (s : Shared) (H : Hp) (C : Addr) (cl : List (Str × Addr)) (fp : List Addr), PE (X.blk s H scope (compEnvC scope cl C X.env) fp) vx tv)
    (hs : ∀ x, foldedSetIterable iter X.env x = pure x := by intro _; rfl) : PE X (.DictComp kx vx [⟨tg, iter, ifs, 0⟩] scope pos) (tDcT wi g tt tk tv (own.map (·.2))) :=
  ⟨fun pins s σ H Q I h => by
    rw [arm_eval_DictComp]
    refine dict_comp hu hc hN I hi ok hg ht hk he hs h fun D C s' m H' I' q hn ⟨f0, f1, f2, f3, f4, f5⟩ => ⟨m, hn, fun h'' sb => ⟨.ref D, H', ?_, rfl, q⟩⟩
    exact I'.turned (t' := s'.toks) (fun b o hb e => (sb.2 b hb).trans e) f0 f1 f3 f4 f5⟩

/-! ### < of two pairs of texts -/
def rLtP : R2 := fun x y H Q => ∃ (a b : Addr) (s1 s2 t1 t2 : Str), x = .ref a ∧ y = .ref b ∧ H a = some (.tup [.str s1, .str s2]) ∧ H b = some (.tup [.str t1, .str t2]) ∧
  Q (.bl (if s1 = t1 then (if s2 = t2 then false else decide (s2.cps.toList < t2.cps.toList)) else decide (s1.cps.toList < t1.cps.toList))) H
theorem op_ltP0 (hu : X.A.units < cLine) : OpR X (compareOp .Lt) rLtP := by
  intro pins s σ H x y v u Q I rx ry ⟨a, b, s1, s2, t1, t2, ex, ey, ha, hb, q⟩
  subst ex ey
  cases (show v = Value.ref a from rx)
  cases (show u = Value.ref b from ry)
  obtain ⟨its, r1, p1, _⟩ := I.tuple (SqT.of ha)
  obtain ⟨its2, r2, p2, _⟩ := I.tuple (SqT.of hb)
  obtain ⟨u1, u2, rfl, ⟨k1, rfl⟩, ⟨k2, rfl⟩⟩ := vals2 r1
  obtain ⟨w1, w2, rfl, ⟨k3, rfl⟩, ⟨k4, rfl⟩⟩ := vals2 r2
  have R := Ob.RcOp.tuples_lt (A := X.A) (s := s) (e := fun j => if j = 0 then (s1 == t1) else (s2 == t2)) (r := fun j => if j = 0 then decide (s1.cps.toList < t1.cps.toList) else decide (s2.cps.toList < t2.cps.toList)) p1 p2 hu
    (fun j h1 h2 => by
      have h1 : j < 2 := h1
      match j, h1 with
      | 0, _ => exact SeqAt.EqAt.str_str _ _ _ _
      | 1, _ => exact SeqAt.EqAt.str_str _ _ _ _)
    (fun j h1 h2 _ => by
      have h1 : j < 2 := h1
      match j, h1 with
      | 0, _ => exact fun prog w E Q h => DT.rcLt_str _ _ _ _ _ _ _ _ _ _ h
      | 1, _ => exact fun prog w E Q h => DT.rcLt_str _ _ _ _ _ _ _ _ _ _ h)
  have z : wpAny (model X.prog X.w) X.A (compareOp .Lt (.ref a) (.ref b)) (EP X pins σ Q) X.xe s := R X.prog X.w X.xe (EP X pins σ Q) ⟨.bl _, H, I, rfl, ?_⟩
  · exact z
  · have e : Ob.lexAt (fun j => if j = 0 then (s1 == t1) else (s2 == t2)) (fun j => if j = 0 then decide (s1.cps.toList < t1.cps.toList) else decide (s2.cps.toList < t2.cps.toList)) (decide ((2 : Nat) < 2)) 0 2 =
        (if s1 = t1 then (if s2 = t2 then false else decide (s2.cps.toList < t2.cps.toList)) else decide (s1.cps.toList < t1.cps.toList)) := by
      show (if (s1 == t1) = true then (if (s2 == t2) = true then false else decide (s2.cps.toList < t2.cps.toList)) else decide (s1.cps.toList < t1.cps.toList)) = _
      simp only [beq_iff_eq]
    show Q (.bl (Ob.lexAt _ _ (decide ((2 : Nat) < 2)) 0 2)) H
    rw [e]
    exact q
theorem op_ltP {k : Nat} (hr : Room k X.A) : OpR X (compareOp .Lt) rLtP := op_ltP0 hr.units0
end

/-! ### sorted of data, of a list or a tuple -/
section
open PySem.W
variable {prog : Program} {w : World} {A : Around} {E : Value → Shared → Prop} {s : Shared} {β : Type}
theorem sorted_seq {it : Addr} {T : String} {o : Obj} {vs : List Value} {n : Nat} {bs : List β} {enc : β → PyData} {R : Value → β → Prop} {Q : Value → Shared → Prop} (hT : T = "list" ∨ T = "tuple") (ho : s.heap.get? it = some o) (hc : o.cls = .type T) (hd : o.data = .seq vs.toArray n)
    (e : EachIs R vs bs) (er : EachIs (fun v b => ∃ as, Reads s.heap v (enc b) as) vs bs) (hal : AllAlike (bs.map enc)) (hk : Sortable (bs.map enc)) (hL : bs.length ≤ sizeLine) (hu : ∀ b, b ∈ bs → A.units + 2 + (enc b).depth < cLine)
    (h : ∀ (h1 h' : Heap) (out : List Value) (c : Nat), (∀ b o, s.heap.get? b = some o → h1.get? b = some o) → (∀ b o, h1.get? b = some o → h'.get? b = some o) → h'.get? h1.objs.size = some { cls := .type "list", data := .seq out.toArray c } → EachIs R out (bs.mergeSort (dataLe false enc)) → Q (.ref h1.objs.size) { s with heap := h' }) :
    wpAny (model prog w) A (call (.builtin "sorted") [.ref it]) Q E s := by
  have hvl : vs.length ≤ sizeLine := by rw [e.length]; exact hL
  refine Calls.call_function_entry kind_sorted plain_sorted entry_sorted (args_sorted1 _) ?_
  unfold Builtin.«sorted»
  refine wpAny_bind (m := checkCount "sorted" 1 1 _) (wpAny_pure ?_)
  refine wpAny_bind (wpAny_collect_seq it hT ho hc hd (fun h1 k1 => ?_) (by simpa using hvl))
  refine wpAny_bind (wpAny_newList ?_ (by simpa using hvl))
  have same : vs.toArray.toList = vs := by simp
  rw [same]
  have k2 : ∀ b o, s.heap.get? b = some o → (h1.push { cls := .type "list", data := .seq vs.toArray }).get? b = some o := fun b o q => Heap.get?_push_of_some _ (k1 b o q)
  have at1 : (h1.push { cls := .type "list", data := .seq vs.toArray }).get? h1.objs.size = some (seqObj "list" vs.toArray 0) := Heap.get?_push_size _ rfl
  refine wpAny_bind (wpAny_holding (list_sort_data (bs := bs) (enc := enc) (R := R) at1 e ?_ hal hk hL (fun b hb => ?_) fun out _ hout => ?_))
  · refine er.mono fun v b ⟨as, r⟩ => ⟨as, PyProof.Rows.Reads.keeps k2 r, fun hm => ?_⟩
    obtain ⟨o', q⟩ := PyProof.On.reads_mem_get r _ hm
    exact absurd (Heap.lt_size (k1 _ _ q)) (Nat.lt_irrefl _)
  · have := hu b hb
    show A.units + 1 + 1 + _ < _
    omega
  · obtain ⟨c, hc'⟩ := sortedHeap_at (out := out.toArray) at1
    refine wpAny_pure ⟨_, rfl, h h1 _ out c k1 (fun b o q => ?_) hc' hout⟩
    have lt := Heap.lt_size q
    refine (sortedHeap_old (Nat.ne_of_lt lt) (by rw [Heap.size_push]; exact Nat.lt_succ_of_lt lt)).trans (Heap.get?_push_of_some _ q)
end
/-- sorted(a list or a tuple that stands), told by its values with their data -/
def rSortD (K : PySem.W.Frag) : List V → Hp → VK → Prop := fun vs H Q => ∃ (a : Addr) (zs : List (V × PyData)), vs = [.ref a] ∧ (SqL K H a (zs.map (·.1)) ∨ SqT K H a (zs.map (·.1))) ∧ (∀ z ∈ zs, Dp K H z.1 z.2) ∧
  PySem.W.AllAlike (zs.map (·.2)) ∧ PySem.W.Sortable (zs.map (·.2)) ∧ zs.length ≤ sizeLine ∧ (∀ z ∈ zs, z.2.depth ≤ 8) ∧
  ∀ p, H p = none → Q (.ref p) (upd H p (.lst ((zs.mergeSort (PySem.W.dataLe false (·.2))).map (·.1))))
theorem each_vals {K : PySem.W.Frag} : ∀ {zs : List (V × PyData)} {us : List Value}, Vals (zs.map (·.1)) us → PySem.W.EachIs (fun (u : Value) (z : V × PyData) => RelV z.1 u) us zs
  | [], _, h => by cases h; exact .nil
  | z :: zs, _, h => by
    cases h with
    | cons r t => exact .cons r (each_vals (K := K) t)
theorem vals_each {zs : List (V × PyData)} {us : List Value} (h : PySem.W.EachIs (fun (u : Value) (z : V × PyData) => RelV z.1 u) us zs) : Vals (zs.map (·.1)) us := by
  induction h with
  | nil => exact .nil
  | cons r _ ih => exact .cons r ih
theorem each_reads {X : Cx} {pins : List (Addr × Obj)} {σ : L2.St} {H : Hp} {s : Shared} (I : Inv X pins σ H s) : ∀ {zs : List (V × PyData)} {us : List Value}, PySem.W.EachIs (fun (u : Value) (z : V × PyData) => RelV z.1 u) us zs → (∀ z ∈ zs, Dp X.K H z.1 z.2) →
    PySem.W.EachIs (fun (u : Value) (z : V × PyData) => ∃ as, Reads s.heap u z.2 as) us zs
  | _, _, .nil, _ => .nil
  | _, _, .cons r t, h => .cons (Dp.reads I _ _ _ (h _ List.mem_cons_self) r) (each_reads I t fun z hz => h z (List.mem_cons_of_mem _ hz))
theorem cr_sortedD {X : Cx} {k : Nat} (hr : Room k X.A) : CallR X (.builtin "sorted") (rSortD X.K) := by
  intro pins s σ H xs us Q I r ⟨a, zs, hxs, hsq, hdp, hal, hk, hL, hdep, q⟩
  subst hxs
  have := Vals.ref1 r
  subst this
  have main : ∀ (its : List Value) (T : String) (o : Obj) (n : Nat), Vals (zs.map (·.1)) its → (T = "list" ∨ T = "tuple") → s.heap.get? a = some o → o.cls = .type T → o.data = .seq its.toArray n → wpAny (model X.prog X.w) X.A (call (.builtin "sorted") [.ref a]) (EP X pins σ Q) X.xe s := by
    intro its T o n rv hT ho hc hd
    have e := each_vals (K := X.K) rv
    refine sorted_seq hT ho hc hd e (each_reads I e hdp) hal hk hL (fun b hb => ?_) fun h1 h' out c k1 k2 hat hout => ?_
    · have h1 := hdep b hb
      have h2 := hr.units
      have : X.A.units + 2 + b.2.depth ≤ X.A.units + 64 := by omega
      exact Nat.lt_of_le_of_lt this h2
    · have I1 : Inv X pins σ H { s with heap := h1 } := I.kept k1
      have hl : ((zs.mergeSort (PySem.W.dataLe false (·.2))).map (·.1)).length ≤ sizeLine := by rw [List.length_map, List.length_mergeSort]; exact hL
      exact ⟨.ref h1.objs.size, _, I1.laid (t' := s.toks) (o := .lst ((zs.mergeSort (PySem.W.dataLe false (·.2))).map (·.1))) k2 (Nat.le_refl _) ⟨hl, out, c, vals_each hout, hat⟩, rfl, q _ (I1.hok.fresh (Nat.le_refl _))⟩
  rcases hsq with hsq | hsq
  · obtain ⟨its, rv, ⟨o, n, ho, hc, _, hd⟩, _⟩ := I.list hsq
    exact main its "list" o n rv (.inl rfl) ho hc hd
  · obtain ⟨its, rv, ⟨o, ho, hc, n, hd⟩, _⟩ := I.tuple hsq
    exact main its "tuple" o n rv (.inr rfl) ho hc hd
theorem cr_sortedDK {X : Cx} {k : Nat} (K : PySem.W.Frag) (hr : Room k X.A) (h : X.K = K := by rfl) : CallR X (.builtin "sorted") (rSortD K) := h ▸ cr_sortedD hr
/-! ### classes and methods by name -/
section
variable {P : Program} {w : World} {K : PySem.W.Frag} {mg : Str → Option Value} {base : Heap}
structure MethAt (K : PySem.W.Frag) (C : Addr) (m qual : Str) (st : Stmt) (ps : List Str) : Prop where
  ex : ∃ f fd, Fun K m qual st f fd ∧ Meth K C m f ∧ Binds K fd ps []
structure InitAt (K : PySem.W.Frag) (mg : Str → Option Value) (x : Str) (C : Addr) (qual : Str) (st : Stmt) (ps : List Str) : Prop where
  ex : ∃ f fd, Fun K "__init__" qual st f fd ∧ Mk K C f ∧ mg x = some (.ref C) ∧ Binds K fd ps []
structure CalM (P : Program) (w : World) (K : PySem.W.Frag) (mg : Str → Option Value) (base : Heap) (C : Addr) (m : Str) (k : Nat) (ps : List Str) (sp : Sp) : Prop where
  ex : ∃ f fd, FnOk P w K mg base CX0 k f fd ps sp ∧ Meth K C m f ∧ Binds K fd ps []
structure New (P : Program) (w : World) (K : PySem.W.Frag) (mg : Str → Option Value) (base : Heap) (x : Str) (C : Addr) (k : Nat) (ps : List Str) (sp : Sp) : Prop where
  ex : ∃ f fd, FnOk P w K mg base CX0 k f fd ps sp ∧ Mk K C f ∧ mg x = some (.ref C) ∧ Binds K fd ps []
theorem MethAt.cal {C : Addr} {m qual : Str} {st : Stmt} {N ps : List Str} {k : Nat} {sp : Sp} (F : MethAt K C m qual st ps) (S : FnScope N ps (defScope st)) (len : ∀ vs H Q E, sp vs H Q E → vs.length = ps.length)
    (hbody : ∀ (f : Addr) (cdv : Value) (A : Around) (outer : List Env) (s : Shared) (H : Hp) (vs : List V) (Q : VK) (E : XK), Room k (A.deeper (envOfC qual (defScope st) s.heap.objs.size f cdv)) → sp vs H Q E →
      ∃ t, PSs (cxOf CX0 P w K mg base N qual (defScope st) f cdv A outer s H E).nox (defBody st) t ∧ t { nx := fun _ H' => Q .non H', rt := Q } (start N vs) H) : CalM P w K mg base C m (k + 1) ps sp := by
  obtain ⟨f, fd, F, hm, hb⟩ := F.ex
  exact ⟨f, fd, F.ok S len (hbody f), hm, hb⟩
theorem InitAt.new {x : Str} {C : Addr} {qual : Str} {st : Stmt} {N ps : List Str} {k : Nat} {sp : Sp} (F : InitAt K mg x C qual st ps) (S : FnScope N ps (defScope st)) (len : ∀ vs H Q E, sp vs H Q E → vs.length = ps.length)
    (hbody : ∀ (f : Addr) (cdv : Value) (A : Around) (outer : List Env) (s : Shared) (H : Hp) (vs : List V) (Q : VK) (E : XK), Room k (A.deeper (envOfC qual (defScope st) s.heap.objs.size f cdv)) → sp vs H Q E →
      ∃ t, PSs (cxOf CX0 P w K mg base N qual (defScope st) f cdv A outer s H E).nox (defBody st) t ∧ t { nx := fun _ H' => Q .non H', rt := Q } (start N vs) H) : New P w K mg base x C (k + 1) ps sp := by
  obtain ⟨f, fd, F, hm, hg, hb⟩ := F.ex
  exact ⟨f, fd, F.ok S len (hbody f), hm, hg, hb⟩
end
section
variable {X : Cx}
theorem pe_calM {C : Addr} {m : Str} {k j : Nat} {ps : List Str} {sp : Sp} {o e : Expr} {es : List Expr} {ta : TE} {t : TA} {apos pos : Pos} {pl : Sem Bool} (cl : Cls X.K C) (c : CalM X.prog X.w X.K X.mg X.base C m k ps sp) (hr : Room j X.A) (hk : k ≤ j) (he : PE X o ta) (ha : PA X (e :: es) t)
    (hst : starEach (e :: es) X.env = (false, eval e X.env) :: starEach es X.env := by rfl) (hpl : (backTo pos (starEach es X.env)).any (·.1) = false := by rfl)
    (ht : eval (.Call (.Attribute o m apos) (e :: es) [] pos) X.env = (do
      let ov ← eval o X.env
      standAt apos.atName
      let (f, first) ← holding [ov] (getMethod ov m pl)
      callWith pos f first (backTo pos (starEach (e :: es) X.env)) (backToKw pos (keywordEach [] X.env))) := by rfl) :
    PE X (.Call (.Attribute o m apos) (e :: es) [] pos) (tMeth C m sp [] E0 ta t) := by
  obtain ⟨f, fd, F, hm, hb⟩ := c.ex
  exact pe_meth (pl := pl) he cl hm F (hr.mono hk) hb .nil pass0 ha hst hpl ht
theorem pe_calM0 {C : Addr} {m : Str} {k j : Nat} {ps : List Str} {sp : Sp} {o : Expr} {ta : TE} {apos pos : Pos} {pl : Sem Bool} (cl : Cls X.K C) (c : CalM X.prog X.w X.K X.mg X.base C m k ps sp) (hr : Room j X.A) (hk : k ≤ j) (he : PE X o ta)
    (ht : eval (.Call (.Attribute o m apos) [] [] pos) X.env = (do
      let ov ← eval o X.env
      standAt apos.atName
      let (f, first) ← holding [ov] (getMethod ov m pl)
      callWith pos f first (backTo pos (starEach [] X.env)) (backToKw pos (keywordEach [] X.env))) := by rfl) :
    PE X (.Call (.Attribute o m apos) [] [] pos) (tMeth C m sp [] E0 ta tNil) := by
  obtain ⟨f, fd, F, hm, hb⟩ := c.ex
  exact pe_meth0 (pl := pl) he cl hm F (hr.mono hk) hb .nil pass0 ht
theorem pe_new {x : Str} {C : Addr} {k j : Nat} {ps : List Str} {sp : Sp} {e : Expr} {es : List Expr} {t : TA} {p pos : Pos} (c : New X.prog X.w X.K X.mg X.base x C k ps sp) (hr : Room j X.A) (hk : k + 1 ≤ j) (hg : Gl X x) (ha : PA X (e :: es) t)
    (hdb : (x == ("__debug__" : Str)) = false := by decide) (he : starEach (e :: es) X.env = (false, eval e X.env) :: starEach es X.env := by rfl) (hpl : (backTo pos (starEach es X.env)).any (·.1) = false := by rfl) :
    PE X (.Call (.Name x p) (e :: es) [] pos) (tMake C sp [] E0 t) := by
  obtain ⟨f, fd, F, hm, hgl, hb⟩ := c.ex
  exact pe_make hm F (hr.mono hk) hg hgl hb .nil pass0 ha hdb he hpl
end

/-! ### dicts of pairs as data -/
abbrev Dc := List ((Tx × Tx) × Int)
def kO (p : Tx × Tx) : List Key := [Sum.inr (ss p.1), Sum.inr (ss p.2)]
theorem kO_inj {p q : Tx × Tx} (h : kO p = kO q) : p = q := by
  unfold kO at h
  injection h with h1 h2
  injection h2 with h2 _
  injection h1 with h1
  injection h2 with h2
  exact Prod.ext (ss_inj h1) (ss_inj h2)
def encD (D : Dc) : List (List Key × V) := D.map (fun z => (kO z.1, V.int z.2))
def lookD (D : Dc) (p : Tx × Tx) : Option Int := (D.find? (fun z => decide (z.1 = p))).map (·.2)
def putD (D : Dc) (p : Tx × Tx) (v : Int) : Dc := if D.any (fun z => decide (z.1 = p)) = true then D.map (fun z => if z.1 = p then (z.1, v) else z) else D ++ [(p, v)]
theorem dec_kO (p q : Tx × Tx) : decide (kO p = kO q) = decide (p = q) := Bool.eq_iff_iff.mpr (by simp; exact ⟨kO_inj, fun h => h ▸ rfl⟩)
theorem valV_enc (D : Dc) (p : Tx × Tx) : valV (encD D) (kO p) = (lookD D p).map V.int := by
  unfold valV lookD encD
  induction D with
  | nil => rfl
  | cons z r ih =>
    rw [List.map_cons, List.find?_cons, List.find?_cons, dec_kO]
    cases decide (z.1 = p) with
    | true => rfl
    | false => exact ih
theorem put_enc (D : Dc) (p : Tx × Tx) (v : Int) : putK (encD D) (kO p) (V.int v) = encD (putD D p v) := by
  have h1 : ((encD D).any fun kv => decide (kv.1 = kO p)) = D.any (fun z => decide (z.1 = p)) := by
    unfold encD
    induction D with
    | nil => rfl
    | cons z r ih => rw [List.map_cons, List.any_cons, List.any_cons, ih, dec_kO]
  unfold putK putD
  rw [h1]
  split
  · unfold encD
    rw [List.map_map, List.map_map]
    refine List.map_congr_left fun z _ => ?_
    show (if kO z.1 = kO p then (kO z.1, V.int v) else (kO z.1, V.int z.2)) = (kO (if z.1 = p then (z.1, v) else z).1, V.int (if z.1 = p then (z.1, v) else z).2)
    by_cases h : z.1 = p
    · rw [if_pos h, if_pos (h ▸ rfl)]
    · rw [if_neg h, if_neg fun q => h (kO_inj q)]
  · unfold encD
    rw [List.map_append]
    rfl
theorem look_put (D : Dc) (p q : Tx × Tx) (v : Int) : lookD (putD D p v) q = if q = p then some v else lookD D q := by
  have h := valV_put (encD D) (kO p) (kO q) (V.int v)
  rw [put_enc, valV_enc, valV_enc] at h
  by_cases e : q = p
  · subst e
    rw [if_pos rfl] at h
    rw [if_pos rfl]
    cases hl : lookD (putD D q v) q with
    | none => rw [hl] at h; cases h
    | some x =>
      rw [hl] at h
      injection h with h
      injection h with h
      rw [h]
  · rw [if_neg fun z => e (kO_inj z)] at h
    rw [if_neg e]
    cases hl : lookD (putD D p v) q with
    | none =>
      rw [hl] at h
      cases h2 : lookD D q with
      | none => rfl
      | some x => rw [h2] at h; cases h
    | some x =>
      rw [hl] at h
      cases h2 : lookD D q with
      | none => rw [h2] at h; cases h
      | some y =>
        rw [h2] at h
        injection h with h
        injection h with h
        rw [h]
theorem putD_len (D : Dc) (p : Tx × Tx) (v : Int) : (putD D p v).length ≤ D.length + 1 := by
  unfold putD
  split
  · rw [List.length_map]; omega
  · rw [List.length_append]; exact Nat.le_refl _
theorem putD_keys (D : Dc) (p : Tx × Tx) (v : Int) : (putD D p v).map (·.1) = if p ∈ D.map (·.1) then D.map (·.1) else D.map (·.1) ++ [p] := by
  have h1 : D.any (fun z => decide (z.1 = p)) = true ↔ p ∈ D.map (·.1) := by
    rw [List.any_eq_true, List.mem_map]
    constructor
    · rintro ⟨z, hz, h⟩; exact ⟨z, hz, of_decide_eq_true h⟩
    · rintro ⟨z, hz, h⟩; exact ⟨z, hz, decide_eq_true h⟩
  unfold putD
  split
  · rename_i h
    rw [if_pos (h1.mp h), List.map_map]
    refine List.map_congr_left fun z _ => ?_
    show (if z.1 = p then (z.1, v) else z).1 = z.1
    split <;> rfl
  · rename_i h
    rw [if_neg fun q => h (h1.mpr q), List.map_append]
    rfl
theorem look_mem {D : Dc} {p : Tx × Tx} {x : Int} (h : lookD D p = some x) : (p, x) ∈ D := by
  unfold lookD at h
  obtain ⟨z, h1, h2⟩ := Option.map_eq_some_iff.mp h
  have h3 := List.find?_some h1
  have h4 := List.mem_of_find?_eq_some h1
  have h5 : z.1 = p := of_decide_eq_true h3
  rw [← h5, ← h2]
  exact h4
theorem mem_look {D : Dc} (nd : (D.map (·.1)).Nodup) {p : Tx × Tx} {x : Int} (h : (p, x) ∈ D) : lookD D p = some x := by
  unfold lookD
  induction D with
  | nil => cases h
  | cons z r ih =>
    rw [List.map_cons, List.nodup_cons] at nd
    rw [List.find?_cons]
    rcases List.mem_cons.mp h with e | h
    · subst e
      simp
    · have hne : decide (z.1 = p) = false := decide_eq_false fun q => nd.1 (q ▸ List.mem_map.mpr ⟨_, h, rfl⟩)
      rw [hne]
      exact ih nd.2 h
abbrev ePr : Enc (Tx × Tx) := e2 eStr eStr
def eDc : Enc Dc := ⟨fun H v D => ∃ d, v = .ref d ∧ H d = some (.dT (encD D)), fun e h => let ⟨d, h1, h2⟩ := h; ⟨d, h1, e _ _ h2⟩⟩
section
variable {σ : L2.St} {H : Hp} {td ty tv : TE} {D : Ends} {tz : L2.TS}
theorem key_tup {H : Hp} {v : V} {p : Tx × Tx} (h : ePr.R H v p) : ∃ b, v = .ref b ∧ H b = some (.tup ((kO p).map kV)) := by
  obtain ⟨b, x, y, rfl, h2, h3, h4⟩ := h
  cases h3; cases h4
  exact ⟨b, rfl, h2⟩
theorem er_dget {d : Dc} {p : Tx × Tx} {x : Int} (hd : EvR eDc td σ H d) (hy : EvR ePr ty σ H p) (hx : lookD d p = some x) : EvR eInt (tDGet td ty) σ H x := fun H1 k Q q =>
  hd H1 k _ fun v H2 k2 rv => hy H2 (k.trans k2) _ fun u H3 k3 ru => by
    obtain ⟨a, rfl, ha⟩ := rv
    obtain ⟨b, rfl, hb⟩ := key_tup ru
    refine ⟨a, .int x, rfl, ?_, q _ H3 (k2.trans k3) rfl⟩
    have := DGet.t (k3 _ _ ha) hb
    rw [valV_enc, hx] at this
    exact this
theorem er_din {d : Dc} {p : Tx × Tx} (hd : EvR eDc td σ H d) (hy : EvR ePr ty σ H p) : EvR eBl (tDIn ty td) σ H (lookD d p).isSome := fun H1 k Q q =>
  hy H1 k _ fun u H2 k2 ru => hd H2 (k.trans k2) _ fun v H3 k3 rv => by
    obtain ⟨a, rfl, ha⟩ := rv
    obtain ⟨b, rfl, hb⟩ := key_tup (ePr.mono k3 ru)
    have h := DGet.t ha hb
    rw [valV_enc] at h
    refine ⟨a, _, rfl, h, q _ H3 (k2.trans k3) ?_⟩
    show V.bl _ = V.bl _
    rw [Option.isSome_map]
theorem er_dnotin {d : Dc} {p : Tx × Tx} (hd : EvR eDc td σ H d) (hy : EvR ePr ty σ H p) : EvR eBl (tDNotIn ty td) σ H (!(lookD d p).isSome) := fun H1 k Q q =>
  hy H1 k _ fun u H2 k2 ru => hd H2 (k.trans k2) _ fun v H3 k3 rv => by
    obtain ⟨a, rfl, ha⟩ := rv
    obtain ⟨b, rfl, hb⟩ := key_tup (ePr.mono k3 ru)
    have h := DGet.t ha hb
    rw [valV_enc] at h
    refine ⟨a, _, rfl, h, q _ H3 (k2.trans k3) ?_⟩
    show V.bl _ = V.bl _
    rw [Option.isSome_map]
/-- d.get(k, x) -/
theorem er_dget2 {d : Dc} {p : Tx × Tx} {x : Int} (hd : EvR eDc td σ H d) (hy : EvR ePr ty σ H p) (hx : EvR eInt tv σ H x) : EvR eInt (tDGet2 td ty tv) σ H ((lookD d p).getD x) := fun H1 k Q q =>
  hd H1 k _ fun v H2 k2 rv => by
    obtain ⟨a, rfl, ha⟩ := rv
    refine ⟨a, rfl, .inr ⟨_, .inl ha⟩, hy H2 (k.trans k2) _ fun u H3 k3 ru => hx H3 ((k.trans k2).trans k3) _ fun z H4 k4 rz => ?_⟩
    obtain ⟨b, rfl, hb⟩ := key_tup (ePr.mono k4 ru)
    have h := DGet.t (k4 _ _ (k3 _ _ ha)) hb
    rw [valV_enc] at h
    cases rz
    refine ⟨_, h, q _ H4 ((k2.trans k3).trans k4) ?_⟩
    cases lookD d p <;> rfl
/-- d[k] = v -/
theorem s_dput {d : Dc} {p : Tx × Tx} {x : Int} {a : Addr} (hx : EvR eInt tv σ H x) (hd : Ev td σ H (.ref a)) (hy : EvR ePr ty σ H p) (ha : H a = some (.dT (encD d))) (hl : d.length < 100000)
    (k : ∀ H1, Ex (hid H [a]) H1 → H1 a = some (.dT (encD (putD d p x))) → D.nx σ H1) : sDPut td ty tv D σ H :=
  hx H (Ex.refl H) _ fun v H1 k1 rv => hd H1 k1 _ fun H2 k2 => hy H2 (k1.trans k2) _ fun u H3 k3 ru => by
    cases rv
    obtain ⟨b, rfl, hb⟩ := key_tup ru
    refine ⟨a, _, rfl, DPut.t (k3 _ _ (k2 _ _ (k1 _ _ ha))) hb (sz_lt (by unfold encD; rw [List.length_map]; exact hl)), k _ ?_ ?_⟩
    · exact Ex.mut (ex_unhid ((k1.trans k2).trans k3)) (hid_at (List.mem_singleton.mpr rfl))
    · rw [upd_same, put_enc]
theorem q_dput {d : Dc} {p : Tx × Tx} {x : Int} {a : Addr} (hx : EvR eInt tv σ H x) (hd : Ev td σ H (.ref a)) (hy : EvR ePr ty σ H p) (ha : H a = some (.dT (encD d))) (hl : d.length < 100000)
    (k : ∀ H1, Ex (hid H [a]) H1 → H1 a = some (.dT (encD (putD d p x))) → tz D σ H1) : tSeq (sDPut td ty tv) tz D σ H := s_dput (D := { D with nx := tz D }) hx hd hy ha hl k
/-- {(a, b): v} -/
theorem ev_disp {p : Tx × Tx} {x : Int} (hy : ∀ H1, Ex H H1 → EvR ePr ty σ H1 p) (hx : ∀ H1, Ex H H1 → EvR eInt tv σ H1 x) : ∀ H1, Ex H H1 → ∀ Q : VK, (∀ a H2, H1 a = none → Ex H1 H2 → H2 a = some (.dT (encD [(p, x)])) → Q (.ref a) H2) → tDispT1 ty tv σ H1 Q := fun H1 k Q q a ha =>
  hy _ (k.trans (Ex.new ha)) _ (Ex.refl _) _ fun u H2 k2 ru => hx H2 ((k.trans (Ex.new ha)).trans k2) _ (Ex.refl _) _ fun v H3 k3 rv => by
    obtain ⟨b, rfl, hb⟩ := key_tup (ePr.mono k3 ru)
    cases rv
    have e1 : H3 a = some (.dT []) := k3 _ _ (k2 _ _ upd_same)
    exact ⟨e1, b, kO p, rfl, hb, q a _ ha (Ex.mut (((Ex.new ha).trans k2).trans k3) ha) upd_same⟩
end
end K61

/-! K61F: sorted and the dict comprehension as data. -/
namespace K61
open PySem PySem.Spec PyProof.Rows L2 Evl
theorem tri (a b : Tx) : a < b ∨ a = b ∨ b < a := by
  by_cases h : a < b
  · exact .inl h
  · by_cases h2 : b < a
    · exact .inr (.inr h2)
    · exact .inr (.inl (List.le_antisymm (by simpa using h2) (by simpa using h)))
/-! ### sorted -/
section
variable {α : Type} {K : PySem.W.Frag} {σ : L2.St} {H : Hp} {ta : TE}
def sortBy (pd : α → PyData) (l : List α) : List α := l.mergeSort (PySem.W.dataLe false pd)
theorem sortBy_perm (pd : α → PyData) (l : List α) : (sortBy pd l).Perm l := List.mergeSort_perm _ _
theorem sortBy_asc (pd : α → PyData) (l : List α) : (sortBy pd l).Pairwise (fun x y => PySem.W.dataLe false pd x y = true) := by
  have t := PySem.W.sortLe_total (listOrd itemOrd) false fun b => PySem.W.keyToks (pd b)
  exact List.pairwise_mergeSort (fun a b c h1 h2 => t.trans a b c h1 h2) (fun a b => by
    rcases t.total a b with h | h
    · rw [Bool.or_eq_true]; exact .inl h
    · rw [Bool.or_eq_true]; exact .inr h) l
theorem sortBy_self (pd : α → PyData) (l : List α) : sortBy pd (sortBy pd l) = sortBy pd l := List.mergeSort_of_pairwise (sortBy_asc pd l)
theorem zip_fst : ∀ {xs : List V} {l : List α}, xs.length = l.length → (xs.zip l).map (·.1) = xs
  | [], _, _ => by simp
  | x :: xs, [], h => by cases h
  | x :: xs, y :: l, h => by
    rw [List.zip_cons_cons, List.map_cons, zip_fst (by simpa using h)]
theorem zip_snd : ∀ {xs : List V} {l : List α}, xs.length = l.length → (xs.zip l).map (·.2) = l
  | [], [], _ => rfl
  | [], y :: l, h => by cases h
  | x :: xs, [], h => by cases h
  | x :: xs, y :: l, h => by
    rw [List.zip_cons_cons, List.map_cons, zip_snd (by simpa using h)]
theorem zip_rel {F : V → α → Prop} : ∀ {xs : List V} {l : List α}, Paired F xs l → ∀ z ∈ xs.zip l, F z.1 z.2
  | _, _, .nil, z, h => by cases h
  | _, _, .cons r t, z, h => by
    rw [List.zip_cons_cons] at h
    rcases List.mem_cons.mp h with rfl | h
    · exact r
    · exact zip_rel t z h
theorem rel_paired {F : V → α → Prop} : ∀ (zs : List (V × α)), (∀ z ∈ zs, F z.1 z.2) → Paired F (zs.map (·.1)) (zs.map (·.2))
  | [], _ => .nil
  | z :: r, h => .cons (h z List.mem_cons_self) (rel_paired r fun y hy => h y (List.mem_cons_of_mem _ hy))
theorem en_sortedXs {e : Enc α} {l : List α} (pd : α → PyData) {a : Addr} {xs : List V} {Q : VK} (hdp : ∀ H v x, e.R H v x → Dp K H v (pd x)) (hal : ∀ x y, PySem.W.alike (pd x) (pd y) = true) (hk : ∀ x, ∃ y r, pd x = .tuple (y :: r)) (hd : ∀ x, (pd x).depth ≤ 8) (hz : l.length ≤ 100000)
    (hs : SqL K H a xs ∨ SqT K H a xs) (hp : Paired (e.R H) xs l) (q : ∀ p ys H2, H p = none → Ex H H2 → H2 p = some (.lst ys) → Paired (e.R H2) ys (sortBy pd l) → Q (.ref p) H2) : rSortD K [.ref a] H Q := by
  have hlen := paired_len hp
  have e1 : ((xs.zip l).map (fun z => (z.1, pd z.2))).map (·.1) = xs := by rw [List.map_map]; exact zip_fst hlen
  have e2 : ((xs.zip l).map (fun z => (z.1, pd z.2))).map (·.2) = l.map pd := by
    rw [List.map_map]
    have : ((·.2) ∘ fun z : V × α => (z.1, pd z.2)) = pd ∘ (·.2) := rfl
    rw [this, ← List.map_map, zip_snd hlen]
  refine ⟨a, (xs.zip l).map (fun z => (z.1, pd z.2)), rfl, by rw [e1]; exact hs, fun z hz => ?_, by rw [e2]; exact PySem.W.AllAlike.of hal, by rw [e2]; exact PySem.W.Sortable.tuples hk, ?_, fun z hz => ?_, fun p hp0 => ?_⟩
  · obtain ⟨y, hy, rfl⟩ := List.mem_map.mp hz
    exact hdp _ _ _ (zip_rel hp y hy)
  · rw [List.length_map, List.length_zip, hlen, Nat.min_self]
    exact sz_of hz
  · obtain ⟨y, hy, rfl⟩ := List.mem_map.mp hz
    exact hd _
  · have m1 : ((xs.zip l).map (fun z => (z.1, pd z.2))).mergeSort (PySem.W.dataLe false (·.2)) = ((xs.zip l).mergeSort (PySem.W.dataLe false fun z => pd z.2)).map (fun z => (z.1, pd z.2)) :=
      (List.map_mergeSort (f := fun z : V × α => (z.1, pd z.2)) (r := PySem.W.dataLe false fun z => pd z.2) (s := PySem.W.dataLe false (·.2)) (fun _ _ _ _ => rfl)).symm
    have m2 : ((xs.zip l).mergeSort (PySem.W.dataLe false fun z => pd z.2)).map (·.2) = sortBy pd l := by
      rw [List.map_mergeSort (f := fun z : V × α => z.2) (r := PySem.W.dataLe false fun z => pd z.2) (s := PySem.W.dataLe false pd) (fun _ _ _ _ => rfl), zip_snd hlen]
      rfl
    rw [m1, List.map_map]
    refine q p _ _ hp0 (Ex.new hp0) upd_same ?_
    rw [← m2]
    exact rel_paired _ fun z hz => e.mono (Ex.new hp0) (zip_rel hp z (List.mem_mergeSort.mp hz))
/-- sorted of a list, of a tuple -/
theorem en_sortedL {e : Enc α} {l : List α} (pd : α → PyData) (hdp : ∀ H v x, e.R H v x → Dp K H v (pd x)) (hal : ∀ x y, PySem.W.alike (pd x) (pd y) = true) (hk : ∀ x, ∃ y r, pd x = .tuple (y :: r)) (hd : ∀ x, (pd x).depth ≤ 8) (hz : l.length ≤ 100000) (ha : EvR (eLs e) ta σ H l) : EvN e (tCB (rSortD K) (tCons ta tNil)) σ H (sortBy pd l) := fun H1 k Q q =>
  ha H1 k _ fun v H2 k2 rv => by
    obtain ⟨a, xs, rfl, h2, h3⟩ := rv
    exact en_sortedXs pd hdp hal hk hd hz (.inl (SqL.of h2)) h3 fun p ys H3 hp k3 h4 h5 => q p ys H3 (fresh_back k2 hp) (k2.trans k3) h4 h5
theorem en_sortedT {e : Enc α} {l : List α} (pd : α → PyData) (hdp : ∀ H v x, e.R H v x → Dp K H v (pd x)) (hal : ∀ x y, PySem.W.alike (pd x) (pd y) = true) (hk : ∀ x, ∃ y r, pd x = .tuple (y :: r)) (hd : ∀ x, (pd x).depth ≤ 8) (hz : l.length ≤ 100000) (ha : EvR (eTL e) ta σ H l) : EvN e (tCB (rSortD K) (tCons ta tNil)) σ H (sortBy pd l) := fun H1 k Q q =>
  ha H1 k _ fun v H2 k2 rv => by
    obtain ⟨a, xs, rfl, h2, h3⟩ := rv
    exact en_sortedXs pd hdp hal hk hd hz (.inr (SqT.of h2)) h3 fun p ys H3 hp k3 h4 h5 => q p ys H3 (fresh_back k2 hp) (k2.trans k3) h4 h5
end
/-! ### the two kinds of data that are sorted -/
def pdW (e : Tx × Int) : PyData := .tuple [.str (ss e.1), .int e.2]
abbrev eTr : Enc Tr := e3 eStr eStr eInt
def pdT (z : Tr) : PyData := .tuple [.str (ss z.1), .str (ss z.2.1), .int z.2.2]
theorem dp_W (K : PySem.W.Frag) (H : Hp) (v : V) (x : Tx × Int) (h : (e2 eStr eInt).R H v x) : Dp K H v (pdW x) := by
  obtain ⟨a, y, z, rfl, h2, h3, h4⟩ := h
  cases h3; cases h4
  exact .tup (SqT.of h2) (.cons (.str _) (.cons (.int _) .nil))
theorem dp_T (K : PySem.W.Frag) (H : Hp) (v : V) (x : Tr) (h : eTr.R H v x) : Dp K H v (pdT x) := by
  obtain ⟨a, y, z, w, rfl, h2, h3, h4, h5⟩ := h
  cases h3; cases h4; cases h5
  exact .tup (SqT.of h2) (.cons (.str _) (.cons (.str _) (.cons (.int _) .nil)))
theorem alike_W (x y : Tx × Int) : PySem.W.alike (pdW x) (pdW y) = true := by simp [pdW, PySem.W.alike, PySem.W.alikeAll]
theorem alike_T (x y : Tr) : PySem.W.alike (pdT x) (pdT y) = true := by simp [pdT, PySem.W.alike, PySem.W.alikeAll]
theorem dep_W (x : Tx × Int) : (pdW x).depth ≤ 8 := by simp [pdW, PyData.depth, PyData.depthAll]
theorem dep_T (x : Tr) : (pdT x).depth ≤ 8 := by simp [pdT, PyData.depth, PyData.depthAll]
theorem eqv_ss (s t : Tx) : PyData.eqv (.str (ss s)) (.str (ss t)) = decide (s = t) := by
  show (ss s == ss t) = _
  exact Bool.eq_iff_iff.mpr (by simp; exact ⟨ss_inj, fun h => h ▸ rfl⟩)
theorem lt_ss (s t : Tx) : PySem.W.dataLt (.str (ss s)) (.str (ss t)) = decide (s < t) := by rw [PySem.W.dataLt_str, ss_list, ss_list]
theorem le_W {x y : Tx × Int} (h : PySem.W.dataLe false pdW x y = true) (hne : x.1 ≠ y.1) : x.1 < y.1 := by
  have h : (!PySem.W.dataLt (pdW y) (pdW x)) = true := h
  unfold pdW at h
  rw [PySem.W.dataLt_pair (by simp [PySem.W.alike]) (by simp [PySem.W.alike]), eqv_ss, if_neg (by simp; exact fun q => hne q.symm), lt_ss] at h
  rcases tri x.1 y.1 with q | q | q
  · exact q
  · exact absurd q hne
  · rw [decide_eq_true q] at h
    exact absurd h (by decide)
theorem le_T {x y : Tr} (h : PySem.W.dataLe false pdT x y = true) (hne : (x.1, x.2.1) ≠ (y.1, y.2.1)) : lt2 (x.1, x.2.1) (y.1, y.2.1) := by
  have h : (!PySem.W.dataLt (pdT y) (pdT x)) = true := h
  unfold pdT at h
  rw [PySem.W.dataLt_tuple, PySem.W.dataLt_cons (by simp [PySem.W.alike]), eqv_ss] at h
  by_cases h1 : y.1 = x.1
  · rw [if_pos (by simp [h1]), PySem.W.dataLt_cons (by simp [PySem.W.alike]), eqv_ss] at h
    have h2 : ¬ y.2.1 = x.2.1 := fun q => hne (by rw [h1, q])
    rw [if_neg (by simp [h2]), lt_ss] at h
    rcases tri x.2.1 y.2.1 with q | q | q
    · exact .inr ⟨h1.symm, q⟩
    · exact absurd q.symm h2
    · rw [decide_eq_true q] at h
      exact absurd h (by decide)
  · rw [if_neg (by simp [h1]), lt_ss] at h
    rcases tri x.1 y.1 with q | q | q
    · exact .inl q
    · exact absurd q.symm h1
    · rw [decide_eq_true q] at h
      exact absurd h (by decide)
theorem sortW_asc {l : Ws} (nd : (l.map (·.1)).Nodup) : (names (sortBy pdW l)).Pairwise (· < ·) := by
  unfold names
  rw [List.pairwise_map]
  have nd2 : ((sortBy pdW l).map (·.1)).Nodup := ((sortBy_perm pdW l).map _).nodup_iff.mpr nd
  unfold List.Nodup at nd2
  rw [List.pairwise_map] at nd2
  exact (sortBy_asc pdW l).imp₂ (fun x y h1 h2 => le_W h1 h2) nd2
theorem sortT_asc {l : List Tr} (nd : (l.map (fun z => (z.1, z.2.1))).Nodup) : (sortBy pdT l).Pairwise (fun x y => lt2 (x.1, x.2.1) (y.1, y.2.1)) := by
  have nd2 : ((sortBy pdT l).map (fun z => (z.1, z.2.1))).Nodup := ((sortBy_perm pdT l).map _).nodup_iff.mpr nd
  unfold List.Nodup at nd2
  rw [List.pairwise_map] at nd2
  exact (sortBy_asc pdT l).imp₂ (fun x y h1 h2 => le_T h1 h2) nd2

/-! ### {(a, b): v for ..} as data -/
def ofL {α : Type} (kf : α → Tx × Tx) (vf : α → Int) (l : List α) : Dc := l.foldl (fun D x => putD D (kf x) (vf x)) []
theorem ofL_snoc {α : Type} (kf : α → Tx × Tx) (vf : α → Int) (l : List α) (x : α) : ofL kf vf (l ++ [x]) = putD (ofL kf vf l) (kf x) (vf x) := by
  unfold ofL
  rw [List.foldl_append]
  rfl
theorem ofL_len {α : Type} (kf : α → Tx × Tx) (vf : α → Int) : ∀ (l : List α) (D : Dc), (l.foldl (fun D x => putD D (kf x) (vf x)) D).length ≤ D.length + l.length
  | [], D => Nat.le_refl _
  | x :: r, D => by
    rw [List.foldl_cons, List.length_cons]
    have h1 := ofL_len kf vf r (putD D (kf x) (vf x))
    have h2 := putD_len D (kf x) (vf x)
    omega
theorem ofL_look {α : Type} (kf : α → Tx × Tx) (vf : α → Int) : ∀ (l : List α) (D : Dc), (l.map kf).Nodup → ∀ p, lookD (l.foldl (fun D x => putD D (kf x) (vf x)) D) p = match l.find? (fun x => decide (kf x = p)) with
    | some x => some (vf x)
    | none => lookD D p
  | [], D, _, p => rfl
  | x :: r, D, nd, p => by
    rw [List.map_cons, List.nodup_cons] at nd
    rw [List.foldl_cons, ofL_look kf vf r _ nd.2 p, List.find?_cons, look_put]
    by_cases h : kf x = p
    · rw [decide_eq_true h]
      have hn : r.find? (fun x => decide (kf x = p)) = none := by
        rw [List.find?_eq_none]
        intro y hy q
        have q : kf y = p := of_decide_eq_true q
        exact nd.1 (List.mem_map.mpr ⟨y, hy, q.trans h.symm⟩)
      rw [hn]
      show (if p = kf x then some (vf x) else lookD D p) = some (vf x)
      rw [if_pos h.symm]
    · rw [decide_eq_false h]
      show (match r.find? _ with | some x => _ | none => (if p = kf x then some (vf x) else lookD D p)) = _
      rw [if_neg fun q => h q.symm]
theorem ofL_mem {α : Type} {kf : α → Tx × Tx} {vf : α → Int} {l : List α} (nd : (l.map kf).Nodup) {x : α} (h : x ∈ l) : lookD (ofL kf vf l) (kf x) = some (vf x) := by
  unfold ofL
  rw [ofL_look kf vf l [] nd]
  cases hf : l.find? (fun y => decide (kf y = kf x)) with
  | none =>
    rw [List.find?_eq_none] at hf
    exact absurd (decide_eq_true rfl) (hf x h)
  | some y =>
    have h1 : kf y = kf x := of_decide_eq_true (List.find?_some (p := fun y => decide (kf y = kf x)) hf)
    have h2 := List.mem_of_find?_eq_some hf
    have : y = x := by
      obtain ⟨i, hi, e1⟩ := List.getElem_of_mem h2
      obtain ⟨j, hj, e2⟩ := List.getElem_of_mem h
      have : i = j := (List.getElem_inj (xs := l.map kf) (h₀ := by rw [List.length_map]; exact hi) (h₁ := by rw [List.length_map]; exact hj) nd).mp (by rw [List.getElem_map, List.getElem_map, e1, e2, h1])
      subst this
      rw [← e1, e2]
    rw [this]
section
variable {α : Type} {σ : L2.St} {H : Hp} {tk tv : TE} {g : TG}
theorem yesIf {A B : Hp → Prop} (h : A H) : tYes σ H (fun b H3 => if b = true then A H3 else B H3) := by
  show (if true = true then A H else B H)
  rw [if_pos rfl]
  exact h
theorem ev_dc {e : Enc α} {wi : TI} {l : List α} {A : Addr → Prop} {vs : List Nat} (kf : α → Tx × Tx) (vf : α → Int) (hs : SrcOf e wi σ H l A) (hl : l.length ≤ 40000)
    (ht : ∀ x v H1, x ∈ l → Ex H H1 → e.R H1 v x → ∀ Q : L2.St → Hp → Prop, (∀ σ2, wipe σ2 vs = wipe σ vs → EvR ePr tk σ2 H1 (kf x) → EvR eInt tv σ2 H1 (vf x) → Q σ2 H1) → g v (wipe σ vs) H1 Q) :
    ∀ H1, Ex H H1 → ∀ Q : VK, (∀ a H2, H1 a = none → Ex H1 H2 → H2 a = some (.dT (encD (ofL kf vf l))) → Q (.ref a) H2) → tDcT wi g tYes tk tv vs σ H1 Q := fun H1 k Q q => hs H1 k _ fun J H2 Dep k2 kd hdep hy => fun P hP => by
  refine ⟨fun i m H' => m = l.length - i ∧ i ≤ l.length ∧ Ex H2 H' ∧ H' P = some (.dT (encD (ofL kf vf (l.take i)))), ⟨l.length, by omega, Nat.zero_le _, Ex.new hP, upd_same⟩, ?_⟩
  rintro i m H' ⟨rfl, hi, kH, hacc⟩
  by_cases hlt : i < l.length
  · have hx : l[i]? = some l[i] := List.getElem?_eq_getElem hlt
    obtain ⟨hgo, hyl⟩ := (hy H' (kd.trans kH) i).1 _ hx
    refine .inr ⟨hgo, fun H' => Ex H2 H' ∧ H' P = some (.dT (encD (ofL kf vf (l.take (i + 1))))), fun H3 h3 => ⟨l.length - (i + 1), by omega, rfl, hlt, h3⟩, fun v H'' hv => ?_⟩
    obtain ⟨k3, hr⟩ := hyl v H'' hv
    refine ht l[i] v H'' (List.getElem_mem hlt) ((k.trans k2).trans (kH.trans k3)) hr _ fun σ2 hw hK hV => ⟨hw, yesIf ?_⟩
    refine hK H'' (Ex.refl _) _ fun y H4 k4 ry => hV H4 k4 _ fun z H5 k5 rz => ?_
    have kk : Ex H' H5 := (k3.trans k4).trans k5
    obtain ⟨b, rfl, hb⟩ := key_tup (ePr.mono k5 ry)
    cases rz
    refine ⟨_, kO (kf l[i]), b, rfl, hb, kk _ _ hacc, ?_, Ex.mut (kH.trans kk) hP, ?_⟩
    · unfold encD
      rw [List.length_map]
      have := ofL_len kf vf (l.take i) []
      rw [List.length_nil, List.length_take] at this
      exact sz_lt (by unfold ofL; omega)
    · rw [upd_same, put_enc, List.take_add_one, hx]
      show _ = some (HO.dT (encD (ofL kf vf (l.take i ++ [l[i]]))))
      rw [ofL_snoc]
  · have e1 : i = l.length := by omega
    subst e1
    rw [List.take_length] at hacc
    exact .inl ⟨(hy H' (kd.trans kH) _).2 (Nat.le_refl _), q P H' (fresh_back k2 hP) (k2.trans kH) hacc⟩
end
end K61

/-! K61G: instances by their fields; the graph and the climb as data in the heap. -/
namespace K61
open PySem PySem.Spec PyProof.Rows L2 Evl
section
variable {α : Type} {K : PySem.W.Frag} {σ : L2.St} {H H1 : Hp} {ta tv te : TE} {D : Ends} {tz : L2.TS} {f : Str}
theorem er_ev {e : Enc α} {x : α} {v : V} (h : Ev te σ H v) (r : e.R H v x) : EvR e te σ H x := fun H1 k Q q => h H1 k Q fun H2 k2 => q v H2 k2 (e.mono (k.trans k2) r)
theorem ev_fld {a C dx : Addr} {fs : List (Str × V)} {v : V} (ha : Ev ta σ H (.ref a)) (hi : H a = some (.ins C dx fs)) (cl : Cls K C) (n : NoAttr K C f) (hl : fs.lookup f = some v) : Ev (tFld K ta f) σ H v := fun H1 k Q q =>
  ha H1 k _ fun H2 k2 => ⟨a, C, dx, fs, v, rfl, (k.trans k2) _ _ hi, cl, n, hl, q H2 k2⟩
theorem ex_wide {ls ls' : List Addr} (h : ∀ a ∈ ls, a ∈ ls') (k : Ex (hid H ls) H1) : Ex (hid H ls') H1 := fun a o q => by
  obtain ⟨h1, h2⟩ := hid_some q
  exact k a o (by rw [hid_ne fun m => h1 (h a m)]; exact h2)
theorem keep {ls : List Addr} {a : Addr} {o : HO} (k : Ex (hid H ls) H1) (h : H a = some o) (n : a ∉ ls) : H1 a = some o := k a o (by rw [hid_ne n]; exact h)
theorem LsAt.keep {e : Enc α} [ie : Imm e] {ls : List Addr} {a : Addr} {l : List α} (h : LsAt e H a l) (k : Ex (hid H ls) H1) (n : a ∉ ls) (t : TEx H H1) : LsAt e H1 a l :=
  let ⟨xs, h1, h2⟩ := h; ⟨xs, K61.keep k h1 n, paired_mono h2 fun _ _ r => ie.imm t r⟩
theorem tex_h {ls : List Addr} (k : Ex (hid H ls) H1) (h : ∀ a ∈ ls, ∃ o, H a = some o ∧ ∀ xs, o ≠ .tup xs) : TEx H H1 := (hid_tex h).trans (ex_tex k)
theorem ex_drop {ls : List Addr} (k : Ex (hid H ls) H1) (h : ∀ a ∈ ls, H a = none) : Ex H H1 := fun a o q => k a o (by rw [hid_ne fun m => by rw [h a m] at q; cases q]; exact q)
/-- self.f = e -/
theorem s_fldR {e : Enc α} [ie : Imm e] {x : α} {a C dx : Addr} {fs : List (Str × V)} (hv : EvR e tv σ H x) (ha : Ev ta σ H (.ref a)) (hi : H a = some (.ins C dx fs)) (cl : Cls K C) (n : NoAttr K C f) (hl : fs.length < 1000)
    (k : ∀ v H1, Ex (hid H [a]) H1 → e.R H1 v x → H1 a = some (.ins C dx (putF f v fs)) → D.nx σ H1) : sFld K ta tv f D σ H :=
  hv H (Ex.refl H) _ fun v H1 k1 rv => ha H1 k1 _ fun H2 k2 => by
    have hi2 := (k1.trans k2) _ _ hi
    refine ⟨a, C, dx, fs, rfl, hi2, cl, n, hl, k v _ (Ex.mut (ex_unhid (k1.trans k2)) (hid_at (List.mem_singleton.mpr rfl))) (ie.imm ((ex_tex k2).trans (tex_upd hi2 fun _ q => nomatch q)) rv) upd_same⟩
theorem q_fldR {e : Enc α} [ie : Imm e] {x : α} {a C dx : Addr} {fs : List (Str × V)} (hv : EvR e tv σ H x) (ha : Ev ta σ H (.ref a)) (hi : H a = some (.ins C dx fs)) (cl : Cls K C) (n : NoAttr K C f) (hl : fs.length < 1000)
    (k : ∀ v H1, Ex (hid H [a]) H1 → e.R H1 v x → H1 a = some (.ins C dx (putF f v fs)) → tz D σ H1) : tSeq (sFld K ta tv f) tz D σ H := s_fldR (D := { D with nx := tz D }) hv ha hi cl n hl k
/-- self.f = a new list -/
theorem s_fldN {e : Enc α} [ie : Imm e] {l : List α} {a C dx : Addr} {fs : List (Str × V)} (hv : EvN e tv σ H l) (ha : Ev ta σ H (.ref a)) (hi : H a = some (.ins C dx fs)) (cl : Cls K C) (n : NoAttr K C f) (hl : fs.length < 1000)
    (k : ∀ p H1, H p = none → Ex (hid H [a]) H1 → LsAt e H1 p l → H1 a = some (.ins C dx (putF f (.ref p) fs)) → D.nx σ H1) : sFld K ta tv f D σ H :=
  hv H (Ex.refl H) _ fun p xs H1 hp k1 h1 h2 => ha H1 k1 _ fun H2 k2 => by
    have hi2 := (k1.trans k2) _ _ hi
    have hpa : p ≠ a := fun q => by rw [q, hi] at hp; cases hp
    exact ⟨a, C, dx, fs, rfl, hi2, cl, n, hl, k p _ hp (Ex.mut (ex_unhid (k1.trans k2)) (hid_at (List.mem_singleton.mpr rfl))) (LsAt.other (LsAt.mono ⟨xs, h1, h2⟩ k2) hi2 (fun _ q => nomatch q) hpa) upd_same⟩
theorem q_fldN {e : Enc α} [ie : Imm e] {l : List α} {a C dx : Addr} {fs : List (Str × V)} (hv : EvN e tv σ H l) (ha : Ev ta σ H (.ref a)) (hi : H a = some (.ins C dx fs)) (cl : Cls K C) (n : NoAttr K C f) (hl : fs.length < 1000)
    (k : ∀ p H1, H p = none → Ex (hid H [a]) H1 → LsAt e H1 p l → H1 a = some (.ins C dx (putF f (.ref p) fs)) → tz D σ H1) : tSeq (sFld K ta tv f) tz D σ H := s_fldN (D := { D with nx := tz D }) hv ha hi cl n hl k
/-- self.f = a new dict -/
theorem q_fldD {d : Dc} {a C dx : Addr} {fs : List (Str × V)} (hv : ∀ H1, Ex H H1 → ∀ Q : VK, (∀ p H2, H1 p = none → Ex H1 H2 → H2 p = some (.dT (encD d)) → Q (.ref p) H2) → tv σ H1 Q) (ha : Ev ta σ H (.ref a)) (hi : H a = some (.ins C dx fs)) (cl : Cls K C) (n : NoAttr K C f) (hl : fs.length < 1000)
    (k : ∀ p H1, H p = none → Ex (hid H [a]) H1 → H1 p = some (.dT (encD d)) → H1 a = some (.ins C dx (putF f (.ref p) fs)) → tz D σ H1) : tSeq (sFld K ta tv f) tz D σ H :=
  hv H (Ex.refl H) _ fun p H1 hp k1 h1 => ha H1 k1 _ fun H2 k2 => by
    have hi2 := (k1.trans k2) _ _ hi
    have hpa : p ≠ a := fun q => by rw [q, hi] at hp; cases hp
    exact ⟨a, C, dx, fs, rfl, hi2, cl, n, hl, k p _ hp (Ex.mut (ex_unhid (k1.trans k2)) (hid_at (List.mem_singleton.mpr rfl))) (by rw [upd_ne hpa]; exact k2 _ _ h1) upd_same⟩
theorem putF_len (f : Str) (v : V) : ∀ fs : List (Str × V), (putF f v fs).length ≤ fs.length + 1
  | [] => Nat.le_refl _
  | (g, x) :: r => by
    show (if g = f then (g, v) :: r else (g, x) :: putF f v r).length ≤ _
    split
    · exact Nat.le_succ _
    · have := putF_len f v r
      rw [List.length_cons, List.length_cons]
      omega
end

theorem pl1 (a : Str) (x : V) : (putF a x []).length < 1000 := Nat.lt_of_le_of_lt (putF_len _ _ _) (show 0 + 1 < 1000 by decide)
theorem pl2 (a b : Str) (x y : V) : (putF b y (putF a x [])).length < 1000 := by
  have h1 := putF_len b y (putF a x [])
  have h2 : (putF a x []).length ≤ 1 := putF_len a x []
  omega
theorem pl3 (a b c : Str) (x y z : V) : (putF c z (putF b y (putF a x []))).length < 1000 := by
  have h1 := putF_len b y (putF a x [])
  have h2 : (putF a x []).length ≤ 1 := putF_len a x []
  have h3 := putF_len c z (putF b y (putF a x []))
  omega
/-! ### the dict of places -/
def dOf (P : List (Tx × Tx)) : Dc := P.zipIdx.map (fun z => (z.1, (z.2 : Int)))
theorem dOf_len (P : List (Tx × Tx)) : (dOf P).length = P.length := by unfold dOf; rw [List.length_map, List.length_zipIdx]
theorem dOf_look (P : List (Tx × Tx)) (p : Tx × Tx) : lookD (dOf P) p = if P.contains p = true then some ((P.idxOf p : Nat) : Int) else none := by
  have key : ∀ (P : List (Tx × Tx)) (n : Nat), (((P.zipIdx n).map (fun z => (z.1, (z.2 : Int)))).find? (fun z => decide (z.1 = p))).map (·.2) = if P.contains p = true then some ((n + P.idxOf p : Nat) : Int) else none := by
    intro P
    induction P with
    | nil => intro n; rfl
    | cons q r ih =>
      intro n
      rw [List.zipIdx_cons, List.map_cons, List.find?_cons, List.contains_cons, List.idxOf_cons]
      by_cases h : q = p
      · subst h
        simp
      · have h1 : (p == q) = false := beq_eq_false_iff_ne.mpr fun z => h z.symm
        have h2 : (q == p) = false := beq_eq_false_iff_ne.mpr h
        rw [decide_eq_false h, h1, h2, Bool.false_or]
        show ((((r.zipIdx (n + 1)).map _).find? _).map _) = _
        rw [ih (n + 1)]
        show _ = if r.contains p = true then some ((n + (r.idxOf p + 1) : Nat) : Int) else none
        rw [show n + 1 + r.idxOf p = n + (r.idxOf p + 1) by omega]
  unfold lookD dOf
  rw [key P 0, Nat.zero_add]
theorem dOf_put {P : List (Tx × Tx)} {p : Tx × Tx} (h : P.contains p = false) : putD (dOf P) p (P.length : Int) = dOf (P ++ [p]) := by
  have h1 : (dOf P).any (fun z => decide (z.1 = p)) = false := by
    rw [Bool.eq_false_iff]
    intro q
    have q1 : lookD (dOf P) p = none := by rw [dOf_look, h, if_neg (by decide)]
    unfold lookD at q1
    rw [Option.map_eq_none_iff, List.find?_eq_none] at q1
    obtain ⟨z, hz, h2⟩ := List.any_eq_true.mp q
    exact q1 z hz h2
  unfold putD
  rw [if_neg (by rw [h1]; decide)]
  unfold dOf
  rw [List.zipIdx_append, List.map_append, Nat.zero_add]
  rfl

/-! ### the graph in the heap -/
abbrev eEd : Enc Edge := eMap (fun e => (e.src, e.c, e.dst, e.gain, e.loss)) (e5 eNat eChr eNat eInt eInt)
def fsG (vw : V) (ps ds es : Addr) : List (Str × V) := putF "edges" (.ref es) (putF "places" (.ref ds) (putF "pairs" (.ref ps) (putF "words" vw [])))
theorem fsG_w (vw : V) (ps ds es : Addr) : (fsG vw ps ds es).lookup ("words" : Str) = some vw := by
  unfold fsG
  rw [lookup_putF, if_neg (by decide +kernel), lookup_putF, if_neg (by decide +kernel), lookup_putF, if_neg (by decide +kernel), lookup_putF, if_pos rfl]
theorem fsG_p (vw : V) (ps ds es : Addr) : (fsG vw ps ds es).lookup ("pairs" : Str) = some (.ref ps) := by
  unfold fsG
  rw [lookup_putF, if_neg (by decide +kernel), lookup_putF, if_neg (by decide +kernel), lookup_putF, if_pos rfl]
theorem fsG_l (vw : V) (ps ds es : Addr) : (fsG vw ps ds es).lookup ("places" : Str) = some (.ref ds) := by
  unfold fsG
  rw [lookup_putF, if_neg (by decide +kernel), lookup_putF, if_pos rfl]
theorem fsG_e (vw : V) (ps ds es : Addr) : (fsG vw ps ds es).lookup ("edges" : Str) = some (.ref es) := by
  unfold fsG
  rw [lookup_putF, if_pos rfl]
theorem fsG_a (vw : V) (ps ds es : Addr) : (fsG vw ps ds es).lookup ("add_steps" : Str) = none := by
  unfold fsG
  rw [lookup_putF, if_neg (by decide +kernel), lookup_putF, if_neg (by decide +kernel), lookup_putF, if_neg (by decide +kernel), lookup_putF, if_neg (by decide +kernel)]
  rfl
structure GF (K : PySem.W.Frag) (C : Addr) : Prop where
  cl : Cls K C
  w : NoAttr K C "words"
  p : NoAttr K C "pairs"
  l : NoAttr K C "places"
  e : NoAttr K C "edges"
structure GA (C : Addr) (H : Hp) (g dx : Addr) (vw : V) (ps ds es : Addr) (ws : Ws) (st : GSt) : Prop where
  ins : H g = some (.ins C dx (fsG vw ps ds es))
  wd : eWs.R H vw ws
  pr : LsAt ePr H ps st.1
  pl : H ds = some (.dT (encD (dOf st.1)))
  ed : LsAt eEd H es st.2
  ne : ps ≠ es
section
variable {C : Addr} {H H1 : Hp} {g dx : Addr} {vw : V} {ps ds es : Addr} {ws : Ws} {st : GSt}
theorem GA.mono (h : GA C H g dx vw ps ds es ws st) (k : Ex H H1) : GA C H1 g dx vw ps ds es ws st := ⟨k _ _ h.ins, eWs.mono k h.wd, h.pr.mono k, k _ _ h.pl, h.ed.mono k, h.ne⟩
theorem GA.gps (h : GA C H g dx vw ps ds es ws st) : g ≠ ps := fun q => by obtain ⟨_, h1, _⟩ := h.pr; rw [← q, h.ins] at h1; cases h1
theorem GA.ges (h : GA C H g dx vw ps ds es ws st) : g ≠ es := fun q => by obtain ⟨_, h1, _⟩ := h.ed; rw [← q, h.ins] at h1; cases h1
theorem GA.gds (h : GA C H g dx vw ps ds es ws st) : g ≠ ds := fun q => by have h1 := h.pl; rw [← q, h.ins] at h1; cases h1
theorem GA.dps (h : GA C H g dx vw ps ds es ws st) : ds ≠ ps := fun q => by obtain ⟨_, h1, _⟩ := h.pr; rw [← q, h.pl] at h1; cases h1
theorem GA.des (h : GA C H g dx vw ps ds es ws st) : ds ≠ es := fun q => by obtain ⟨_, h1, _⟩ := h.ed; rw [← q, h.pl] at h1; cases h1
theorem GA.nt (h : GA C H g dx vw ps ds es ws st) : ∀ a ∈ [ps, ds, es], ∃ o, H a = some o ∧ ∀ xs, o ≠ .tup xs := fun a ha => by
  simp only [List.mem_cons, List.not_mem_nil, or_false] at ha
  rcases ha with rfl | rfl | rfl
  · exact h.pr.some
  · exact ⟨_, h.pl, fun _ q => nomatch q⟩
  · exact h.ed.some
theorem GA.next {st' : GSt} {ls : List Addr} (h : GA C H g dx vw ps ds es ws st) (hl : ∀ a ∈ ls, a ∈ [ps, ds, es]) (k : Ex (hid H ls) H1) (h1 : LsAt ePr H1 ps st'.1) (h2 : H1 ds = some (.dT (encD (dOf st'.1)))) (h3 : LsAt eEd H1 es st'.2) : GA C H1 g dx vw ps ds es ws st' := by
  have k := ex_wide hl k
  refine ⟨keep k h.ins ?_, Imm.imm (e := eWs) (tex_h k h.nt) h.wd, h1, h2, h3, h.ne⟩
  simp only [List.mem_cons, List.not_mem_nil, or_false]
  rintro (q | q | q)
  · exact h.gps q
  · exact h.gds q
  · exact h.ges q
end
/-- a finished graph, as data -/
def eGr (C : Addr) : Enc (Ws × GSt) := ⟨fun H v x => ∃ g dx vw ps ds es, v = .ref g ∧ GA C H g dx vw ps ds es x.1 x.2, fun k h => let ⟨g, dx, vw, ps, ds, es, h1, h2⟩ := h; ⟨g, dx, vw, ps, ds, es, h1, h2.mono k⟩⟩
end K61

/-! K61P4: the program's graph. -/
namespace K61
open PySem PySem.Spec PyProof.Rows L2 Evl
section
variable {P : Program} {w : World} {K : PySem.W.Frag} {mg : Str → Option Value} {base : Heap}
theorem huU {A : Around} {k : Nat} (hr : Room k A) : A.units + 1 < cLine := by have := hr.un; omega
-- slots: 0=self 1=place 2=letter 3=held 4=tail 5=gain 6=loss 7=other
abbrev st_Graph_add_steps : Stmt := inClass (top 28) 1
abbrev N_Graph_add_steps : List Str := ["self", "place", "letter", "held", "tail", "gain", "loss", "other"]
theorem sc_Graph_add_steps : FnScope N_Graph_add_steps ["self", "place", "letter"] (defScope st_Graph_add_steps) := ⟨rfl, rfl, rfl, by decide +kernel, rfl, by decide +kernel, by decide +kernel⟩
def sp_add (C : Addr) : Sp := fun vs H Q _ => ∃ (g dx : Addr) (vw : V) (ps ds es : Addr) (ws : Ws) (st : GSt) (place c : Nat) (one : Tx × Tx) (vp vc : V), vs = [.ref g, vp, vc] ∧ eNat.R H vp place ∧ eChr.R H vc c ∧ GA C H g dx vw ps ds es ws st ∧ Good ws ∧ GI ws st ∧
  st.1[place]? = some one ∧ c ∈ lets ws ∧ st.2.length ≤ 50000 ∧ ∀ H', Ex (hid H [ps, ds, es]) H' → GA C H' g dx vw ps ds es ws (addLet ws place one st c) → Q .non H'
theorem ok_add (B : Bl mg) {C : Addr} (T : GF K C) (F : MethAt K C "add_steps" "Graph.add_steps" st_Graph_add_steps ["self", "place", "letter"]) (c_steps_of : Cal P w K mg base "steps_of" 5 ["words", "held", "tail", "letter"] sp_steps) :
    CalM P w K mg base C "add_steps" 6 ["self", "place", "letter"] (sp_add C) := by
  refine F.cal sc_Graph_add_steps (fun vs H Q E h => ?_) (fun f cdv A outer s H vs Q E hr h => ?_)
  · obtain ⟨_, _, _, _, _, _, _, _, _, _, _, _, _, rfl, _⟩ := h; rfl
  · obtain ⟨g, dx, vw, ps, ds, es, ws, st, place, c, one, vp, vc, rfl, rp, rc, G, gd, gi, h1, hc, he, q⟩ := h
    have hu := huU hr
    refine ⟨_, (pss_one (ps_for PassesOwn.never rfl (pi_listK K (pe_cal c_steps_of hr (by decide) (by rfl) (pa_cons (pe_fldK K (pv 0) rfl) (pa_cons (pe_ix (ix_tupK K) (pe_ix (ix_listK K) (pe_fldK K (pv 0) rfl) (pv 1) (fun _ _ => rfl)) pe_int (fun _ _ => rfl)) (pa_cons (pe_ix (ix_tupK K) (pe_ix (ix_listK K) (pe_fldK K (pv 0) rfl) (pv 1) (fun _ _ => rfl)) pe_int (fun _ _ => rfl)) (pa_cons (pv 2) pa_nil)))))) (pg_tupK K (n := 4) rfl (pgs_cons (pg_name (i := 3) sc_Graph_add_steps.nd rfl (.inl rfl)) (pgs_cons (pg_name (i := 4) sc_Graph_add_steps.nd rfl (.inl rfl)) (pgs_cons (pg_name (i := 5) sc_Graph_add_steps.nd rfl (.inl rfl)) (pgs_cons (pg_name (i := 6) sc_Graph_add_steps.nd rfl (.inl rfl)) pgs_nil)))))
    (pss_cons (ps_set (i := 7) sc_Graph_add_steps.nd rfl (.inl rfl) (pe_tup (pa_cons (pv 3) (pa_cons (pv 4) pa_nil))))
    (pss_cons (ps_if (pt_cmp (pc_dnotin hu (pv 7) (pe_fldK K (pv 0) rfl))) (pss_cons (ps_dput hu (pe_fldK K (pv 0) rfl) (pv 7) (pe_callB (call_len_seqK K) (by rfl) B.len (by decide +kernel) (pa_cons (pe_fldK K (pv 0) rfl) pa_nil)) rfl)
    (pss_one (ps_expr (pe_bm PySem.F.plainAttrs_list PySem.F.slot_list_append PySem.F.type_list_append mt_append (pe_fldK K (pv 0) rfl) (pa_cons (pv 7) pa_nil))))) pss_nil)
    (pss_one (ps_expr (pe_bm PySem.F.plainAttrs_list PySem.F.slot_list_append PySem.F.type_list_append mt_append (pe_fldK K (pv 0) rfl) (pa_cons (pe_tup (pa_cons (pv 1) (pa_cons (pv 2) (pa_cons (pe_dget hu (pe_fldK K (pv 0) rfl) (pv 7) (fun _ _ => rfl)) (pa_cons (pv 5) (pa_cons (pv 6) pa_nil)))))) pa_nil)))))))), ?_⟩
    have hh := gi.held one (List.mem_of_getElem? h1)
    have hat : atI st.1 (place : Int) = some one := atI_nat (j := place) h1
    have e1 : EvR ePr _ (start N_Graph_add_steps [V.ref g, vp, vc]) H one := er_ixLs (K := K) (er_ev (ev_fld (K := K) (ev_var (i := 0) rfl) G.ins T.cl T.p (fsG_p _ _ _ _)) G.pr.r) (er_natI (er_var (i := 1) rfl rp)) hat
    have hs : SrcOf eStep _ (start N_Graph_add_steps [V.ref g, vp, vc]) H (steps ws one.1 one.2 c) NoA := src_new (K := K) (en_call4 (er := eStep) (pre := PreSt) (f := steps) (E := E0) (er_ev (ev_fld (K := K) (ev_var (i := 0) rfl) G.ins T.cl T.w (fsG_w _ _ _ _)) G.wd) (er_20 (K := K) e1) (er_21 (K := K) e1) (er_var (i := 2) rfl rc)
      ⟨gd, by have := (held_len gd hh.1); omega, by have := (held_len gd hh.2); omega, held_over gd hh.1, hc⟩)
    refine s_for [ps, ds, es] hs (fun a ha => ⟨G.nt a ha, noA⟩) (fun i σ' H' => ∃ z3 z4 z5 z6 z7, σ' = [some (V.ref g), some vp, some vc, z3, z4, z5, z6, z7] ∧ GA C H' g dx vw ps ds es ws (((steps ws one.1 one.2 c).take i).foldl (addOne place c one) st))
      (fun H1 k1 => ⟨none, none, none, none, none, rfl, G.mono k1⟩) ?_ ?_
    · rintro i x σ' H' hx kH ⟨z3, z4, z5, z6, z7, rfl, G1⟩ v H'' k2 rv
      have G2 := G1.mono k2
      have hi := get_len hx
      have hl2 := steps_le2 ws one.1 one.2 c
      have hnext : ((steps ws one.1 one.2 c).take (i + 1)).foldl (addOne place c one) st = addOne place c one (((steps ws one.1 one.2 c).take i).foldl (addOne place c one) st) x := by
        rw [List.take_add_one, hx, List.foldl_append]; rfl
      have hgi := (addSteps_ok gd hc ((steps ws one.1 one.2 c).take i) st (fun s hs => List.mem_of_mem_take hs) gi h1).1
      have hfew := hgi.few gd
      have hel := foldl_elen place c one ((steps ws one.1 one.2 c).take i) st
      rw [List.length_take] at hel
      generalize ((steps ws one.1 one.2 c).take i).foldl (addOne place c one) st = st1 at *
      have kk : TEx H H'' := (tex_h kH G.nt).trans (ex_tex k2)
      have rc2 : eChr.R H'' vc c := rc
      refine g_4 rv fun x3 x4 x5 x6 r3 r4 r5 r6 => ?_
      refine q_asgR (er_tup2 (er_var rfl r3) (er_var rfl r4)) fun v7 H3 k3 r7 => ?_
      have G3 := G2.mono k3
      -- the last append
      have fin : ∀ (P' : List (Tx × Tx)) (j : Nat) (H4 : Hp), Ex (hid H3 [ps, ds, es]) H4 → LsAt ePr H4 ps P' → H4 ds = some (.dT (encD (dOf P'))) → LsAt eEd H4 es st1.2 → lookD (dOf P') (x.1, x.2.1) = some (j : Int) →
          addOne place c one st1 x = (P', st1.2 ++ [⟨place, c, j, one, (x.1, x.2.1), x.2.2.1, x.2.2.2⟩]) →
          tDrop (tBM K "list" rAppend (tFld K (tVar 0) "edges") (tCons (tTup (tCons (tVar 1) (tCons (tVar 2) (tCons (tDGet (tFld K (tVar 0) "places") (tVar 7)) (tCons (tVar 5) (tCons (tVar 6) tNil)))))) tNil))
            { nx := fun σ3 H3 => Ex (hid H' [ps, ds, es]) H3 ∧ ∃ z3 z4 z5 z6 z7, σ3 = [some (V.ref g), some vp, some vc, z3, z4, z5, z6, z7] ∧ GA C H3 g dx vw ps ds es ws (((steps ws one.1 one.2 c).take (i + 1)).foldl (addOne place c one) st), rt := Q,
              ct := fun σ3 H3 => Ex (hid H' [ps, ds, es]) H3 ∧ ∃ z3 z4 z5 z6 z7, σ3 = [some (V.ref g), some vp, some vc, z3, z4, z5, z6, z7] ∧ GA C H3 g dx vw ps ds es ws (((steps ws one.1 one.2 c).take (i + 1)).foldl (addOne place c one) st), bk := fun _ H' => Q .non H' }
            [some (V.ref g), some vp, some vc, some x3, some x4, some x5, some x6, some v7] H4 := by
        intro P' j H4 k4 hp hd hed hj hst
        have G4 : GA C H4 g dx vw ps ds es ws (P', st1.2) := G3.next (st' := (P', st1.2)) (fun _ h => h) k4 hp hd hed
        have t4 : TEx H3 H4 := tex_h k4 G3.nt
        refine s_appR (e := eEd) (x := ⟨place, c, j, one, (x.1, x.2.1), x.2.2.1, x.2.2.2⟩) (ev_fld (ev_var rfl) G4.ins T.cl T.e (fsG_e _ _ _ _)) hed ?_ (by omega) fun H5 k5 r5 => ?_
        · refine EvR.cast (ea := e5 eNat eChr eNat eInt eInt) (x := (place, c, j, x.2.2.1, x.2.2.2)) ?_ fun _ _ r => r
          exact (er_tup5 (er_var (e := eNat) (x := place) rfl rp) (er_var (e := eChr) (x := c) rfl rc) (er_intN (er_dget (d := dOf P') (p := (x.1, x.2.1)) (x := (j : Int)) (er_ev (ev_fld (ev_var rfl) G4.ins T.cl T.l (fsG_l _ _ _ _)) ⟨ds, rfl, hd⟩) (er_var rfl (Imm.imm (e := ePr) t4 r7)) hj) rfl)
            (er_var (e := eInt) rfl r5) (er_var (e := eInt) rfl r6))
        · refine ⟨?_, _, _, _, _, _, rfl, ?_⟩
          · refine (ex_hid [ps, ds, es] (k2.trans k3)).trans ((ex_rehid k4).trans ?_)
            exact ex_wide (by simp) k5
          · rw [hnext, hst]
            refine G4.next (st' := (P', _)) (ls := [es]) (by simp) k5 ?_ ?_ r5
            · exact hp.keep k5 (by simpa using G4.ne) (tex_h k5 fun a ha => by rw [List.mem_singleton.mp ha]; exact hed.some)
            · exact keep k5 hd (by simpa using G4.des)
      refine q_when (et_rB (er_dnotin (er_ev (ev_fld (ev_var rfl) G3.ins T.cl T.l (fsG_l _ _ _ _)) ⟨ds, rfl, G3.pl⟩) (er_var rfl r7))) (fun hb H4 k4 => ?_) (fun hb H4 k4 => ?_)
      · have hn : st1.1.contains (x.1, x.2.1) = false := by
          rw [dOf_look] at hb
          cases hq : st1.1.contains (x.1, x.2.1) with
          | false => rfl
          | true => rw [hq, if_pos rfl] at hb; exact absurd hb (by simp)
        have G4 := G3.mono k4
        refine q_dput (er_lenL (er_ev (ev_fld (ev_var rfl) G4.ins T.cl T.p (fsG_p _ _ _ _)) G4.pr.r)) (ev_fld (ev_var rfl) G4.ins T.cl T.l (fsG_l _ _ _ _)) (er_var rfl (ePr.mono k4 r7)) G4.pl (by rw [dOf_len]; omega) fun H5 k5 h5 => ?_
        have t5 : TEx H4 H5 := tex_h k5 fun a ha => by rw [List.mem_singleton.mp ha]; exact ⟨_, G4.pl, fun _ q => nomatch q⟩
        have hp5 := G4.pr.keep k5 (by simpa using G4.dps.symm) t5
        have he5 := G4.ed.keep k5 (by simpa using G4.des.symm) t5
        have hi5 := keep k5 G4.ins (by simpa using G4.gds)
        rw [dOf_put hn] at h5
        refine s_appR (e := ePr) (x := (x.1, x.2.1)) (ev_fld (ev_var rfl) hi5 T.cl T.p (fsG_p _ _ _ _)) hp5 (er_var rfl (Imm.imm (e := ePr) t5 (ePr.mono k4 r7))) (by omega) fun H6 k6 r6 => ?_
        have t6 : TEx H5 H6 := tex_h k6 fun a ha => by rw [List.mem_singleton.mp ha]; exact hp5.some
        refine fin (st1.1 ++ [(x.1, x.2.1)]) st1.1.length H6 ?_ r6 (keep k6 h5 (by simpa using G4.dps)) (he5.keep k6 (by simpa using G4.ne.symm) t6) ?_ ?_
        · exact (ex_rehid ((ex_hid _ k4).trans (ex_wide (by simp) k5))).trans (ex_wide (by simp) k6)
        · rw [dOf_look]
          have : (st1.1 ++ [(x.1, x.2.1)]).contains (x.1, x.2.1) = true := by simp
          rw [if_pos this, List.idxOf_append, if_neg (by simpa using hn)]
          simp
        · unfold addOne
          rw [hn, if_neg (by decide)]
      · have hn : st1.1.contains (x.1, x.2.1) = true := by
          rw [dOf_look] at hb
          cases hq : st1.1.contains (x.1, x.2.1) with
          | true => rfl
          | false => rw [hq, if_neg (by decide)] at hb; exact absurd hb (by decide)
        have G4 := G3.mono k4
        refine fin st1.1 (st1.1.idxOf (x.1, x.2.1)) H4 (ex_unhid k4) G4.pr G4.pl G4.ed ?_ ?_
        · rw [dOf_look, hn, if_pos rfl]
        · unfold addOne
          rw [hn, if_pos rfl]
    · rintro σ' H' kH ⟨z3, z4, z5, z6, z7, rfl, G1⟩
      rw [List.take_length] at G1
      exact q H' kH G1
-- slots: 0=self 1=words 2=place 3=letter
abbrev st_Graph_init : Stmt := inClass (top 28) 0
abbrev N_Graph_init : List Str := ["self", "words", "place", "letter"]
theorem sc_Graph_init : FnScope N_Graph_init ["self", "words"] (defScope st_Graph_init) := ⟨rfl, rfl, rfl, by decide +kernel, rfl, by decide +kernel, by decide +kernel⟩
def sp_Graph (C : Addr) : Sp := fun vs H Q _ => ∃ (g dx : Addr) (vw : V) (ws : Ws), vs = [.ref g, vw] ∧ H g = some (.ins C dx []) ∧ eWs.R H vw ws ∧ Good ws ∧
  ∀ H' vw' ps ds es, Ex (hid H [g]) H' → GA C H' g dx vw' ps ds es ws (graph ws) → Q .non H'
theorem ok_Graph (B : Bl mg) {C : Addr} (T : GF K C) (F : InitAt K mg "Graph" C "Graph.__init__" st_Graph_init ["self", "words"]) (c_letters_in : Cal P w K mg base "letters_in" 1 ["words"] sp_letters) (c_add_steps : CalM P w K mg base C "add_steps" 6 ["self", "place", "letter"] (sp_add C)) :
    New P w K mg base "Graph" C 7 ["self", "words"] (sp_Graph C) := by
  refine F.new sc_Graph_init (fun vs H Q E h => ?_) (fun f cdv A outer s H vs Q E hr h => ?_)
  · obtain ⟨_, _, _, _, rfl, _⟩ := h; rfl
  · obtain ⟨g, dx, vw, ws, rfl, hg, rw0, gd, q⟩ := h
    have hu := huU hr
    have clGraph := T.cl
    refine ⟨_, (pss_cons (ps_fld (pv 0) (pv 1) rfl)
    (pss_cons (ps_fld (pv 0) (pe_lst (pa_cons (pe_tup (pa_cons pe_str (pa_cons pe_str pa_nil))) pa_nil)) rfl)
    (pss_cons (ps_fld (pv 0) (pe_dispT1 hu (pe_tup (pa_cons pe_str (pa_cons pe_str pa_nil))) pe_int) rfl)
    (pss_cons (ps_fld (pv 0) (pe_lst pa_nil) rfl)
    (pss_cons (ps_set (i := 2) sc_Graph_init.nd rfl (.inl rfl) pe_int)
    (pss_one (ps_while PassesOwn.never (pt_cmpR op_lt (pv 2) (pe_callB (call_len_seqK K) (by rfl) B.len (by decide +kernel) (pa_cons (pe_fldK K (pv 0) rfl) pa_nil)) (nomark _)) (pss_cons (ps_for PassesOwn.never rfl (pi_str (pe_cal c_letters_in hr (by decide) (by rfl) (pa_cons (pv 1) pa_nil))) (pg_name (i := 3) sc_Graph_init.nd rfl (.inl rfl))
    (pss_one (ps_expr (pe_calM clGraph c_add_steps hr (by decide) (pv 0) (pa_cons (pv 2) (pa_cons (pv 3) pa_nil))))))
    (pss_one (ps_set (i := 2) sc_Graph_init.nd rfl (.inl rfl) (pe_op (op_add) (pv 2) pe_int))))))))))), ?_⟩
    have nt : ∀ {H : Hp} {fs : List (Str × V)}, H g = some (.ins C dx fs) → ∀ a ∈ [g], ∃ o, H a = some o ∧ ∀ xs, o ≠ .tup xs := fun h a ha => by rw [List.mem_singleton.mp ha]; exact ⟨_, h, fun _ q => nomatch q⟩
    have ng : ∀ {H : Hp} {fs : List (Str × V)} {p : Addr}, H g = some (.ins C dx fs) → H p = none → p ∉ [g] := fun h hp m => by rw [List.mem_singleton.mp m, h] at hp; cases hp
    refine q_fldR (er_var (e := eWs) rfl rw0) (ev_var rfl) hg T.cl T.w (by decide) fun v1 H1 k1 r1 h1 => ?_
    have w1 : eWs.R H1 vw ws := Imm.imm (e := eWs) (tex_h k1 (nt hg)) rw0
    refine q_fldN (e := ePr) (en_one (er_tup2 (er_str (t := []) (by decide +kernel)) (er_str (t := []) (by decide +kernel)))) (ev_var rfl) h1 T.cl T.p (pl1 _ _) fun ps H2 hp k2 r2 h2 => ?_
    have t2 := tex_h k2 (nt h1)
    refine q_fldD (d := [(([], []), 0)]) (ev_disp (fun H1 _ => er_tup2 (er_str (t := []) (by decide +kernel)) (er_str (t := []) (by decide +kernel))) (fun H1 _ => er_int)) (ev_var rfl) h2 T.cl T.l (pl2 _ _ _ _) fun ds H3 hd k3 r3 h3 => ?_
    have t3 := tex_h k3 (nt h2)
    have np : ps ∉ [g] := ng h1 hp
    have r2' := r2.keep k3 np t3
    refine q_fldN (e := eEd) en_nil (ev_var rfl) h3 T.cl T.e (pl3 _ _ _ _ _ _) fun es H4 he k4 r4 h4 => ?_
    have t4 := tex_h k4 (nt h3)
    have r2'' := r2'.keep k4 np t4
    have hne : ps ≠ es := fun z => by obtain ⟨xs, hx, _⟩ := r2'; rw [z, he] at hx; cases hx
    have G4 : GA C H4 g dx v1 ps ds es ws g0 := ⟨h4, Imm.imm (e := eWs) ((t2.trans t3).trans t4) r1, r2'', keep k4 r3 (ng h2 hd), r4, hne⟩
    have w4 : eWs.R H4 vw ws := Imm.imm (e := eWs) ((t2.trans t3).trans t4) w1
    have kk4 : Ex (hid H [g]) H4 := (ex_rehid ((ex_rehid ((ex_rehid k1).trans k2)).trans k3)).trans k4
    have fresh : ∀ a ∈ [ps, ds, es], hid H [g] a = none := fun a ha => by
      simp only [List.mem_cons, List.not_mem_nil, or_false] at ha
      rcases ha with rfl | rfl | rfl
      · exact fresh_back k1 hp
      · exact fresh_back ((ex_rehid k1).trans k2) hd
      · exact fresh_back ((ex_rehid ((ex_rehid k1).trans k2)).trans k3) he
    refine q_asgR (e := eNat) (x := 0) er_nat fun vz H5 k5 r5 => ?_
    cases r5
    refine s_wh [ps, ds, es] (fun m σ' H' => ∃ (p : Nat) (st : GSt) (z : Option V), σ' = [some (.ref g), some vw, some (.int (p : Int)), z] ∧ m = 400 - p ∧ p ≤ 400 ∧ GA C H' g dx v1 ps ds es ws st ∧ GI ws st ∧ graphF ws (400 - p) p st = graph ws ∧ p ≤ st.1.length ∧ st.2.length ≤ 16 * p)
      400 ⟨0, g0, none, rfl, rfl, by omega, G4.mono k5, gi0 ws, rfl, Nat.zero_le _, Nat.le_refl _⟩ ?_
    rintro m σ' H' kH ⟨p, st, z, rfl, rfl, hp4, G, gi, hgr, hpl, hel⟩
    have hfew := gi.few gd
    have wH : eWs.R H' vw ws := Imm.imm (e := eWs) (tex_h kH (G4.mono k5).nt) (eWs.mono k5 w4)
    refine ⟨_, et_r (er_lt (er_natI (er_var (e := eNat) (x := p) rfl rfl)) (er_lenL (er_ev (ev_fld (ev_var rfl) G.ins T.cl T.p (fsG_p _ _ _ _)) G.pr.r))), fun hb H6 k6 => ?_, fun hb H6 k6 => ?_⟩
    · have hlt : p < st.1.length := by have := of_decide_eq_true hb; omega
      have G6 := G.mono k6
      have h1 : st.1[p]? = some (st.1.getD p ([], [])) := by
        rw [List.getElem?_eq_getElem hlt]; simp [hlt]
      have hll := lets_len gd
      refine q_for [ps, ds, es] (src_str (er_call1 (er_var rfl (eWs.mono k6 wH)) gd)) (fun a ha => ⟨G6.nt a ha, noA⟩) (fun i σ' H' => ∃ z, σ' = [some (V.ref g), some vw, some (.int (p : Int)), z] ∧ GA C H' g dx v1 ps ds es ws (((lets ws).take i).foldl (addLet ws p (st.1.getD p ([], []))) st))
        (fun H1 k1 => ⟨z, rfl, G6.mono k1⟩) ?_ ?_
      · rintro i c σ' H7 hx k7 ⟨z7, rfl, G7⟩ v H8 k8 rv
        refine g_1 ?_
        have a := addLets_ok gd ((lets ws).take i) st (fun _ h => List.mem_of_mem_take h) gi h1
        have hb2 := addLets_elen ws p (st.1.getD p ([], [])) ((lets ws).take i) st
        rw [List.length_take] at hb2
        have hnext : ((lets ws).take (i + 1)).foldl (addLet ws p (st.1.getD p ([], []))) st = addLet ws p (st.1.getD p ([], [])) (((lets ws).take i).foldl (addLet ws p (st.1.getD p ([], []))) st) c := by
          rw [List.take_add_one, hx, List.foldl_append]; rfl
        have G8 := G7.mono k8
        refine ⟨_, rfl, g, dx, _, rfl, G8.ins, fsG_a _ _ _ _, _, rfl, _, rfl, g, dx, v1, ps, ds, es, ws, _, p, c, _, _, _, rfl, rfl, rv, G8, gd, a.1, a.2.1.at_ h1, List.mem_of_getElem? hx, by omega, fun H9 k9 G9 => ?_⟩
        exact ⟨(ex_hid _ k8).trans k9, _, rfl, hnext ▸ G9⟩
      · rintro σ' H7 k7 ⟨z7, rfl, G7⟩
        rw [List.take_length] at G7
        have G7 : GA C H7 g dx v1 ps ds es ws (addPlace ws p st) := G7
        have ap := addPlace_ok gd gi hlt
        have hb2 := addLets_elen ws p (st.1.getD p ([], [])) (lets ws) st
        have hb3 : (addPlace ws p st).2.length ≤ st.2.length + 2 * (lets ws).length := hb2
        refine s_asgR (e := eNat) (x := p + 1) (er_intN (er_add (er_natI (er_var (e := eNat) (x := p) rfl rfl)) er_int) (by rw [Int.natCast_add]; rfl)) fun v8 H8 k8 r8 => ?_
        cases r8
        refine ⟨(ex_hid _ k6).trans (k7.trans k8), 400 - (p + 1), by omega, p + 1, addPlace ws p st, z7, rfl, rfl, by omega, G7.mono k8, ap.1, ?_, ?_, by omega⟩
        · rw [← hgr, show 400 - p = (400 - (p + 1)) + 1 by omega, graphF_go hlt]
        · have := ap.2.1.pre.length_le
          omega
    · have hle : st.1.length ≤ p := by have := of_decide_eq_false hb; omega
      rw [graphF_stop hle] at hgr
      subst hgr
      refine q H6 v1 ps ds es ?_ (G.mono k6)
      have := (ex_base (kk4.trans k5) fresh).trans kH
      exact this.trans k6
end
end K61

/-! K61H: options as data; the climb in the heap; prefixes of a rise. -/
namespace K61
open PySem PySem.Spec PyProof.Rows L2 Evl
section
variable {α : Type} {K : PySem.W.Frag} {σ : L2.St} {H H1 : Hp} {ta te : TE}
theorem er_none {e : Enc α} : EvR (eOpt e) (tC .non) σ H none := fun H1 _ _ q => q _ H1 (Ex.refl _) rfl
theorem er_someI {e : Enc α} {x : α} (h : EvR e te σ H x) (n : ∀ H v x, e.R H v x → v ≠ .non) : EvR (eOpt e) te σ H (some x) := h.cast fun H v r => ⟨n H v x r, r⟩
theorem er_some {e : Enc α} {x : α} (h : EvR (eOpt e) te σ H (some x)) : EvR e te σ H x := h.cast fun H v r => r.2
theorem nn_int (H : Hp) (v : V) (x : Int) (h : eInt.R H v x) : v ≠ .non := by cases h; exact fun q => nomatch q
theorem nn_nat (H : Hp) (v : V) (x : Nat) (h : eNat.R H v x) : v ≠ .non := by cases h; exact fun q => nomatch q
theorem dec_non {H : Hp} {e : Enc α} {v : V} {x : Option α} (h : (eOpt e).R H v x) : decide (v = .non) = x.isNone := by
  cases x with
  | none => exact decide_eq_true h
  | some y => exact decide_eq_false h.1
theorem er_isN {e : Enc α} {x : Option α} (h : EvR (eOpt e) ta σ H x) : EvR eBl (tOp (fun x y H Q => y = .non ∧ Q (.bl (decide (x = .non))) H) ta (tC .non)) σ H x.isNone := fun H1 k Q q =>
  h H1 k _ fun v H2 k2 r => ⟨rfl, by rw [dec_non r]; exact q _ H2 k2 rfl⟩
theorem er_notN {e : Enc α} {x : Option α} (h : EvR (eOpt e) ta σ H x) : EvR eBl (tOp (fun x y H Q => y = .non ∧ Q (.bl (!decide (x = .non))) H) ta (tC .non)) σ H (!x.isNone) := fun H1 k Q q =>
  h H1 k _ fun v H2 k2 r => ⟨rfl, by rw [dec_non r]; exact q _ H2 k2 rfl⟩
theorem et_truthL {e : Enc α} {l : List α} (h : EvR (eLs e) ta σ H l) : EvT (fun σ H Q => ta σ H fun x H' => ∃ k, TruV K x H' k ∧ Q k H') σ H (!l.isEmpty) := fun H1 k Q q =>
  h H1 k _ fun v H2 k2 r => by
    obtain ⟨a, xs, rfl, h2, h3⟩ := r
    refine ⟨_, .inl ⟨xs, SqL.of h2, rfl⟩, ?_⟩
    have : xs.isEmpty = l.isEmpty := by
      cases h3 <;> rfl
    rw [this]
    exact q H2 k2
theorem er_ed {x : Edge} (h : EvR eEd te σ H x) : EvR (e5 eNat eChr eNat eInt eInt) te σ H (x.src, x.c, x.dst, x.gain, x.loss) := h.cast fun _ _ r => r
end
theorem atI_getD {α : Type} {l : List (Option α)} {i : Nat} (h : i < l.length) : atI l (i : Int) = some (l.getD i none) := atI_nat (j := i) (by rw [List.getD_eq_getElem?_getD, List.getElem?_eq_getElem h]; rfl)

/-! ### prefixes of a rise -/
theorem riseF_snoc (a b : Int) : ∀ (l : List Edge) (k : Nat) (e : Edge) (st : CSt), riseF a b k (l ++ [e]) st = rise1 a b (k + l.length) e (riseF a b k l st)
  | [], k, e, st => rfl
  | d :: r, k, e, st => by
    show riseF a b (k + 1) (r ++ [e]) (rise1 a b k d st) = rise1 a b (k + (r.length + 1)) e (riseF a b (k + 1) r (rise1 a b k d st))
    rw [riseF_snoc a b r (k + 1) e, show k + 1 + r.length = k + (r.length + 1) by omega]
def riseP (a b : Int) (E : List Edge) (hs : Hs) (ls : Ls) (i : Nat) : CSt := riseF a b 0 (E.take i) (hs, ls, none)
theorem riseP_next {a b : Int} {E : List Edge} {hs : Hs} {ls : Ls} {i : Nat} {e : Edge} (h : E[i]? = some e) : riseP a b E hs ls (i + 1) = rise1 a b i e (riseP a b E hs ls i) := by
  have hi := (List.getElem?_eq_some_iff.mp h).1
  unfold riseP
  rw [List.take_add_one, h]
  show riseF a b 0 (E.take i ++ [e]) _ = _
  rw [riseF_snoc, List.length_take, Nat.min_eq_left (by omega), Nat.zero_add]
theorem rise1_len (a b : Int) (k : Nat) (e : Edge) (st : CSt) : (rise1 a b k e st).1.length = st.1.length ∧ (rise1 a b k e st).2.1.length = st.2.1.length := by
  rcases rise1_cases a b k e st with ⟨h, _⟩ | ⟨x, _, _, h⟩
  · rw [h]; exact ⟨rfl, rfl⟩
  · rw [h]; exact ⟨List.length_set, List.length_set⟩
theorem riseF_len (a b : Int) : ∀ (l : List Edge) (k : Nat) (st : CSt), (riseF a b k l st).1.length = st.1.length ∧ (riseF a b k l st).2.1.length = st.2.1.length
  | [], k, st => ⟨rfl, rfl⟩
  | e :: r, k, st => by
    have h1 := riseF_len a b r (k + 1) (rise1 a b k e st)
    have h2 := rise1_len a b k e st
    exact ⟨h1.1.trans h2.1, h1.2.trans h2.2⟩
theorem rise1_none {a b : Int} {k : Nat} {e : Edge} {st : CSt} (h : st.1.getD e.src none = none) : rise1 a b k e st = st := by
  unfold rise1
  rw [h]
theorem rise1_some {a b : Int} {k : Nat} {e : Edge} {st : CSt} {x : Int} (h : st.1.getD e.src none = some x) : rise1 a b k e st = if ((st.1.getD e.dst none).isNone || decide ((st.1.getD e.dst none).getD 0 < x + wt a b e)) = true then (st.1.set e.dst (some (x + wt a b e)), st.2.1.set e.dst (some k), some e.dst) else st := by
  unfold rise1
  rw [h]
  cases hd : st.1.getD e.dst none with
  | none => rfl
  | some y =>
    show (if y < x + wt a b e then _ else _) = if ((false || decide (y < x + wt a b e)) = true) then _ else _
    rw [Bool.false_or]
    by_cases h : y < x + wt a b e
    · rw [if_pos h, if_pos (decide_eq_true h)]
    · rw [if_neg h, if_neg (by simpa using h)]

/-! ### the climb in the heap -/
def fsC (vg : V) (hA lA wA : Addr) : List (Str × V) := putF "weights" (.ref wA) (putF "last" (.ref lA) (putF "heights" (.ref hA) (putF "graph" vg [])))
theorem fsC_g (vw : V) (ps ds es : Addr) : (fsC vw ps ds es).lookup ("graph" : Str) = some vw := by
  unfold fsC
  rw [lookup_putF, if_neg (by decide +kernel), lookup_putF, if_neg (by decide +kernel), lookup_putF, if_neg (by decide +kernel), lookup_putF, if_pos rfl]
theorem fsC_h (vw : V) (ps ds es : Addr) : (fsC vw ps ds es).lookup ("heights" : Str) = some (.ref ps) := by
  unfold fsC
  rw [lookup_putF, if_neg (by decide +kernel), lookup_putF, if_neg (by decide +kernel), lookup_putF, if_pos rfl]
theorem fsC_l (vw : V) (ps ds es : Addr) : (fsC vw ps ds es).lookup ("last" : Str) = some (.ref ds) := by
  unfold fsC
  rw [lookup_putF, if_neg (by decide +kernel), lookup_putF, if_pos rfl]
theorem fsC_w (vw : V) (ps ds es : Addr) : (fsC vw ps ds es).lookup ("weights" : Str) = some (.ref es) := by
  unfold fsC
  rw [lookup_putF, if_pos rfl]
theorem fsC_no (vw : V) (ps ds es : Addr) {m : Str} (h1 : ¬ m = "weights") (h2 : ¬ m = "last") (h3 : ¬ m = "heights") (h4 : ¬ m = "graph") : (fsC vw ps ds es).lookup m = none := by
  unfold fsC
  rw [lookup_putF, if_neg h1, lookup_putF, if_neg h2, lookup_putF, if_neg h3, lookup_putF, if_neg h4]
  rfl
structure CF (K : PySem.W.Frag) (C : Addr) : Prop where
  cl : Cls K C
  g : NoAttr K C "graph"
  h : NoAttr K C "heights"
  l : NoAttr K C "last"
  w : NoAttr K C "weights"
structure CA (CG C : Addr) (H : Hp) (c dx g gx : Addr) (vw : V) (ps ds es hA lA wA : Addr) (ws : Ws) (st : GSt) (a b : Int) (hs : Hs) (ls : Ls) : Prop where
  ins : H c = some (.ins C dx (fsC (.ref g) hA lA wA))
  gr : GA CG H g gx vw ps ds es ws st
  hs : LsAt (eOpt eInt) H hA hs
  ls : LsAt (eOpt eNat) H lA ls
  wt : LsAt eInt H wA (st.2.map (wt a b))
  n1 : hA ≠ lA
  n2 : hA ≠ wA
  n3 : lA ≠ wA
  n4 : hA ≠ ps
  n5 : hA ≠ es
  n6 : lA ≠ ps
  n7 : lA ≠ es
section
variable {CG C : Addr} {H H1 : Hp} {c dx g gx : Addr} {vw : V} {ps ds es hA lA wA : Addr} {ws : Ws} {st : GSt} {a b : Int} {hs : Hs} {ls : Ls}
theorem CA.mono (h : CA CG C H c dx g gx vw ps ds es hA lA wA ws st a b hs ls) (k : Ex H H1) : CA CG C H1 c dx g gx vw ps ds es hA lA wA ws st a b hs ls :=
  ⟨k _ _ h.ins, h.gr.mono k, h.hs.mono k, h.ls.mono k, h.wt.mono k, h.n1, h.n2, h.n3, h.n4, h.n5, h.n6, h.n7⟩
theorem CA.nt (h : CA CG C H c dx g gx vw ps ds es hA lA wA ws st a b hs ls) : ∀ a ∈ [hA, lA], ∃ o, H a = some o ∧ ∀ xs, o ≠ .tup xs := fun a ha => by
  simp only [List.mem_cons, List.not_mem_nil, or_false] at ha
  rcases ha with rfl | rfl
  · exact h.hs.some
  · exact h.ls.some
theorem nLst {H : Hp} {a b : Addr} {o : HO} {α : Type} {e : Enc α} {l : List α} (h : H a = some o) (ho : ∀ xs, o ≠ .lst xs) (hb : LsAt e H b l) : a ≠ b := fun q => by
  obtain ⟨xs, h1, _⟩ := hb
  rw [← q, h] at h1
  exact ho xs (Option.some.inj h1)
theorem CA.next {hs' : Hs} {ls' : Ls} {L : List Addr} (h : CA CG C H c dx g gx vw ps ds es hA lA wA ws st a b hs ls) (hl : ∀ a ∈ L, a ∈ [hA, lA]) (k : Ex (hid H L) H1) (h1 : LsAt (eOpt eInt) H1 hA hs') (h2 : LsAt (eOpt eNat) H1 lA ls') : CA CG C H1 c dx g gx vw ps ds es hA lA wA ws st a b hs' ls' := by
  have k := ex_wide hl k
  have t := tex_h k h.nt
  have nm : ∀ {x : Addr}, x ≠ hA → x ≠ lA → x ∉ [hA, lA] := fun a b m => by
    simp only [List.mem_cons, List.not_mem_nil, or_false] at m
    rcases m with q | q
    · exact a q
    · exact b q
  refine ⟨keep k h.ins (nm (nLst h.ins (fun _ q => nomatch q) h.hs) (nLst h.ins (fun _ q => nomatch q) h.ls)), ?_, h1, h2, h.wt.keep k (nm h.n2.symm h.n3.symm) t, h.n1, h.n2, h.n3, h.n4, h.n5, h.n6, h.n7⟩
  exact ⟨keep k h.gr.ins (nm (nLst h.gr.ins (fun _ q => nomatch q) h.hs) (nLst h.gr.ins (fun _ q => nomatch q) h.ls)), Imm.imm (e := eWs) t h.gr.wd, h.gr.pr.keep k (nm h.n4.symm h.n6.symm) t,
    keep k h.gr.pl (nm (nLst h.gr.pl (fun _ q => nomatch q) h.hs) (nLst h.gr.pl (fun _ q => nomatch q) h.ls)), h.gr.ed.keep k (nm h.n5.symm h.n7.symm) t, h.gr.ne⟩
end
end K61

/-! K61P5: the program's climb. -/
namespace K61
open PySem PySem.Spec PyProof.Rows L2 Evl
section
variable {P : Program} {w : World} {K : PySem.W.Frag} {mg : Str → Option Value} {base : Heap}
theorem zip_at {α : Type} {l : List α} {i : Nat} {x : Nat × α} (h : ((List.range l.length).zip l)[i]? = some x) : x.1 = i ∧ l[i]? = some x.2 := by
  rw [List.getElem?_zip_eq_some] at h
  obtain ⟨h1, h2⟩ := h
  have hi := (List.getElem?_eq_some_iff.mp h2).1
  rw [List.getElem?_range hi] at h1
  exact ⟨(Option.some.inj h1).symm, h2⟩
-- slots: 0=self 1=raised 2=number 3=edge 4=height
abbrev st_Climb_rise : Stmt := inClass (top 40) 1
abbrev N_Climb_rise : List Str := ["self", "raised", "number", "edge", "height"]
theorem sc_Climb_rise : FnScope N_Climb_rise ["self"] (defScope st_Climb_rise) := ⟨rfl, rfl, rfl, by decide +kernel, rfl, by decide +kernel, by decide +kernel⟩
def sp_rise (CG C : Addr) : Sp := fun vs H Q _ => ∃ (c dx g gx : Addr) (vw : V) (ps ds es hA lA wA : Addr) (ws : Ws) (st : GSt) (a b : Int) (hs : Hs) (ls : Ls), vs = [.ref c] ∧ CA CG C H c dx g gx vw ps ds es hA lA wA ws st a b hs ls ∧ EOk st.1.length st.2 ∧ hs.length = st.1.length ∧ ls.length = st.1.length ∧
  ∀ H' v, Ex (hid H [hA, lA]) H' → CA CG C H' c dx g gx vw ps ds es hA lA wA ws st a b (rise a b st.2 hs ls).1 (rise a b st.2 hs ls).2.1 → (eOpt eNat).R H' v (rise a b st.2 hs ls).2.2 → Q v H'
theorem ok_rise (B : Bl mg) {CG C : Addr} (TG : GF K CG) (T : CF K C) (F : MethAt K C "rise" "Climb.rise" st_Climb_rise ["self"]) : CalM P w K mg base C "rise" 1 ["self"] (sp_rise CG C) := by
  refine F.cal sc_Climb_rise (fun vs H Q E h => ?_) (fun f cdv A outer s H vs Q E hr h => ?_)
  · obtain ⟨_, _, _, _, _, _, _, _, _, _, _, _, _, _, _, _, _, rfl, _⟩ := h; rfl
  · obtain ⟨c, dx, g, gx, vw, ps, ds, es, hA, lA, wA, ws, st, a, b, hs, ls, rfl, G, ok, hl, ll, q⟩ := h
    refine ⟨_, (pss_cons (ps_set (i := 1) sc_Climb_rise.nd rfl (.inl rfl) pe_non)
    (pss_cons (ps_for PassesOwn.never rfl (pi_enum (by rfl) B.enumerate (pa_cons (pe_fldK K (pe_fldK K (pv 0) rfl) rfl) pa_nil)) (pg_tupK K (n := 2) rfl (pgs_cons (pg_name (i := 2) sc_Climb_rise.nd rfl (.inl rfl)) (pgs_cons (pg_name (i := 3) sc_Climb_rise.nd rfl (.inl rfl)) pgs_nil)))
    (pss_one (ps_if (pt_cmpR op_notN (pe_ix (ix_listK K) (pe_fldK K (pv 0) rfl) (pe_ix (ix_tupK K) (pv 3) pe_int (fun _ _ => rfl)) (fun _ _ => rfl)) pe_non (nomark _)) (pss_cons (ps_set (i := 4) sc_Climb_rise.nd rfl (.inl rfl) (pe_op (op_add) (pe_ix (ix_listK K) (pe_fldK K (pv 0) rfl) (pe_ix (ix_tupK K) (pv 3) pe_int (fun _ _ => rfl)) (fun _ _ => rfl)) (pe_ix (ix_listK K) (pe_fldK K (pv 0) rfl) (pv 2) (fun _ _ => rfl))))
    (pss_one (ps_if (PW.pt (pw_or (pt_cmpR op_isN (pe_ix (ix_listK K) (pe_fldK K (pv 0) rfl) (pe_ix (ix_tupK K) (pv 3) pe_int (fun _ _ => rfl)) (fun _ _ => rfl)) pe_non (nomark _)) (pw_or1 (pt_cmpR op_lt (pe_ix (ix_listK K) (pe_fldK K (pv 0) rfl) (pe_ix (ix_tupK K) (pv 3) pe_int (fun _ _ => rfl)) (fun _ _ => rfl)) (pv 4) (nomark _))))) (pss_cons (ps_asg (pv 4) (pg_sub (pe_fldK K (pv 0) rfl) (pe_ix (ix_tupK K) (pv 3) pe_int (fun _ _ => rfl)) set_list))
    (pss_cons (ps_asg (pv 2) (pg_sub (pe_fldK K (pv 0) rfl) (pe_ix (ix_tupK K) (pv 3) pe_int (fun _ _ => rfl)) set_list))
    (pss_one (ps_set (i := 1) sc_Climb_rise.nd rfl (.inl rfl) (pe_ix (ix_tupK K) (pv 3) pe_int (fun _ _ => rfl)))))) pss_nil))) pss_nil)))
    (pss_one (ps_ret (pv 1))))), ?_⟩
    refine q_asgR (e := eOpt eNat) (x := none) er_none fun v1 H1 k1 r1 => ?_
    have G1 := G.mono k1
    refine q_for [hA, lA] (src_enum (e := eEd) (p := es) (ev_fld (ev_fld (ev_var rfl) G1.ins T.cl T.g (fsC_g _ _ _ _)) G1.gr.ins TG.cl TG.e (fsG_e _ _ _ _)) G1.gr.ed) (fun x hx => ⟨G1.nt x hx, fun qe => by
        simp only [List.mem_cons, List.not_mem_nil, or_false] at hx
        rcases hx with rfl | rfl
        · exact G.n5 qe
        · exact G.n7 qe⟩)
      (fun i σ' H' => ∃ vr z2 z3 z4, σ' = [some (V.ref c), some vr, z2, z3, z4] ∧ (eOpt eNat).R H' vr (riseP a b st.2 hs ls i).2.2 ∧ CA CG C H' c dx g gx vw ps ds es hA lA wA ws st a b (riseP a b st.2 hs ls i).1 (riseP a b st.2 hs ls i).2.1)
      (fun H2 k2 => ⟨v1, none, none, none, rfl, (eOpt eNat).mono k2 r1, G1.mono k2⟩) ?_ ?_
    · rintro i x σ' H2 hx k2 ⟨vr, z2, z3, z4, rfl, rr, G2⟩ v H3 k3 rv
      obtain ⟨hxi, hE⟩ := zip_at hx
      obtain ⟨j, e⟩ := x
      have hxi : j = i := hxi
      subst hxi
      have hE : st.2[j]? = some e := hE
      have hsrc := ok.src e (List.mem_of_getElem? hE)
      have hdst := ok.dst e (List.mem_of_getElem? hE)
      have hlen := riseF_len a b (st.2.take j) 0 (hs, ls, none)
      have hl1 : (riseP a b st.2 hs ls j).1.length = st.1.length := hlen.1.trans hl
      have ll1 : (riseP a b st.2 hs ls j).2.1.length = st.1.length := hlen.2.trans ll
      have G3 := G2.mono k3
      have rr3 := (eOpt eNat).mono k3 rr
      refine g_2 rv fun x2 x3 r2 r3 => ?_
      rw [riseP_next hE]
      generalize riseP a b st.2 hs ls j = s1 at *
      have eSrc : ∀ {H4 : Hp} {z : Option V}, Ex H3 H4 → EvR eInt (tOp (rIxT K) (tVar 3) (tC (.int 0))) [some (V.ref c), some vr, some x2, some x3, z] H4 (e.src : Int) := fun k => er_natI (er_50 (er_ed (er_var rfl (eEd.mono k r3))))
      have eDst : ∀ {H4 : Hp} {z : Option V}, Ex H3 H4 → EvR eNat (tOp (rIxT K) (tVar 3) (tC (.int 2))) [some (V.ref c), some vr, some x2, some x3, z] H4 e.dst := fun k => er_52 (er_ed (er_var rfl (eEd.mono k r3)))
      have eHs : ∀ {H4 : Hp} {z : Option V}, Ex H3 H4 → EvR (eLs (eOpt eInt)) (tFld K (tVar 0) "heights") [some (V.ref c), some vr, some x2, some x3, z] H4 s1.1 := fun k => er_ev (ev_fld (ev_var rfl) (G3.mono k).ins T.cl T.h (fsC_h _ _ _ _)) (G3.mono k).hs.r
      refine s_when (et_r (er_notN (er_ixLs (eHs (Ex.refl _)) (eSrc (Ex.refl _)) (atI_getD (by omega))))) (fun hb H4 k4 => ?_) (fun hb H4 k4 => ?_)
      · cases hx0 : s1.1.getD e.src none with
        | none => rw [hx0] at hb; exact absurd hb (by decide)
        | some x0 =>
          refine q_asgR (e := eInt) (x := x0 + wt a b e) (er_add (er_some ((er_ixLs (eHs k4) (eSrc k4) (atI_getD (by omega))).is hx0)) (er_ixLs (l := st.2.map (wt a b)) (er_ev (ev_fld (ev_var rfl) (G3.mono k4).ins T.cl T.w (fsC_w _ _ _ _)) (G3.mono k4).wt.r) (er_natI (er_var (e := eNat) (x := j) rfl (eNat.mono k4 r2))) (atI_nat (j := j) (by rw [List.getElem?_map, hE]; rfl)))) fun v4 H5 k5 r4 => ?_
          have k45 := k4.trans k5
          have G5 := G3.mono k45
          refine s_when (et_is (et_or (et_r (er_isN (er_ixLs (eHs k45) (er_natI (eDst k45)) (atI_getD (by omega))))) (b := decide ((s1.1.getD e.dst none).getD 0 < x0 + wt a b e)) fun hn => et_r (er_lt (er_some (er_ixLs (eHs k45) (er_natI (eDst k45)) ?_)) (er_var rfl r4))) rfl) (fun hb2 H6 k6 => ?_) (fun hb2 H6 k6 => ?_)
          · rw [atI_getD (by omega)]
            cases hd : s1.1.getD e.dst none with
            | none => rw [hd] at hn; exact absurd hn (by decide)
            | some y => rfl
          · have k46 := k45.trans k6
            refine q_setR (e := eOpt eInt) (x := some (x0 + wt a b e)) (er_someI (er_var rfl (eInt.mono k6 r4)) nn_int) (ev_fld (ev_var rfl) (G5.mono k6).ins T.cl T.h (fsC_h _ _ _ _)) (eDst k46) (G5.mono k6).hs (by omega) fun H7 k7 r7 => ?_
            have G6 := G5.mono k6
            have t7 : TEx H6 H7 := tex_h k7 fun a ha => by rw [List.mem_singleton.mp ha]; exact G6.hs.some
            have ls7 := G6.ls.keep k7 (by simpa using G6.n1.symm) t7
            have G7 := G6.next (L := [hA]) (by simp) k7 r7 ls7
            have r27 : eNat.R H7 x2 j := r2
            have r37 : eEd.R H7 x3 e := Imm.imm (e := eEd) ((ex_tex k46).trans t7) r3
            refine q_setR (e := eOpt eNat) (x := some j) (er_someI (er_var rfl r27) nn_nat) (ev_fld (ev_var rfl) G7.ins T.cl T.l (fsC_l _ _ _ _)) (er_52 (er_ed (er_var rfl r37))) ls7 (by show e.dst < _; omega) fun H8 k8 r8 => ?_
            have t8 : TEx H7 H8 := tex_h k8 fun a ha => by rw [List.mem_singleton.mp ha]; exact G7.ls.some
            have G8 := G7.next (L := [lA]) (by simp) k8 (r7.keep k8 (by simpa using G6.n1) t8) r8
            have r38 : eEd.R H8 x3 e := Imm.imm (e := eEd) t8 r37
            refine s_asgR (e := eOpt eNat) (x := some e.dst) (er_someI (er_52 (er_ed (er_var rfl r38))) nn_nat) fun v9 H9 k9 r9 => ?_
            rw [rise1_some hx0, if_pos hb2]
            refine ⟨?_, v9, some x2, some x3, some v4, rfl, r9, G8.mono k9⟩
            refine Ex.trans ?_ k9
            have k37 : Ex (hid H3 [hA, lA]) H7 := (ex_hid _ k46).trans (ex_wide (by simp) k7)
            exact ((ex_hid _ k3).trans (ex_rehid k37)).trans (ex_wide (by simp) k8)
          · rw [rise1_some hx0, if_neg (by rw [hb2]; decide)]
            exact ⟨ex_unhid (k3.trans (k45.trans k6)), vr, some x2, some x3, some v4, rfl, (eOpt eNat).mono (k45.trans k6) rr3, G5.mono k6⟩
      · have hx0 : s1.1.getD e.src none = none := by
          cases hx0 : s1.1.getD e.src none with
          | none => rfl
          | some x0 => rw [hx0] at hb; exact absurd hb (by simp)
        rw [rise1_none hx0]
        exact ⟨ex_unhid (k3.trans k4), vr, some x2, some x3, z4, rfl, (eOpt eNat).mono k4 rr3, G3.mono k4⟩
    · rintro σ' H2 k2 ⟨vr, z2, z3, z4, rfl, rr, G2⟩
      have e1 : riseP a b st.2 hs ls ((List.range st.2.length).zip st.2).length = rise a b st.2 hs ls := by
        rw [List.length_zip, List.length_range, Nat.min_self]
        unfold riseP
        rw [List.take_length]
        rfl
      rw [e1] at rr G2
      refine s_retR (er_var rfl rr) fun v H3 k3 r3 => q H3 v ?_ (G2.mono k3) r3
      exact ((ex_hid _ k1).trans k2).trans k3
-- slots: 0=self 1=raised 2=turn 3=found 4=place 5=edge
abbrev st_Climb_circle : Stmt := inClass (top 40) 2
abbrev N_Climb_circle : List Str := ["self", "raised", "turn", "found", "place", "edge"]
theorem sc_Climb_circle : FnScope N_Climb_circle ["self"] (defScope st_Climb_circle) := ⟨rfl, rfl, rfl, by decide +kernel, rfl, by decide +kernel, by decide +kernel⟩
def sp_circle (CG C : Addr) : Sp := fun vs H Q _ => ∃ (c dx g gx : Addr) (vw : V) (ps ds es hA lA wA : Addr) (ws : Ws) (st : GSt) (a b : Int), vs = [.ref c] ∧ CA CG C H c dx g gx vw ps ds es hA lA wA ws st a b (hs0 st.1.length) (ls0 st.1.length) ∧ Good ws ∧ Gr ws st ∧
  ∀ H' v, Ex (hid H [hA, lA]) H' → decide (v = V.non) = (climb a b st).1 → CA CG C H' c dx g gx vw ps ds es hA lA wA ws st a b (climb a b st).2.1 (climb a b st).2.2.1 → Q v H'
theorem ok_circle (B : Bl mg) {CG C : Addr} (TG : GF K CG) (T : CF K C) (F : MethAt K C "circle" "Climb.circle" st_Climb_circle ["self"]) (c_rise : CalM P w K mg base C "rise" 1 ["self"] (sp_rise CG C)) : CalM P w K mg base C "circle" 2 ["self"] (sp_circle CG C) := by
  refine F.cal sc_Climb_circle (fun vs H Q E h => ?_) (fun f cdv A outer s H vs Q E hr h => ?_)
  · obtain ⟨_, _, _, _, _, _, _, _, _, _, _, _, _, _, _, rfl, _⟩ := h; rfl
  · obtain ⟨c, dx, g, gx, vw, ps, ds, es, hA, lA, wA, ws, st, a, b, rfl, G, gd, gr, q⟩ := h
    have clClimb := T.cl
    refine ⟨_, (pss_cons (ps_set (i := 1) sc_Climb_circle.nd rfl (.inl rfl) pe_non)
    (pss_cons (ps_for PassesOwn.never rfl (pi_range1 (by rfl) B.range (pa_cons (pe_op (op_add) (pe_callB (call_len_seqK K) (by rfl) B.len (by decide +kernel) (pa_cons (pe_fldK K (pe_fldK K (pv 0) rfl) rfl) pa_nil)) pe_int) pa_nil)) (pg_name (i := 2) sc_Climb_circle.nd rfl (.inl rfl))
    (pss_cons (ps_set (i := 1) sc_Climb_circle.nd rfl (.inl rfl) (pe_calM0 clClimb c_rise hr (by decide) (pv 0)))
    (pss_one (ps_if (pt_cmpR op_isN (pv 1) pe_non (nomark _)) (pss_one (ps_ret pe_non)) pss_nil))))
    (pss_cons (ps_for PassesOwn.never rfl (pi_range1 (by rfl) B.range (pa_cons (pe_callB (call_len_seqK K) (by rfl) B.len (by decide +kernel) (pa_cons (pe_fldK K (pe_fldK K (pv 0) rfl) rfl) pa_nil)) pa_nil)) (pg_name (i := 2) sc_Climb_circle.nd rfl (.inl rfl))
    (pss_one (ps_set (i := 1) sc_Climb_circle.nd rfl (.inl rfl) (pe_ix (ix_tupK K) (pe_ix (ix_listK K) (pe_fldK K (pe_fldK K (pv 0) rfl) rfl) (pe_ix (ix_listK K) (pe_fldK K (pv 0) rfl) (pv 1) (fun _ _ => rfl)) (fun _ _ => rfl)) pe_int (fun _ _ => rfl)))))
    (pss_cons (ps_set (i := 3) sc_Climb_circle.nd rfl (.inl rfl) (pe_lst pa_nil))
    (pss_cons (ps_set (i := 4) sc_Climb_circle.nd rfl (.inl rfl) (pv 1))
    (pss_cons (ps_while PassesOwn.never (PW.pt (pw_or (pt_not (pt_truth (pv 3) (by intro _; rfl))) (pw_or1 (pt_cmpR op_ne (pv 4) (pv 1) (nomark _))))) (pss_cons (ps_set (i := 5) sc_Climb_circle.nd rfl (.inl rfl) (pe_ix (ix_listK K) (pe_fldK K (pe_fldK K (pv 0) rfl) rfl) (pe_ix (ix_listK K) (pe_fldK K (pv 0) rfl) (pv 4) (fun _ _ => rfl)) (fun _ _ => rfl)))
    (pss_cons (ps_expr (pe_bm PySem.F.plainAttrs_list PySem.F.slot_list_append PySem.F.type_list_append mt_append (pv 3) (pa_cons (pv 5) pa_nil)))
    (pss_one (ps_set (i := 4) sc_Climb_circle.nd rfl (.inl rfl) (pe_ix (ix_tupK K) (pv 5) pe_int (fun _ _ => rfl)))))))
    (pss_one (ps_ret (pe_revL (pv 3)))))))))), ?_⟩
    have hfew := gr.gi.few gd
    have ok := gr.eok
    have hn0 := gr.gi.pos
    have cok := climb_ok (a := a) (b := b) gr
    refine q_asgR (e := eOpt eNat) (x := none) er_none fun v1 H1 k1 r1 => ?_
    have G1 := G.mono k1
    have fin : ∀ H' v, Ex (hid H1 [hA, lA]) H' → decide (v = V.non) = (climb a b st).1 → CA CG C H' c dx g gx vw ps ds es hA lA wA ws st a b (climb a b st).2.1 (climb a b st).2.2.1 → Q v H' := fun H' v k => q H' v ((ex_hid _ k1).trans k)
    have nl : (List.range (st.1.length + 1)).length = st.1.length + 1 := List.length_range
    refine q_for [hA, lA] (src_range1 (n := st.1.length + 1) (er_intN (er_add (er_lenL (er_ev (ev_fld (ev_fld (ev_var rfl) G1.ins T.cl T.g (fsC_g _ _ _ _)) G1.gr.ins TG.cl TG.p (fsG_p _ _ _ _)) G1.gr.pr.r)) er_int) (by rw [Int.natCast_add]; rfl)) (by omega)) (fun x hx => ⟨G1.nt x hx, noA⟩)
      (fun i σ' H' => ∃ vr z2 hs ls ra, σ' = [some (V.ref c), some vr, z2, none, none, none] ∧ (eOpt eNat).R H' vr ra ∧ CA CG C H' c dx g gx vw ps ds es hA lA wA ws st a b hs ls ∧ hs.length = st.1.length ∧ ls.length = st.1.length ∧ climbF a b st.2 (st.1.length + 1 - i) ra hs ls = climb a b st)
      (fun H2 k2 => ⟨v1, none, _, _, none, rfl, (eOpt eNat).mono k2 r1, G1.mono k2, (ci0 (a := a) (b := b) (E := st.2) hn0).hl, (ci0 (a := a) (b := b) (E := st.2) hn0).ll, rfl⟩) ?_ ?_
    · rintro i x σ' H2 hx k2 ⟨vr, z2, hs, ls, ra, rfl, rr, G2, hl, ll, hc⟩ v H3 k3 rv
      have hi := get_len hx
      rw [nl] at hi
      have G3 := G2.mono k3
      refine g_1 ?_
      refine ⟨_, rfl, c, dx, _, rfl, G3.ins, fsC_no _ _ _ _ (by decide +kernel) (by decide +kernel) (by decide +kernel) (by decide +kernel), c, dx, g, gx, vw, ps, ds, es, hA, lA, wA, ws, st, a, b, hs, ls, rfl, G3, ok, hl, ll, fun H4 v4 k4 G4 r4 => ?_⟩
      have hlen := riseF_len a b st.2 0 (hs, ls, none)
      rw [show st.1.length + 1 - i = (st.1.length + 1 - (i + 1)) + 1 by omega] at hc
      unfold climbF at hc
      have k14 : Ex (hid H1 [hA, lA]) H4 := (ex_rehid (k2.trans k3)).trans k4
      refine s_when (et_r (er_isN (er_var (e := eOpt eNat) rfl r4))) (fun hb H5 k5 => ?_) (fun hb H5 k5 => ?_)
      · have hn : (rise a b st.2 hs ls).2.2 = none := by
          cases hq : (rise a b st.2 hs ls).2.2 with
          | none => rfl
          | some y => rw [hq] at hb; exact absurd hb (by simp)
        rw [if_pos hn] at hc
        show Q V.non H5
        refine fin H5 .non (k14.trans k5) ?_ ?_
        · rw [← hc]; rfl
        · rw [← hc]; exact G4.mono k5
      · have hn : (rise a b st.2 hs ls).2.2 ≠ none := fun hq => by rw [hq] at hb; exact absurd hb (by decide)
        rw [if_neg hn] at hc
        exact ⟨((ex_hid _ k3).trans k4).trans k5, v4, some v, _, _, _, rfl, (eOpt eNat).mono k5 r4, G4.mono k5, hlen.1.trans hl, hlen.2.trans ll, hc⟩
    · rintro σ' H2 k2 ⟨vr, z2, hs, ls, ra, rfl, rr, G2, hl, ll, hc⟩
      rw [nl, Nat.sub_self] at hc
      unfold climbF at hc
      have hcf : (climb a b st).1 = false := by rw [← hc]
      obtain ⟨v, hv, pp, hp1, hpn, hst, hper⟩ := cok.2.2 hcf
      rw [← hc] at hv hst hper
      have hv : ra = some v := hv
      subst hv
      have hst : ∀ m, Stp st.1.length st.2 ls (itr (prd st.2 ls) m v) := hst
      have hper : itr (prd st.2 ls) (st.1.length + pp) v = itr (prd st.2 ls) st.1.length v := hper
      have rr : vr = V.int (v : Int) := rr.2
      subst rr
      have eE : ∀ {H4 : Hp} {z1 z2 z3 z4 z5 : Option V}, Ex H2 H4 → EvR (eLs eEd) (tFld K (tFld K (tVar 0) "graph") "edges") [some (V.ref c), z1, z2, z3, z4, z5] H4 st.2 := fun k => er_ev (ev_fld (ev_fld (ev_var rfl) (G2.mono k).ins T.cl T.g (fsC_g _ _ _ _)) (G2.mono k).gr.ins TG.cl TG.e (fsG_e _ _ _ _)) (G2.mono k).gr.ed.r
      have eL : ∀ {H4 : Hp} {z1 z2 z3 z4 z5 : Option V}, Ex H2 H4 → EvR (eLs (eOpt eNat)) (tFld K (tVar 0) "last") [some (V.ref c), z1, z2, z3, z4, z5] H4 ls := fun k => er_ev (ev_fld (ev_var rfl) (G2.mono k).ins T.cl T.l (fsC_l _ _ _ _)) (G2.mono k).ls.r
      have eEdge : ∀ {H4 : Hp} {z1 z2 z3 z4 z5 : Option V} {te : TE} {u : Nat}, Ex H2 H4 → EvR eNat te [some (V.ref c), z1, z2, z3, z4, z5] H4 u → Stp st.1.length st.2 ls u → ∃ e : Edge, e.src = prd st.2 ls u ∧ EvR eEd (tOp (rIxL K) (tFld K (tFld K (tVar 0) "graph") "edges") (tOp (rIxL K) (tFld K (tVar 0) "last") te)) [some (V.ref c), z1, z2, z3, z4, z5] H4 e := by
        rintro H4 z1 z2 z3 z4 z5 te u k he ⟨hu, kk, e, h1, h2, h3⟩
        exact ⟨e, h3.symm, er_ixLs (eE k) (er_natI (er_some ((er_ixLs (eL k) (er_natI he) (atI_getD (by omega))).is h1))) (atI_nat (j := kk) h2)⟩
      refine q_for [] (src_range1 (n := st.1.length) (er_intN (er_lenL (er_ev (ev_fld (ev_fld (ev_var rfl) G2.ins T.cl T.g (fsC_g _ _ _ _)) G2.gr.ins TG.cl TG.p (fsG_p _ _ _ _)) G2.gr.pr.r)) rfl) (by omega)) (fun x hx => by cases hx)
        (fun i σ' H' => ∃ z2, σ' = [some (V.ref c), some (V.int ((itr (prd st.2 ls) i v : Nat) : Int)), z2, none, none, none]) (fun H2 k2 => ⟨z2, rfl⟩) ?_ ?_
      · rintro i x σ' H3 hx k3 ⟨z2, rfl⟩ w3 H4 k4 rw3
        rw [hid_nil] at k3
        refine g_1 ?_
        obtain ⟨e, he, hev⟩ := eEdge (te := tVar 1) (z1 := some (V.int ((itr (prd st.2 ls) i v : Nat) : Int))) (z2 := some w3) (z3 := none) (z4 := none) (z5 := none) (k3.trans k4) (er_var (e := eNat) rfl rfl) (hst i)
        refine s_asgR (er_50 (er_ed hev)) fun v5 H5 k5 r5 => ?_
        cases r5
        refine ⟨by rw [hid_nil]; exact k4.trans k5, some w3, ?_⟩
        rw [itr_succ, ← he]
        rfl
      · rintro σ' H3 k3 ⟨z2, rfl⟩
        rw [hid_nil] at k3
        rw [List.length_range]
        refine q_asgN (e := eEd) en_nil fun p H4 hp k4 r4 => ?_
        refine q_asgR (e := eNat) (er_var (x := itr (prd st.2 ls) st.1.length v) rfl rfl) fun v5 H5 k5 r5 => ?_
        cases r5
        have hu : ∀ j, itr (prd st.2 ls) j (itr (prd st.2 ls) st.1.length v) = itr (prd st.2 ls) (j + st.1.length) v := fun j => (itr_add _ j _ v).symm
        have hpu : itr (prd st.2 ls) pp (itr (prd st.2 ls) st.1.length v) = itr (prd st.2 ls) st.1.length v := by rw [hu, Nat.add_comm, hper]
        have hstu : ∀ j, Stp st.1.length st.2 ls (itr (prd st.2 ls) j (itr (prd st.2 ls) st.1.length v)) := fun j => by rw [hu]; exact hst _
        generalize itr (prd st.2 ls) st.1.length v = u at *
        refine q_wh [p] (fun m σ' H' => ∃ (j : Nat) (fl : List Edge) (z5 : Option V), σ' = [some (V.ref c), some (V.int (u : Int)), z2, some (V.ref p), some (V.int ((itr (prd st.2 ls) j u : Nat) : Int)), z5] ∧ m = pp - j ∧ j ≤ pp ∧ LsAt eEd H' p fl ∧ fl.length = j)
          pp ⟨0, [], none, rfl, rfl, Nat.zero_le _, r4.mono k5, rfl⟩ ?_
        rintro m σ' H6 k6 ⟨j, fl, z5, rfl, rfl, hj, hfl, hfj⟩
        have hp2 : H2 p = none := fresh_back k3 hp
        have kB : Ex H2 H6 := (ex_new1 ((k3.trans k4).trans k5) hp2).trans k6
        refine ⟨_, et_or (et_not (et_truthL (er_var rfl hfl.r))) fun _ => et_r (er_neI (er_natI (er_var (e := eNat) (x := itr (prd st.2 ls) j u) rfl rfl)) (er_natI (er_var (e := eNat) (x := u) rfl rfl))), fun hb H7 k7 => ?_, fun hb H7 k7 => ?_⟩
        · have hlt : j < pp := by
            rcases Nat.lt_or_ge j pp with h | h
            · exact h
            · exfalso
              have e1 : j = pp := by omega
              rw [e1, hpu] at hb
              have : fl.isEmpty = false := by
                cases fl with
                | nil => rw [List.length_nil] at hfj; omega
                | cons _ _ => rfl
              rw [this] at hb
              simp at hb
          obtain ⟨e, he, hev⟩ := eEdge (te := tVar 4) (z1 := some (V.int (u : Int))) (z2 := z2) (z3 := some (V.ref p)) (z4 := some (V.int ((itr (prd st.2 ls) j u : Nat) : Int))) (z5 := z5) (kB.trans k7) (er_var (e := eNat) rfl rfl) (hstu j)
          refine q_asgR hev fun v8 H8 k8 r8 => ?_
          refine q_appR (e := eEd) (x := e) (ev_var rfl) (hfl.mono (k7.trans k8)) (er_var rfl r8) (by omega) fun H9 k9 r9 => ?_
          have r8' : eEd.R H9 v8 e := Imm.imm (e := eEd) (tex_h k9 fun a ha => by rw [List.mem_singleton.mp ha]; exact (hfl.mono (k7.trans k8)).some) r8
          refine s_asgR (e := eNat) (er_50 (er_ed (er_var rfl r8'))) fun v9 H10 k10 r10 => ?_
          cases r10
          refine ⟨((ex_hid [p] (k7.trans k8)).trans k9).trans k10, pp - (j + 1), by omega, j + 1, fl ++ [e], some v8, ?_, rfl, hlt, r9.mono k10, by rw [List.length_append, hfj]; rfl⟩
          rw [itr_succ, ← he]
          rfl
        · refine ⟨_, rfl, p, ?_⟩
          obtain ⟨xs, hx1, hx2⟩ := hfl
          refine ⟨xs, rfl, SqL.of (k7 _ _ hx1), fun p2 hp2 => ?_⟩
          have kf : Ex H2 (upd H7 p2 (.lst xs.reverse)) := (kB.trans k7).trans (Ex.new hp2)
          refine fin _ (.ref p2) (k2.trans kf) ?_ ?_
          · rw [hcf]; rfl
          · rw [← hc]; exact G2.mono kf
end
end K61

/-! K61P6: the program's climb made, the table, the bound. -/
namespace K61
open PySem PySem.Spec PyProof.Rows L2 Evl
theorem graphF_elen {ws : Ws} (g : Good ws) : ∀ (n p : Nat) (st : GSt), GI ws st → p ≤ st.1.length → st.2.length ≤ 16 * p → (graphF ws n p st).2.length ≤ 2704
  | 0, p, st, i, h1, h2 => by
    have := i.few g
    show st.2.length ≤ 2704
    omega
  | n + 1, p, st, i, h1, h2 => by
    have hf := i.few g
    by_cases h : p < st.1.length
    · rw [graphF_go h]
      have a := addPlace_ok g i h
      have hb2 : (addPlace ws p st).2.length ≤ st.2.length + 2 * (lets ws).length := addLets_elen ws p (st.1.getD p ([], [])) (lets ws) st
      have hb3 := lets_len g
      have hb4 := a.2.1.pre.length_le
      exact graphF_elen g n (p + 1) _ a.1 (by omega) (by omega)
    · rw [graphF_stop (by omega)]
      omega
theorem graph_elen {ws : Ws} (g : Good ws) : (graph ws).2.length ≤ 2704 := graphF_elen g 400 0 g0 (gi0 ws) (Nat.zero_le _) (Nat.le_refl _)
section
variable {α β γ : Type} {K : PySem.W.Frag} {σ : L2.St} {H H1 H2 : Hp} {ta tb tc : TE} {t : TT}
theorem er_ifE {e : Enc α} {b : Bool} {x : α} (ht : EvT t σ H b) (h1 : b = true → EvR e ta σ H x) (h2 : b = false → EvR e tb σ H x) : EvR e (tIf t ta tb) σ H x := fun H1 k Q q =>
  ht H1 k _ fun H2 k2 => by
    cases b with
    | true => exact iteT (h1 rfl H2 (k.trans k2) Q fun v H3 k3 r => q v H3 (k2.trans k3) r)
    | false => exact iteF (h2 rfl H2 (k.trans k2) Q fun v H3 k3 r => q v H3 (k2.trans k3) r)
/-- a pair + (z,) -/
theorem er_cat21 {ea : Enc α} {eb : Enc β} {ec : Enc γ} {p : α × β} {z : γ} (ha : EvR (e2 ea eb) ta σ H p) (hb : EvR (eTL ec) tb σ H [z]) : EvR (e3 ea eb ec) (tOp (rCatT K) ta tb) σ H (p.1, p.2, z) := fun H1 k Q q =>
  ha H1 k _ fun v H2 k2 rv => hb H2 (k.trans k2) _ fun w H3 k3 rw' => by
    obtain ⟨a, x, y, rfl, h2, h3, h4⟩ := rv
    obtain ⟨b, xs, rfl, g2, g3⟩ := rw'
    cases g3 with
    | cons r t =>
      cases t
      rename_i u
      refine ⟨a, b, [x, y], [u], rfl, rfl, SqT.of (k3 _ _ h2), SqT.of g2, (fun q => nomatch q), sz_of (by decide : 2 + 1 ≤ 100000), (fun q => nomatch q), fun _ p hp => q _ _ ((k2.trans k3).trans (Ex.new hp)) ?_⟩
      exact ⟨p, x, y, u, rfl, upd_same, ea.mono (k3.trans (Ex.new hp)) h3, eb.mono (k3.trans (Ex.new hp)) h4, ec.mono (Ex.new hp) r⟩
theorem make_ex {x dx : Addr} {o u : HO} (hx : H1 x = none) (hd : H1 dx = none) (k : Ex (hid (upd (upd H1 dx o) x u) [x]) H2) : Ex H1 H2 := fun a v h => by
  have n1 : a ≠ x := fun q => by rw [q, hx] at h; cases h
  have n2 : a ≠ dx := fun q => by rw [q, hd] at h; cases h
  exact k a v (by rw [hid_ne (fun m => n1 (List.mem_singleton.mp m)), upd_ne n1, upd_ne n2]; exact h)
theorem make_ex0 {x dx : Addr} {o u : HO} (hx : H1 x = none) (hd : H1 dx = none) : Ex H1 (upd (upd H1 dx o) x u) := fun a v h => by
  have n1 : a ≠ x := fun q => by rw [q, hx] at h; cases h
  have n2 : a ≠ dx := fun q => by rw [q, hd] at h; cases h
  rw [upd_ne n1, upd_ne n2]; exact h
/-- an address as data -/
def eRef (a : Addr) : Enc Unit := ⟨fun _ v _ => v = .ref a, fun _ h => h⟩
instance (a : Addr) : Imm (eRef a) := ⟨fun _ h => h⟩
theorem GA.skip {C D c dc : Addr} {fs : List (Str × V)} {g dx : Addr} {vw : V} {ps ds es : Addr} {ws : Ws} {st : GSt} (h : GA C H g dx vw ps ds es ws st) (k : Ex (hid H [c]) H1) (hc : H c = some (.ins D dc fs)) (n : c ≠ g) : GA C H1 g dx vw ps ds es ws st := by
  have t := tex_h k fun a ha => by rw [List.mem_singleton.mp ha]; exact ⟨_, hc, fun _ q => nomatch q⟩
  have n1 := nLst hc (fun _ q => nomatch q) h.pr
  have n2 := nLst hc (fun _ q => nomatch q) h.ed
  have n3 : c ≠ ds := fun q => by have h1 := h.pl; rw [← q, hc] at h1; cases h1
  exact ⟨keep k h.ins (by simpa using n.symm), Imm.imm (e := eWs) t h.wd, h.pr.keep k (by simpa using n1.symm) t, keep k h.pl (by simpa using n3.symm), h.ed.keep k (by simpa using n2.symm) t, h.ne⟩
end
section
variable {P : Program} {w : World} {K : PySem.W.Frag} {mg : Str → Option Value} {base : Heap}
-- slots: 0=self 1=graph 2=a* 3=b* 4=pair 5=edge
abbrev st_Climb_init : Stmt := inClass (top 40) 0
abbrev N_Climb_init : List Str := ["self", "graph", "a", "b", "pair", "edge"]
theorem sc_Climb_init : FnScope N_Climb_init ["self", "graph", "a", "b"] (defScope st_Climb_init) := ⟨rfl, rfl, rfl, by decide +kernel, rfl, by decide +kernel, by decide +kernel⟩
def sp_Climb (CG C : Addr) : Sp := fun vs H Q _ => ∃ (c dx g gx : Addr) (vw : V) (ps ds es : Addr) (ws : Ws) (st : GSt) (a b : Int), vs = [.ref c, .ref g, .int a, .int b] ∧ H c = some (.ins C dx []) ∧ GA CG H g gx vw ps ds es ws st ∧ (-1000 ≤ a ∧ a ≤ 1000) ∧ (-1000 ≤ b ∧ b ≤ 1000) ∧
  0 < st.1.length ∧ st.1.length ≤ 40000 ∧ st.2.length ≤ 40000 ∧ ∀ H' hA lA wA, H hA = none → H lA = none → Ex (hid H [c]) H' → CA CG C H' c dx g gx vw ps ds es hA lA wA ws st a b (hs0 st.1.length) (ls0 st.1.length) → Q .non H'
theorem cmulL {i j : Int} (h : -1000 ≤ i ∧ i ≤ 1000) : CMul i j := .inl ⟨by omega, by omega⟩
theorem ok_Climb (B : Bl mg) {CG C : Addr} (TG : GF K CG) (T : CF K C) (F : InitAt K mg "Climb" C "Climb.__init__" st_Climb_init ["self", "graph", "a", "b"]) : New P w K mg base "Climb" C 1 ["self", "graph", "a", "b"] (sp_Climb CG C) := by
  refine F.new sc_Climb_init (fun vs H Q E h => ?_) (fun f cdv A outer s H vs Q E hr h => ?_)
  · obtain ⟨_, _, _, _, _, _, _, _, _, _, _, _, rfl, _⟩ := h; rfl
  · obtain ⟨c, dx, g, gx, vw, ps, ds, es, ws, st, a, b, rfl, hc, G, ha, hb, hn0, hn, he, q⟩ := h
    refine ⟨_, (pss_cons (ps_fld (pv 0) (pv 1) rfl)
    (pss_cons (ps_fld (pv 0) (pe_lc (own := [("pair", 4)]) rfl sc_Climb_init.nd (pi_listK K (pe_fldK K (pv 1) rfl)) (blkOk_by (own := [("pair", 4)]) (N := N_Climb_init) (sc := defScope st_Climb_init) (by decide +kernel)) (fun _ _ _ _ _ => (pg_name (i := 4) sc_Climb_init.nd rfl (.inl rfl))) (fun _ _ _ _ _ => pts_nil) (fun _ _ _ _ _ => pe_non)) rfl)
    (pss_cons (ps_asg pe_int (pg_sub (pe_fldK K (pv 0) rfl) pe_int set_list))
    (pss_cons (ps_fld (pv 0) (pe_lc (own := [("pair", 4)]) rfl sc_Climb_init.nd (pi_listK K (pe_fldK K (pv 1) rfl)) (blkOk_by (own := [("pair", 4)]) (N := N_Climb_init) (sc := defScope st_Climb_init) (by decide +kernel)) (fun _ _ _ _ _ => (pg_name (i := 4) sc_Climb_init.nd rfl (.inl rfl))) (fun _ _ _ _ _ => pts_nil) (fun _ _ _ _ _ => pe_non)) rfl)
    (pss_one (ps_fld (pv 0) (pe_lc (own := [("edge", 5)]) rfl sc_Climb_init.nd (pi_listK K (pe_fldK K (pv 1) rfl)) (blkOk_by (own := [("edge", 5)]) (N := N_Climb_init) (sc := defScope st_Climb_init) (by decide +kernel)) (fun _ _ _ _ _ => (pg_name (i := 5) sc_Climb_init.nd rfl (.inl rfl))) (fun _ _ _ _ _ => pts_nil) (fun _ _ _ _ _ => (pe_op (op_sub) (pe_op (op_mul) (pv 3) (pe_ix (ix_tupK K) (pv 5) pe_int (fun _ _ => rfl))) (pe_op (op_mul) (pv 2) (pe_ix (ix_tupK K) (pv 5) pe_int (fun _ _ => rfl)))))) rfl)))))), ?_⟩
    have ncg : c ≠ g := fun z => by
      have h1 := G.ins
      rw [← z, hc] at h1
      have h2 := fsG_w vw ps ds es
      injection h1 with h1
      injection h1 with h1 h3 h4
      rw [← h4] at h2
      cases h2
    have nt : ∀ {H : Hp} {fs : List (Str × V)}, H c = some (.ins C dx fs) → ∀ a ∈ [c], ∃ o, H a = some o ∧ ∀ xs, o ≠ .tup xs := fun h a ha => by rw [List.mem_singleton.mp ha]; exact ⟨_, h, fun _ q => nomatch q⟩
    have ng : ∀ {H : Hp} {fs : List (Str × V)} {p : Addr}, H c = some (.ins C dx fs) → H p = none → p ∉ [c] := fun h hp m => by rw [List.mem_singleton.mp m, h] at hp; cases hp
    refine q_fldR (e := eRef g) (x := ()) (er_var rfl rfl) (ev_var rfl) hc T.cl T.g (by decide) fun v1 H1 k1 r1 h1 => ?_
    have r1 : v1 = .ref g := r1
    subst r1
    have G1 := G.skip k1 hc ncg
    refine q_fldN (e := eOpt eInt) (en_lcA (e := ePr) (fun _ => none) (src_ls (er_ev (ev_fld (ev_var rfl) G1.ins TG.cl TG.p (fsG_p _ _ _ _)) G1.pr.r)) hn fun x v H hx k r Q q => g_1 (q _ rfl er_none)) (ev_var rfl) h1 T.cl T.h (pl1 _ _) fun hA H2 hh k2 r2 h2 => ?_
    have G2 := G1.skip k2 h1 ncg
    rw [List.map_const'] at r2
    refine q_setR (e := eOpt eInt) (x := some 0) (j := 0) (er_someI er_int nn_int) (ev_fld (ev_var rfl) h2 T.cl T.h (by rw [lookup_putF, if_pos rfl])) er_nat r2 (by rw [List.length_replicate]; exact hn0) fun H3 k3 r3 => ?_
    have nhc : hA ≠ c := by simpa using ng h1 hh
    have h3 := keep k3 h2 (by simpa using nhc.symm)
    have t3 := tex_h k3 fun a ha => by rw [List.mem_singleton.mp ha]; exact r2.some
    have n4 : hA ≠ ps := fun z => by obtain ⟨xs, hx, _⟩ := G1.pr; rw [← z, hh] at hx; cases hx
    have n5 : hA ≠ es := fun z => by obtain ⟨xs, hx, _⟩ := G1.ed; rw [← z, hh] at hx; cases hx
    have n8 : hA ≠ g := fun z => by have hx := G1.ins; rw [← z, hh] at hx; cases hx
    have n9 : hA ≠ ds := fun z => by have hx := G1.pl; rw [← z, hh] at hx; cases hx
    have G3 : GA CG H3 g gx vw ps ds es ws st := ⟨keep k3 G2.ins (by simpa using n8.symm), Imm.imm (e := eWs) t3 G2.wd, G2.pr.keep k3 (by simpa using n4.symm) t3, keep k3 G2.pl (by simpa using n9.symm), G2.ed.keep k3 (by simpa using n5.symm) t3, G2.ne⟩
    refine q_fldN (e := eOpt eNat) (en_lcA (e := ePr) (fun _ => none) (src_ls (er_ev (ev_fld (ev_var rfl) G3.ins TG.cl TG.p (fsG_p _ _ _ _)) G3.pr.r)) hn fun x v H hx k r Q q => g_1 (q _ rfl er_none)) (ev_var rfl) h3 T.cl T.l (pl2 _ _ _ _) fun lA H4 hl k4 r4 h4 => ?_
    rw [List.map_const'] at r4
    have G4 := G3.skip k4 h3 ncg
    have t4 := tex_h k4 (nt h3)
    have n1 : hA ≠ lA := fun z => by obtain ⟨xs, hx, _⟩ := r3; rw [z, hl] at hx; cases hx
    have n6 : lA ≠ ps := fun z => by obtain ⟨xs, hx, _⟩ := G3.pr; rw [← z, hl] at hx; cases hx
    have n7 : lA ≠ es := fun z => by obtain ⟨xs, hx, _⟩ := G3.ed; rw [← z, hl] at hx; cases hx
    have nlc : lA ≠ c := by simpa using ng h3 hl
    have r34 := r3.keep k4 (by simpa using nhc) t4
    refine s_fldN (e := eInt) (en_lcA (e := eEd) (wt a b) (src_ls (er_ev (ev_fld (ev_var rfl) G4.ins TG.cl TG.e (fsG_e _ _ _ _)) G4.ed.r)) he fun x v H hx k r Q q => g_1 (q _ rfl
      (er_sub (er_mul (er_var (e := eInt) (x := b) rfl rfl) (er_53 (er_ed (er_var rfl r))) (cmulL hb)) (er_mul (er_var (e := eInt) (x := a) rfl rfl) (er_54 (er_ed (er_var rfl r))) (cmulL ha))))) (ev_var rfl) h4 T.cl T.w (pl3 _ _ _ _ _ _) fun wA H5 hw k5 r5 h5 => ?_
    have G5 := G4.skip k5 h4 ncg
    have t5 := tex_h k5 (nt h4)
    have n2 : hA ≠ wA := fun z => by obtain ⟨xs, hx, _⟩ := r34; rw [z, hw] at hx; cases hx
    have n3 : lA ≠ wA := fun z => by obtain ⟨xs, hx, _⟩ := r4; rw [z, hw] at hx; cases hx
    have kA : Ex (hid H [c]) H2 := (ex_rehid k1).trans k2
    have hAn : hid H [c] hA = none := fresh_back k1 hh
    have kB : Ex (hid H [c]) H3 := (ex_new1 kA hAn).trans k3
    have hAn2 : H hA = none := by rw [hid_ne (by simpa using nhc)] at hAn; exact hAn
    have lAn : H lA = none := by
      have h1 : hid H [c] lA = none := fresh_back kB hl
      rw [hid_ne (by simpa using nlc)] at h1
      exact h1
    refine q H5 hA lA wA hAn2 lAn ?_ ⟨h5, G5, r34.keep k5 (by simpa using nhc) t5, r4.keep k5 (by simpa using nlc) t5, r5, n1, n2, n3, n4, n5, n6, n7⟩
    exact (ex_rehid ((ex_rehid kB).trans k4)).trans k5
-- slots: 0=words 1=b 2=c 3=triple 4=held 5=tail 6=number
abbrev st_ends_well : Stmt := top 35
abbrev N_ends_well : List Str := ["words", "b", "c", "triple", "held", "tail", "number"]
theorem sc_ends_well : FnScope N_ends_well ["words", "b", "c", "triple"] (defScope st_ends_well) := ⟨rfl, rfl, rfl, by decide +kernel, rfl, by decide +kernel, by decide +kernel⟩
abbrev PreE : Ws → Int → Int → Tr → Prop := fun ws b _ z => Good ws ∧ (-1000 ≤ b ∧ b ≤ 1000) ∧ Over ws z.1 ∧ z.1.length ≤ 1000
abbrev sp_ends : Sp := Pu4 eWs eInt eInt eTr eBl PreE (fun ws b c z => endsWell ws b c z)
theorem ok_ends (B : Bl mg) (D : Cst mg) (F : DefAt K mg "ends_well" st_ends_well ["words", "b", "c", "triple"]) (c_cost_of_row : Cal P w K mg base "cost_of_row" 2 ["words", "row"] sp_rowc) (c_match_of : Cal P w K mg base "match_of" 4 ["words", "text"] sp_match) :
    Cal P w K mg base "ends_well" 5 ["words", "b", "c", "triple"] sp_ends := by
  refine F.cal sc_ends_well (fun vs H Q E h => ?_) (fun f cdv A outer s H vs Q E hr h => ?_)
  · obtain ⟨_, _, _, _, _, _, _, _, rfl, _⟩ := h; rfl
  · obtain ⟨va, vb, vc, vd, ws, b, c, z, rfl, ra, rb, rc, rd', ⟨g, hb, ho, hl⟩, q⟩ := h
    refine ⟨_, (pss_cons (ps_asg (pv 3) (pg_tupK K (n := 3) rfl (pgs_cons (pg_name (i := 4) sc_ends_well.nd rfl (.inl rfl)) (pgs_cons (pg_name (i := 5) sc_ends_well.nd rfl (.inl rfl)) (pgs_cons (pg_name (i := 6) sc_ends_well.nd rfl (.inl rfl)) pgs_nil)))))
    (pss_one (ps_ret (pe_or (pe_cmpR op_ne (pv 5) pe_str (nomark _)) (pe_one (pe_cmpR op_le (pe_op (op_add) (pv 6) (pe_op (op_mul) (pv 1) (pe_cal c_cost_of_row hr (by decide) (by rfl) (pa_cons (pv 0) (pa_cons (pe_cal c_match_of hr (by decide) (by rfl) (pa_cons (pv 0) (pa_cons (pv 4) pa_nil))) pa_nil))))) (pv 2) (nomark _))))))), ?_⟩
    refine q_asgG (er_var rfl rd') fun v1 H1 k1 r1 => g_3 r1 fun x1 x2 x3 rx1 rx2 rx3 => ?_
    have hw := mt_words g _ z.1 (Nat.le_refl _) ho
    refine s_retR ((er_or (er_neS (er_var rfl rx2) (er_str (t := []) (by decide +kernel))) fun _ => er_le (er_add (er_var rfl rx3) (er_mul (er_var rfl (eInt.mono k1 rb)) (er_call2 (er_var rfl (eWs.mono k1 ra)) (er_call2 (er_var rfl (eWs.mono k1 ra)) (er_var rfl rx1) ⟨g, hl, ho⟩) ⟨g, hw.1, by omega⟩) (cmulL hb))) (er_var rfl (eInt.mono k1 rc))).is ?_)
      fun v H2 k2 r => q v H2 (k1.trans k2) r
    show _ = (decide (z.2.1 ≠ []) || decide (z.2.2 + b * mcost ws z.1 ≤ c))
    rw [show decide (z.2.1 ≠ []) = !decide (z.2.1 = []) from decide_not]
    rfl
-- slots: 0=words* 1=a 2=b* 3=c* 4=graph 5=climb 6=table 7=pair 8=height 9=one
abbrev st_potentials_for : Stmt := top 41
abbrev N_potentials_for : List Str := ["words", "a", "b", "c", "graph", "climb", "table", "pair", "height", "one"]
theorem sc_potentials_for : FnScope N_potentials_for ["words", "a", "b", "c"] (defScope st_potentials_for) := ⟨rfl, rfl, rfl, by decide +kernel, rfl, by decide +kernel, by decide +kernel⟩
def potOut (ws : Ws) (a b c : Int) : Option (List Tr) := if (climb a b (graph ws)).1 = true then (if ((tbl (graph ws) (climb a b (graph ws)).2.1).map (endsWell ws b c)).all id = true then some (sortBy pdT (tbl (graph ws) (climb a b (graph ws)).2.1)) else none) else none
abbrev sp_pot : Sp := Pu4 eWs eInt eInt eInt (eOpt (eTL eTr)) PreB potOut
theorem nn_tl {α : Type} {e : Enc α} (H : Hp) (v : V) (x : List α) (h : (eTL e).R H v x) : v ≠ .non := by
  obtain ⟨a, xs, rfl, _⟩ := h; exact fun q => nomatch q
theorem ok_pot (B : Bl mg) (D : Cst mg) {CG C : Addr} (TG : GF K CG) (T : CF K C) (F : DefAt K mg "potentials_for" st_potentials_for ["words", "a", "b", "c"]) (c_check_bound : Cal P w K mg base "check_bound" 5 ["words", "a", "b", "c"] sp_checkb)
    (c_Graph : New P w K mg base "Graph" CG 7 ["self", "words"] (sp_Graph CG)) (c_Climb : New P w K mg base "Climb" C 1 ["self", "graph", "a", "b"] (sp_Climb CG C)) (c_circle : CalM P w K mg base C "circle" 2 ["self"] (sp_circle CG C)) (c_ends_well : Cal P w K mg base "ends_well" 5 ["words", "b", "c", "triple"] sp_ends) :
    Cal P w K mg base "potentials_for" 9 ["words", "a", "b", "c"] sp_pot := by
  refine F.cal sc_potentials_for (fun vs H Q E h => ?_) (fun f cdv A outer s H vs Q E hr h => ?_)
  · obtain ⟨_, _, _, _, _, _, _, _, rfl, _⟩ := h; rfl
  · obtain ⟨va, vb, vc, vd, ws, a, b, c, rfl, ra, rb, rc, rd', ⟨gd, ha, hb, hc⟩, q⟩ := h
    have clClimb := T.cl
    refine ⟨_, (pss_cons (ps_expr (pe_cal c_check_bound hr (by decide) (by rfl) (pa_cons (pv 0) (pa_cons (pv 1) (pa_cons (pv 2) (pa_cons (pv 3) pa_nil))))))
    (pss_cons (ps_set (i := 4) sc_potentials_for.nd rfl (.inl rfl) (pe_new c_Graph hr (by decide) (by rfl) (pa_cons (pv 0) pa_nil)))
    (pss_cons (ps_set (i := 5) sc_potentials_for.nd rfl (.inl rfl) (pe_new c_Climb hr (by decide) (by rfl) (pa_cons (pv 4) (pa_cons (pv 1) (pa_cons (pv 2) pa_nil)))))
    (pss_cons (ps_if (pt_cmpR op_notN (pe_calM0 clClimb c_circle hr (by decide) (pv 5)) pe_non (nomark _)) (pss_one (ps_ret pe_non)) pss_nil)
    (pss_cons (ps_setLc (i := 6) (own := [("pair", 7), ("height", 8)]) rfl sc_potentials_for.nd rfl rfl (sw_true rfl rfl rfl (by decide +kernel)) (pi_zip (by rfl) B.zip (pa_cons (pe_fldK K (pv 4) rfl) (pa_cons (pe_fldK K (pv 5) rfl) pa_nil))) (blkOk_by (own := [("pair", 7), ("height", 8)]) (N := N_potentials_for) (sc := defScope st_potentials_for) (by decide +kernel)) (fun _ _ _ _ _ => (pg_tupK K (n := 2) rfl (pgs_cons (pg_name (i := 7) sc_potentials_for.nd rfl (.inl rfl)) (pgs_cons (pg_name (i := 8) sc_potentials_for.nd rfl (.inl rfl)) pgs_nil)))) (fun _ _ _ _ _ => pts_nil) (fun _ _ _ _ _ => (pe_op (op_catTK K) (pv 7) (pe_tup (pa_cons (pv 8) pa_nil)))))
    (pss_one (ps_ret (pe_ifExp (pt_val (pe_callB (cr_allK K rfl) (by rfl) B.all (by decide +kernel) (pa_cons (pe_lc (own := [("one", 9)]) rfl sc_potentials_for.nd (pi_listK K (pv 6)) (blkOk_by (own := [("one", 9)]) (N := N_potentials_for) (sc := defScope st_potentials_for) (by decide +kernel)) (fun _ _ _ _ _ => (pg_name (i := 9) sc_potentials_for.nd rfl (.inl rfl))) (fun _ _ _ _ _ => pts_nil) (fun _ _ _ _ _ => (pe_cal c_ends_well hr (by decide) (by rfl) (pa_cons (pv 0) (pa_cons (pv 2) (pa_cons (pv 3) (pa_cons (pv 9) pa_nil))))))) pa_nil))) (pe_callTy (call_tuple_ofK K) (by rfl) B.tuple (by decide +kernel) (pa_cons (pe_callB (cr_sortedDK K hr) (by rfl) B.sorted (by decide +kernel) (pa_cons (pv 6) pa_nil)) pa_nil)) pe_non)))))))), ?_⟩
    cases rb; cases rc; cases rd'
    have gr := graph_ok gd
    have hel := graph_elen gd
    have hfew := gr.gi.few gd
    have hn0 := gr.gi.pos
    refine s_dropR (er_call4 (er_var rfl ra) (er_var (e := eInt) (x := a) rfl rfl) (er_var (e := eInt) (x := b) rfl rfl) (er_var (e := eInt) (x := c) rfl rfl) ⟨gd, ha, hb, hc⟩) fun H1 k1 => ?_
    refine ⟨_, rfl, fun x dx hx hdx hdx' => ⟨x, dx, va, ws, rfl, upd_same, eWs.mono (k1.trans (make_ex0 hx hdx)) ra, gd, fun H2 vw ps ds es k2 G2 => ⟨rfl, ?_⟩⟩⟩
    have k12 : Ex H H2 := k1.trans (make_ex hx hdx k2)
    refine ⟨_, rfl, _, rfl, _, rfl, fun y dy hy hdy hdy' => ⟨y, dy, x, dx, vw, ps, ds, es, ws, graph ws, a, b, rfl, upd_same, G2.mono (make_ex0 hy hdy), ⟨by omega, by omega⟩, ⟨by omega, by omega⟩, hn0, by omega, by omega, fun H3 hA lA wA fh fl k3 G3 => ⟨rfl, ?_⟩⟩⟩
    have k13 : Ex H H3 := k12.trans (make_ex hy hdy k3)
    have hfresh : ∀ a ∈ [hA, lA], H a = none := by
      intro a ha
      simp only [List.mem_cons, List.not_mem_nil, or_false] at ha
      rcases ha with rfl | rfl
      · exact fresh_back (k12.trans (make_ex0 hy hdy)) fh
      · exact fresh_back (k12.trans (make_ex0 hy hdy)) fl
    refine ⟨_, rfl, y, dy, _, rfl, G3.ins, fsC_no _ _ _ _ (by decide +kernel) (by decide +kernel) (by decide +kernel) (by decide +kernel), y, dy, x, dx, vw, ps, ds, es, hA, lA, wA, ws, graph ws, a, b, rfl, G3, gd, gr, fun H4 v4 k4 hv4 G4 => ⟨rfl, _, rfl, ?_⟩⟩
    have k14 : Ex H H4 := (ex_base k13 hfresh).trans k4
    rw [hv4]
    have cok := climb_ok (a := a) (b := b) gr
    have qq : ∀ v H', Ex H H' → (eOpt (eTL eTr)).R H' v (potOut ws a b c) → Q v H' := q
    unfold potOut at qq
    cases hcv : (climb a b (graph ws)).1 with
    | false =>
      rw [hcv, if_neg (by decide)] at qq
      exact iteT (qq .non H4 k14 rfl)
    | true =>
      rw [hcv, if_pos rfl] at qq
      have ci := cok.1
      have fe := cok.2.1 hcv
      generalize (climb a b (graph ws)).2.1 = hs at *
      generalize (climb a b (graph ws)).2.2.1 = ls at *
      refine iteF ?_
      have hzl : ((graph ws).1.zip hs).length ≤ 169 := by rw [List.length_zip]; omega
      refine q_asgN (e := eTr) (l := tbl (graph ws) hs) (en_lcA (e := e2 ePr (eOpt eInt)) (fun z => (z.1.1, z.1.2, z.2.getD 0)) (src_zip (er_ev (ev_fld (ev_var rfl) G4.gr.ins TG.cl TG.p (fsG_p _ _ _ _)) G4.gr.pr.r) (er_ev (ev_fld (ev_var rfl) G4.ins T.cl T.h (fsC_h _ _ _ _)) G4.hs.r)) (by omega) fun z v H5 hz k5 r Q q => g_2 r fun x1 x2 rx1 rx2 => q _ rfl ?_) fun p H5 hp k5 r5 => ?_
      · have h2 : ∃ i : Nat, (graph ws).1[i]? = some z.1 ∧ hs[i]? = some z.2 := by
          obtain ⟨i, hi⟩ := List.getElem?_of_mem hz
          exact ⟨i, List.getElem?_zip_eq_some.mp hi⟩
        obtain ⟨i, h3, h4⟩ := h2
        obtain ⟨u, hu⟩ := all_reached gr ci fe i (List.getElem?_eq_some_iff.mp h3).1
        rw [List.getD_eq_getElem?_getD, h4] at hu
        have hu : z.2 = some u := hu
        rw [hu] at rx2 ⊢
        exact er_cat21 (er_var rfl rx1) (er_tup1 (er_var (e := eInt) rfl rx2.2))
      · have k15 := k14.trans k5
        have hEnd : ∀ z ∈ tbl (graph ws) hs, Over ws z.1 ∧ z.1.length ≤ 1000 := fun z hz => by
          have h1 := in_held gr ((mem_tbl gr ci fe).mp hz)
          exact ⟨held_over gd h1.1, Nat.le_trans (held_len gd h1.1) (by decide)⟩
        have htl : (tbl (graph ws) hs).length ≤ 169 := by rw [tbl_len ci]; omega
        refine s_retR (e := eOpt (eTL eTr)) (er_ifE (et_rB (er_all (EvN.r (en_lcA (e := eTr) (e' := eBl) (endsWell ws b c) (src_ls (er_var rfl r5.r)) (by omega) fun z v H6 hz k6 r Q q => g_1 (q _ rfl (er_call4 (er_var rfl (eWs.mono (k15.trans k6) ra)) (er_var (e := eInt) (x := b) rfl rfl) (er_var (e := eInt) (x := c) rfl rfl) (er_var rfl r) ⟨gd, ⟨by omega, by omega⟩, hEnd z hz⟩)))))) (fun hb1 => ?_) (fun hb1 => ?_)) fun v H6 k6 r6 => qq v H6 (k15.trans k6) r6
        · rw [if_pos hb1]
          exact er_someI (er_tupleL (EvN.r (en_sortedL pdT (dp_T K) alike_T (fun x => ⟨_, _, rfl⟩) dep_T (by omega) (er_var rfl r5.r)))) nn_tl
        · rw [if_neg (by rw [hb1]; decide)]
          exact er_none
-- slots: 0=words 1=a 2=b 3=c
abbrev st_is_bound : Stmt := top 43
abbrev N_is_bound : List Str := ["words", "a", "b", "c"]
theorem sc_is_bound : FnScope N_is_bound ["words", "a", "b", "c"] (defScope st_is_bound) := ⟨rfl, rfl, rfl, by decide +kernel, rfl, by decide +kernel, by decide +kernel⟩
abbrev sp_isb : Sp := Pu4 eWs eInt eInt eInt eBl PreB (fun ws a b c => (potOut ws a b c).isSome)
theorem ok_isb (B : Bl mg) (D : Cst mg) (F : DefAt K mg "is_bound" st_is_bound ["words", "a", "b", "c"]) (c_potentials_for : Cal P w K mg base "potentials_for" 9 ["words", "a", "b", "c"] sp_pot) : Cal P w K mg base "is_bound" 10 ["words", "a", "b", "c"] sp_isb := by
  refine F.cal sc_is_bound (fun vs H Q E h => ?_) (fun f cdv A outer s H vs Q E hr h => ?_)
  · obtain ⟨_, _, _, _, _, _, _, _, rfl, _⟩ := h; rfl
  · obtain ⟨va, vb, vc, vd, ws, a, b, c, rfl, ra, rb, rc, rd', hp, q⟩ := h
    refine ⟨_, (pss_one (ps_ret (pe_cmpR op_notN (pe_cal c_potentials_for hr (by decide) (by rfl) (pa_cons (pv 0) (pa_cons (pv 1) (pa_cons (pv 2) (pa_cons (pv 3) pa_nil))))) pe_non (nomark _)))), ?_⟩
    refine s_retR ((er_notN (er_call4 (er_var rfl ra) (er_var rfl rb) (er_var rfl rc) (er_var rfl rd') hp)).is ?_) q
    show (!(potOut ws a b c).isNone) = (potOut ws a b c).isSome
    cases potOut ws a b c <;> rfl
end
end K61

/-! K61P7: the program's are_right. -/
namespace K61
open PySem PySem.Spec PyProof.Rows L2 Evl
section
variable {α β γ δ ε ζ : Type} {K : PySem.W.Frag} {σ : L2.St} {H H1 H2 : Hp} {ta tb tc td te : TE} {t : TT}
theorem ty_3 {H : Hp} {v : V} {ea : Enc α} {eb : Enc β} {ec : Enc γ} {x : α × β × γ} (h : (e3 ea eb ec).R H v x) : TyX K H v (.type "tuple") := by obtain ⟨a, _, _, _, rfl, h2, _⟩ := h; exact .base (.tup h2)
/-- t[:2] of a triple -/
theorem er_sl32 {ea : Enc α} {eb : Enc β} {ec : Enc γ} {p : α × β × γ} (ha : EvR (e3 ea eb ec) ta σ H p) : EvR (e2 ea eb) (tSl (rSlT K) ta tNoPart (tPart (tC (.int 2)))) σ H (p.1, p.2.1) := fun H1 k Q q =>
  ha H1 k _ fun v H2 k2 rv => eo_none H2 (k.trans k2) _ fun H3 k3 => eo_r (i := 2) er_int H3 ((k.trans k2).trans k3) _ fun H4 k4 => by
    obtain ⟨a, x, y, z, rfl, h2, h3, h4, h5⟩ := rv
    have k24 := k3.trans k4
    exact ⟨a, [x, y, z], rfl, SqT.of (k24 _ _ h2), (fun h => absurd (show (2 : Nat) = 3 from h.2) (by decide)), fun p hp => q _ _ ((k2.trans k24).trans (Ex.new hp)) ⟨p, x, y, rfl, upd_same, ea.mono (k24.trans (Ex.new hp)) h3, eb.mono (k24.trans (Ex.new hp)) h4⟩⟩
theorem q_asgD {d : Dc} {i : Nat} {D : Ends} {tz : L2.TS} (h : ∀ Q : VK, (∀ p H2, H p = none → Ex H H2 → H2 p = some (.dT (encD d)) → Q (.ref p) H2) → te σ H Q) (k : ∀ p H2, H p = none → Ex H H2 → H2 p = some (.dT (encD d)) → tz D (σ.set i (some (.ref p))) H2) : tSeq (tAsg te (gName i)) tz D σ H := h _ k
def ltB (p q : Tx × Tx) : Bool := if p.1 = q.1 then (if p.2 = q.2 then false else decide (p.2 < q.2)) else decide (p.1 < q.1)
theorem ltB_of {p q : Tx × Tx} (h : lt2 p q) : ltB p q = true := by
  unfold ltB
  rcases h with h | ⟨h1, h2⟩
  · have : p.1 ≠ q.1 := fun e => by rw [e] at h; exact List.lt_irrefl _ h
    rw [if_neg this]
    exact decide_eq_true h
  · have : p.2 ≠ q.2 := fun e => by rw [e] at h2; exact List.lt_irrefl _ h2
    rw [if_pos h1, if_neg this]
    exact decide_eq_true h2
theorem er_ltP {p q : Tx × Tx} (ha : EvR ePr ta σ H p) (hb : EvR ePr tb σ H q) : EvR eBl (tOp rLtP ta tb) σ H (ltB p q) := fun H1 k Q qq =>
  ha H1 k _ fun v H2 k2 rv => hb H2 (k.trans k2) _ fun w H3 k3 rw' => by
    obtain ⟨a, x, y, rfl, h2, h3, h4⟩ := rv
    obtain ⟨b, x2, y2, rfl, g2, g3, g4⟩ := rw'
    cases h3; cases h4; cases g3; cases g4
    refine ⟨a, b, ss p.1, ss p.2, ss q.1, ss q.2, rfl, rfl, k3 _ _ h2, g2, qq _ H3 (k2.trans k3) ?_⟩
    have e : ∀ s t : Tx, (ss s = ss t) = (s = t) := fun s t => propext ⟨ss_inj, fun h => h ▸ rfl⟩
    show V.bl _ = V.bl (ltB p q)
    unfold ltB
    simp only [e, ss_list]
def Pu5 (ea : Enc α) (eb : Enc β) (ec : Enc γ) (ed : Enc δ) (ee : Enc ε) (er : Enc ζ) (pre : α → β → γ → δ → ε → Prop) (f : α → β → γ → δ → ε → ζ) : Sp := fun vs H Q _ => ∃ a b c d e x y z w u, vs = [a, b, c, d, e] ∧ ea.R H a x ∧ eb.R H b y ∧ ec.R H c z ∧ ed.R H d w ∧ ee.R H e u ∧ pre x y z w u ∧ ∀ v H', Ex H H' → er.R H' v (f x y z w u) → Q v H'
theorem er_call5 {ea : Enc α} {eb : Enc β} {ec : Enc γ} {ed : Enc δ} {ee : Enc ε} {er : Enc ζ} {pre : α → β → γ → δ → ε → Prop} {f : α → β → γ → δ → ε → ζ} {x : α} {y : β} {z : γ} {w : δ} {u : ε} {E : XK} (ha : EvR ea ta σ H x) (hb : EvR eb tb σ H y) (hc : EvR ec tc σ H z) (hd : EvR ed td σ H w) (he : EvR ee te σ H u) (hp : pre x y z w u) :
    EvR er (tCall (Pu5 ea eb ec ed ee er pre f) [] E (tCons ta (tCons tb (tCons tc (tCons td (tCons te tNil)))))) σ H (f x y z w u) := fun H1 e Q q =>
  ha H1 e _ fun v H2 k2 r2 => hb H2 (e.trans k2) _ fun w1 H3 k3 r3 => hc H3 ((e.trans k2).trans k3) _ fun w' H4 k4 r4 => hd H4 (((e.trans k2).trans k3).trans k4) _ fun w2 H5 k5 r5 => he H5 ((((e.trans k2).trans k3).trans k4).trans k5) _ fun w3 H6 k6 r6 =>
    ⟨v, w1, w', w2, w3, x, y, z, w, u, rfl, ea.mono (((k3.trans k4).trans k5).trans k6) r2, eb.mono ((k4.trans k5).trans k6) r3, ec.mono (k5.trans k6) r4, ed.mono k6 r5, r6, hp, fun w H' k' r' => q w H' (((((k2.trans k3).trans k4).trans k5).trans k6).trans k') r'⟩
end
section
variable {P : Program} {w : World} {K : PySem.W.Frag} {mg : Str → Option Value} {base : Heap}
-- slots: 0=value
abbrev st_is_triple : Stmt := top 33
abbrev N_is_triple : List Str := ["value"]
theorem sc_is_triple : FnScope N_is_triple ["value"] (defScope st_is_triple) := ⟨rfl, rfl, rfl, by decide +kernel, rfl, by decide +kernel, by decide +kernel⟩
abbrev sp_triple : Sp := Pu1 eTr eBl (fun _ => True) (fun _ => true)
theorem ok_triple (B : Bl mg) (F : DefAt K mg "is_triple" st_is_triple ["value"]) (c_is_integer : Cal P w K mg base "is_integer" 1 ["value"] sp_integer) : Cal P w K mg base "is_triple" 2 ["value"] sp_triple := by
  refine F.cal sc_is_triple (fun vs H Q E h => ?_) (fun f cdv A outer s H vs Q E hr h => ?_)
  · obtain ⟨_, _, rfl, _⟩ := h; rfl
  · obtain ⟨va, z, rfl, ra, _, q⟩ := h
    refine ⟨_, (pss_cons (ps_if (PW.pt (pw_or (pt_not (pt_val (pe_callB (call_isiK' K) (by rfl) B.isinstance (by decide +kernel) (pa_cons (pv 0) (pa_cons (pe_bltn (v := .ty "tuple") (by rfl) B.tuple (by decide +kernel) rfl) pa_nil))))) (pw_or (pt_cmpR op_ne (pe_callB (call_len_seqK K) (by rfl) B.len (by decide +kernel) (pa_cons (pv 0) pa_nil)) pe_int (nomark _)) (pw_or1 (pt_not (pt_val (pe_cal c_is_integer hr (by decide) (by rfl) (pa_cons (pe_ix (ix_tupK K) (pv 0) pe_int (fun _ _ => rfl)) pa_nil)))))))) (pss_one (ps_ret pe_bl)) pss_nil)
    (pss_one (ps_ret (pe_and (pe_callB (call_isiK' K) (by rfl) B.isinstance (by decide +kernel) (pa_cons (pe_ix (ix_tupK K) (pv 0) pe_int (fun _ _ => rfl)) (pa_cons (pe_bltn (v := .ty "str") (by rfl) B.str (by decide +kernel) rfl) pa_nil))) (pe_one (pe_callB (call_isiK' K) (by rfl) B.isinstance (by decide +kernel) (pa_cons (pe_ix (ix_tupK K) (pv 0) pe_int (fun _ _ => rfl)) (pa_cons (pe_bltn (v := .ty "str") (by rfl) B.str (by decide +kernel) rfl) pa_nil)))))))), ?_⟩
    refine q_when (et_or (et_not (et_rB (er_isi (er_var rfl ra) (fun _ _ r => ty_3 r) (r := true) (by decide +kernel)))) fun _ => et_or (et_r (er_neI (er_len3 (er_var rfl ra)) er_int)) fun _ => et_not (et_rB (er_call1 (er_32 (er_var rfl ra)) trivial))) (fun hb => absurd hb (by decide)) (fun _ H1 k1 => ?_)
    refine s_retR ((er_and (er_isi (er_30 (er_var rfl (eTr.mono k1 ra))) (fun _ _ r => ty_str r) (r := true) (by decide +kernel)) fun _ => er_isi (er_31 (er_var rfl (eTr.mono k1 ra))) (fun _ _ r => ty_str r) (r := true) (by decide +kernel))) fun v H2 k2 r => q v H2 (k1.trans k2) r
-- slots: 0=value* 1=at 2=one
abbrev st_is_table : Stmt := top 34
abbrev N_is_table : List Str := ["value", "at", "one"]
theorem sc_is_table : FnScope N_is_table ["value"] (defScope st_is_table) := ⟨rfl, rfl, rfl, by decide +kernel, rfl, by decide +kernel, by decide +kernel⟩
abbrev sp_table : Sp := Pu1 (eTL eTr) eBl (fun T => T.Pairwise (fun x y => lt2 (x.1, x.2.1) (y.1, y.2.1)) ∧ T.length ≤ 1000) (fun _ => true)
theorem ok_table (B : Bl mg) (F : DefAt K mg "is_table" st_is_table ["value"]) (c_is_triple : Cal P w K mg base "is_triple" 2 ["value"] sp_triple) : Cal P w K mg base "is_table" 3 ["value"] sp_table := by
  refine F.cal sc_is_table (fun vs H Q E h => ?_) (fun f cdv A outer s H vs Q E hr h => ?_)
  · obtain ⟨_, _, rfl, _⟩ := h; rfl
  · obtain ⟨va, T, rfl, ra, ⟨asc, hl⟩, q⟩ := h
    refine ⟨_, (pss_cons (ps_if (PW.pt (pw_or (pt_not (pt_val (pe_callB (call_isiK' K) (by rfl) B.isinstance (by decide +kernel) (pa_cons (pv 0) (pa_cons (pe_bltn (v := .ty "tuple") (by rfl) B.tuple (by decide +kernel) rfl) pa_nil))))) (pw_or1 (pt_not (pt_val (pe_callB (cr_allK K rfl) (by rfl) B.all (by decide +kernel) (pa_cons (pe_lc (own := [("one", 2)]) rfl sc_is_table.nd (pi_tupK K (pv 0)) (blkOk_by (own := [("one", 2)]) (N := N_is_table) (sc := defScope st_is_table) (by decide +kernel)) (fun _ _ _ _ _ => (pg_name (i := 2) sc_is_table.nd rfl (.inl rfl))) (fun _ _ _ _ _ => pts_nil) (fun _ _ _ _ _ => (pe_cal c_is_triple hr (by decide) (by rfl) (pa_cons (pv 2) pa_nil)))) pa_nil))))))) (pss_one (ps_ret pe_bl)) pss_nil)
    (pss_one (ps_ret (pe_callB (cr_allK K rfl) (by rfl) B.all (by decide +kernel) (pa_cons (pe_lc (own := [("at", 1)]) rfl sc_is_table.nd (pi_range1 (by rfl) B.range (pa_cons (pe_op (op_sub) (pe_callB (call_len_seqK K) (by rfl) B.len (by decide +kernel) (pa_cons (pv 0) pa_nil)) pe_int) pa_nil)) (blkOk_by (own := [("at", 1)]) (N := N_is_table) (sc := defScope st_is_table) (by decide +kernel)) (fun _ _ _ _ _ => (pg_name (i := 1) sc_is_table.nd rfl (.inl rfl))) (fun _ _ _ _ _ => pts_nil) (fun _ _ _ _ _ => (pe_cmpR (op_ltP hr) (pe_slice (sl_tupK K) (pe_ix (ix_tupK K) (pv 0) (pv 1) (fun _ _ => rfl)) po_none (po_some pe_int)) (pe_slice (sl_tupK K) (pe_ix (ix_tupK K) (pv 0) (pe_op (op_add) (pv 1) pe_int) (fun _ _ => rfl)) po_none (po_some pe_int)) (nomark _)))) pa_nil))))), ?_⟩
    refine q_when (et_or (et_not (et_rB (er_isi (er_var rfl ra) (fun _ _ r => ty_tl r) (r := true) (by decide +kernel)))) fun _ => et_not (et_rB (er_all (EvN.r (en_lcA (e' := eBl) (fun _ => true) (src_tup (er_var rfl ra)) (by omega) fun x v H1 hx k r Q q => g_1 (q _ rfl (er_call1 (er_var rfl r) trivial))))))) (fun hb => ?_) (fun _ H1 k1 => ?_)
    · exfalso
      rw [all_true _ _ (fun _ _ => rfl)] at hb
      exact absurd hb (by decide)
    have dT : Tr := ([], [], 0)
    by_cases h0 : T.length = 0
    · have eT : T = [] := List.length_eq_zero_iff.mp h0
      subst eT
      refine s_retR ((er_all (EvN.r (en_lcA (e := eNat) (e' := eBl) (A := NoA) (l := []) (fun _ => true) ?_ (by decide) fun i v H3 hi => nomatch hi)))) fun v H2 k2 r => q v H2 (k1.trans k2) r
      intro H2 k2 R r
      have := er_sub (er_lenT (K := K) (er_var (σ := start N_is_table [va]) (i := 0) rfl ra)) (er_int (i := 1)) H2 (k1.trans k2)
      refine this _ fun v H3 k3 rv => ?_
      cases rv
      refine ⟨_, rfl, by decide, by decide, r _ H3 (tups H3) k3 (ex_tups H3) (fun b o hb => ?_) fun H' hd i => ⟨fun x hx => (by simp at hx), fun hi => Nat.zero_le _⟩⟩
      obtain ⟨ys, rfl, _⟩ := tups_some hb
      exact .inr (.inl ⟨ys, rfl⟩)
    · refine s_retR ((er_all (EvN.r (en_lcA (e' := eBl) (fun i => ltB ((T.getD i dT).1, (T.getD i dT).2.1) ((T.getD (i + 1) dT).1, (T.getD (i + 1) dT).2.1)) (src_range1 (n := T.length - 1) (er_intN (er_sub (er_lenT (er_var rfl ((eTL eTr).mono k1 ra))) er_int) (by omega)) (by omega)) (by rw [List.length_range]; omega)
        fun i v H3 hi k r Q q => g_1 (q _ rfl (er_ltP (er_sl32 (er_ixTL (er_var rfl ((eTL eTr).mono (k1.trans k) ra)) (er_natI (er_var rfl r)) (atI_nat (j := i) ?_))) (er_sl32 (er_ixTL (i := ((i + 1 : Nat) : Int)) (er_var rfl ((eTL eTr).mono (k1.trans k) ra)) ((er_add (er_natI (er_var rfl r)) er_int).is (by rw [Int.natCast_add]; rfl)) (atI_nat (j := i + 1) ?_)))))))).is ?_) fun v H2 k2 r => q v H2 (k1.trans k2) r
      · have hi := List.mem_range.mp hi
        rw [List.getD_eq_getElem?_getD, List.getElem?_eq_getElem (by omega)]; rfl
      · have hi := List.mem_range.mp hi
        rw [List.getD_eq_getElem?_getD, List.getElem?_eq_getElem (by omega)]; rfl
      · refine all_true _ _ fun i hi => ltB_of ?_
        have hi := List.mem_range.mp hi
        have h1 : i < T.length := by omega
        have h2 : i + 1 < T.length := by omega
        rw [List.getD_eq_getElem?_getD, List.getD_eq_getElem?_getD, List.getElem?_eq_getElem h1, List.getElem?_eq_getElem h2]
        exact List.pairwise_iff_getElem.mp asc i (i + 1) h1 h2 (by omega)
-- slots: 0=words* 1=text 2=sign
abbrev st_is_over : Stmt := top 37
abbrev N_is_over : List Str := ["words", "text", "sign"]
theorem sc_is_over : FnScope N_is_over ["words", "text"] (defScope st_is_over) := ⟨rfl, rfl, rfl, by decide +kernel, rfl, by decide +kernel, by decide +kernel⟩
abbrev sp_over : Sp := Pu2 eWs eStr eBl (fun ws t => Good ws ∧ t.length ≤ 1000) (fun ws t => (t.map (fun c => decide (c ∈ lets ws))).all id)
theorem ok_over (B : Bl mg) (F : DefAt K mg "is_over" st_is_over ["words", "text"]) (c_letters_in : Cal P w K mg base "letters_in" 1 ["words"] sp_letters) : Cal P w K mg base "is_over" 2 ["words", "text"] sp_over := by
  refine F.cal sc_is_over (fun vs H Q E h => ?_) (fun f cdv A outer s H vs Q E hr h => ?_)
  · obtain ⟨_, _, _, _, rfl, _⟩ := h; rfl
  · obtain ⟨va, vb, ws, t, rfl, ra, rb, ⟨gd, hl⟩, q⟩ := h
    refine ⟨_, (pss_one (ps_ret (pe_callB (cr_allK K rfl) (by rfl) B.all (by decide +kernel) (pa_cons (pe_lc (own := [("sign", 2)]) rfl sc_is_over.nd (pi_str (pv 1)) (blkOk_by (own := [("sign", 2)]) (N := N_is_over) (sc := defScope st_is_over) (by decide +kernel)) (fun _ _ _ _ _ => (pg_name (i := 2) sc_is_over.nd rfl (.inl rfl))) (fun _ _ _ _ _ => pts_nil) (fun _ _ _ _ _ => (pe_cmpR op_in_sign (pv 2) (pe_cal c_letters_in hr (by decide) (by rfl) (pa_cons (pv 0) pa_nil)) (by rfl)))) pa_nil)))), ?_⟩
    exact s_retR (er_all (EvN.r (en_lcA (e' := eBl) (fun c => decide (c ∈ lets ws)) (src_str (er_var rfl rb)) (by omega) fun x v H1 hx k r Q q => g_1 (q _ rfl (er_inS (er_var rfl r) (er_call1 (er_var rfl (eWs.mono k ra)) gd)))))) q
-- slots: 0=words 1=a 2=b 3=table 4=triple 5=held 6=tail 7=number 8=letter 9=rest 10=longer 11=gain 12=loss
abbrev st_goes_well : Stmt := top 36
abbrev N_goes_well : List Str := ["words", "a", "b", "table", "triple", "held", "tail", "number", "letter", "rest", "longer", "gain", "loss"]
theorem sc_goes_well : FnScope N_goes_well ["words", "a", "b", "table", "triple"] (defScope st_goes_well) := ⟨rfl, rfl, rfl, by decide +kernel, rfl, by decide +kernel, by decide +kernel⟩
def PreG (ws : Ws) (a b : Int) (d : Dc) (z : Tr) : Prop := Good ws ∧ (-1000 ≤ a ∧ a ≤ 1000) ∧ (-1000 ≤ b ∧ b ≤ 1000) ∧ z.1.length ≤ 100 ∧ z.2.1.length ≤ 100 ∧ Over ws z.1 ∧
  ∀ l ∈ lets ws, ∀ s ∈ steps ws z.1 z.2.1 l, ∃ y, lookD d (s.1, s.2.1) = some y ∧ z.2.2 + b * s.2.2.1 - a * s.2.2.2 ≤ y
abbrev sp_goes : Sp := Pu5 eWs eInt eInt eDc eTr eBl PreG (fun _ _ _ _ _ => true)
theorem ok_goes (B : Bl mg) (F : DefAt K mg "goes_well" st_goes_well ["words", "a", "b", "table", "triple"]) (c_letters_in : Cal P w K mg base "letters_in" 1 ["words"] sp_letters) (c_steps_of : Cal P w K mg base "steps_of" 5 ["words", "held", "tail", "letter"] sp_steps) : Cal P w K mg base "goes_well" 6 ["words", "a", "b", "table", "triple"] sp_goes := by
  refine F.cal sc_goes_well (fun vs H Q E h => ?_) (fun f cdv A outer s H vs Q E hr h => ?_)
  · obtain ⟨_, _, _, _, _, _, _, _, _, _, rfl, _⟩ := h; rfl
  · obtain ⟨va, vb, vc, vd, ve, ws, a, b, d, z, rfl, ra, rb, rc, rd', re, ⟨gd, ha, hb, hl1, hl2, ho, hs⟩, q⟩ := h
    have hu := huU hr
    refine ⟨_, (pss_cons (ps_asg (pv 4) (pg_tupK K (n := 3) rfl (pgs_cons (pg_name (i := 5) sc_goes_well.nd rfl (.inl rfl)) (pgs_cons (pg_name (i := 6) sc_goes_well.nd rfl (.inl rfl)) (pgs_cons (pg_name (i := 7) sc_goes_well.nd rfl (.inl rfl)) pgs_nil)))))
    (pss_cons (ps_for PassesOwn.never rfl (pi_str (pe_cal c_letters_in hr (by decide) (by rfl) (pa_cons (pv 0) pa_nil))) (pg_name (i := 8) sc_goes_well.nd rfl (.inl rfl))
    (pss_one (ps_for PassesOwn.never rfl (pi_listK K (pe_cal c_steps_of hr (by decide) (by rfl) (pa_cons (pv 0) (pa_cons (pv 5) (pa_cons (pv 6) (pa_cons (pv 8) pa_nil)))))) (pg_tupK K (n := 4) rfl (pgs_cons (pg_name (i := 9) sc_goes_well.nd rfl (.inl rfl)) (pgs_cons (pg_name (i := 10) sc_goes_well.nd rfl (.inl rfl)) (pgs_cons (pg_name (i := 11) sc_goes_well.nd rfl (.inl rfl)) (pgs_cons (pg_name (i := 12) sc_goes_well.nd rfl (.inl rfl)) pgs_nil)))))
    (pss_one (ps_if (PW.pt (pw_or (pt_cmp (pc_dnotin hu (pe_tup (pa_cons (pv 9) (pa_cons (pv 10) pa_nil))) (pv 3))) (pw_or1 (pt_cmpR op_lt (pe_dget hu (pv 3) (pe_tup (pa_cons (pv 9) (pa_cons (pv 10) pa_nil))) (fun _ _ => rfl)) (pe_op (op_sub) (pe_op (op_add) (pv 7) (pe_op (op_mul) (pv 2) (pv 11))) (pe_op (op_mul) (pv 1) (pv 12))) (nomark _))))) (pss_one (ps_ret pe_bl)) pss_nil)))))
    (pss_one (ps_ret pe_bl)))), ?_⟩
    refine q_asgG (er_var rfl re) fun v1 H1 k1 r1 => g_3 r1 fun x5 x6 x7 r5 r6 r7 => ?_
    refine q_for [] (src_str (er_call1 (er_var rfl (eWs.mono k1 ra)) gd)) (fun x hx => by cases hx) (fun i σ' H' => ∃ z8 z9 z10 z11 z12, σ' = [some va, some vb, some vc, some vd, some ve, some x5, some x6, some x7, z8, z9, z10, z11, z12]) (fun H2 k2 => ⟨_, _, _, _, _, rfl⟩) ?_ ?_
    · rintro i c σ' H2 hx k2 ⟨z8, z9, z10, z11, z12, rfl⟩ v8 H3 k3 r8
      rw [hid_nil] at k2
      have hc : c ∈ lets ws := List.mem_of_getElem? hx
      refine g_1 ?_
      have k13 : Ex H1 H3 := k2.trans k3
      refine s_for [] (src_new (en_call4 (er_var rfl (eWs.mono (k1.trans k13) ra)) (er_var rfl (eStr.mono k13 r5)) (er_var rfl (eStr.mono k13 r6)) (er_var rfl r8) ⟨gd, hl1, hl2, ho, hc⟩)) (fun x hx => by cases hx) (fun i σ' H' => ∃ z9 z10 z11 z12, σ' = [some va, some vb, some vc, some vd, some ve, some x5, some x6, some x7, some v8, z9, z10, z11, z12]) (fun H2 k2 => ⟨_, _, _, _, rfl⟩) ?_ ?_
      · rintro j s σ' H4 hj k4 ⟨z9, z10, z11, z12, rfl⟩ v9 H5 k5 r9
        rw [hid_nil] at k4
        obtain ⟨y, hy, hle⟩ := hs c hc s (List.mem_of_getElem? hj)
        have k15 : Ex H1 H5 := k13.trans (k4.trans k5)
        refine g_4 r9 fun y1 y2 y3 y4 q1 q2 q3 q4 => ?_
        have eD : ∀ {H6 : Hp}, Ex H5 H6 → EvR eDc (tVar 3) [some va, some vb, some vc, some vd, some ve, some x5, some x6, some x7, some v8, some y1, some y2, some y3, some y4] H6 d := fun k => er_var rfl (eDc.mono ((k1.trans k15).trans k) rd')
        have eK : EvR ePr (tTup (tCons (tVar 9) (tCons (tVar 10) tNil))) [some va, some vb, some vc, some vd, some ve, some x5, some x6, some x7, some v8, some y1, some y2, some y3, some y4] H5 (s.1, s.2.1) := er_tup2 (er_var rfl q1) (er_var rfl q2)
        refine s_when (et_or (et_rB (er_dnotin (eD (Ex.refl _)) eK)) fun _ => et_r (er_lt (er_dget (eD (Ex.refl _)) eK hy) (er_sub (er_add (er_var rfl (eInt.mono k15 r7)) (er_mul (er_var rfl (eInt.mono (k1.trans k15) rc)) (er_var rfl q3) (cmulL hb))) (er_mul (er_var rfl (eInt.mono (k1.trans k15) rb)) (er_var rfl q4) (cmulL ha))))) (fun hbb => ?_) (fun _ H6 k6 => ?_)
        · exfalso
          rw [hy, decide_eq_false (by omega)] at hbb
          exact absurd hbb (by simp)
        · exact ⟨by rw [hid_nil]; exact k5.trans k6, _, _, _, _, rfl⟩
      · rintro σ' H4 k4 ⟨z9, z10, z11, z12, rfl⟩
        rw [hid_nil] at k4
        exact ⟨by rw [hid_nil]; exact k3.trans k4, _, _, _, _, _, rfl⟩
    · rintro σ' H2 k2 ⟨z8, z9, z10, z11, z12, rfl⟩
      rw [hid_nil] at k2
      exact s_retR er_bl fun v H3 k3 r => q v H3 ((k1.trans k2).trans k3) r
-- slots: 0=words* 1=a* 2=b* 3=c* 4=value 5=table* 6=held 7=tail 8=number 9=one
abbrev st_fit : Stmt := top 38
abbrev N_fit : List Str := ["words", "a", "b", "c", "value", "table", "held", "tail", "number", "one"]
theorem sc_fit : FnScope N_fit ["words", "a", "b", "c", "value"] (defScope st_fit) := ⟨rfl, rfl, rfl, by decide +kernel, rfl, by decide +kernel, by decide +kernel⟩
def PreF (ws : Ws) (a b c : Int) (T : List Tr) : Prop := Good ws ∧ (-1000 ≤ a ∧ a ≤ 1000) ∧ (-1000 ≤ b ∧ b ≤ 1000) ∧ RightT ws a b c T
abbrev sp_fit : Sp := Pu5 eWs eInt eInt eInt (eTL eTr) eBl PreF (fun _ _ _ _ _ => true)
theorem keys_nd {T : List Tr} (asc : T.Pairwise (fun x y => lt2 (x.1, x.2.1) (y.1, y.2.1))) : (T.map (fun z => (z.1, z.2.1))).Nodup := by
  unfold List.Nodup
  rw [List.pairwise_map]
  refine asc.imp fun {x y} h e => ?_
  rw [e] at h
  rcases h with h | ⟨_, h⟩
  · exact List.lt_irrefl _ h
  · exact List.lt_irrefl _ h
theorem ok_fit (B : Bl mg) (F : DefAt K mg "fit" st_fit ["words", "a", "b", "c", "value"]) (c_is_table : Cal P w K mg base "is_table" 3 ["value"] sp_table) (c_is_over : Cal P w K mg base "is_over" 2 ["words", "text"] sp_over)
    (c_ends_well : Cal P w K mg base "ends_well" 5 ["words", "b", "c", "triple"] sp_ends) (c_goes_well : Cal P w K mg base "goes_well" 6 ["words", "a", "b", "table", "triple"] sp_goes) : Cal P w K mg base "fit" 7 ["words", "a", "b", "c", "value"] sp_fit := by
  refine F.cal sc_fit (fun vs H Q E h => ?_) (fun f cdv A outer s H vs Q E hr h => ?_)
  · obtain ⟨_, _, _, _, _, _, _, _, _, _, rfl, _⟩ := h; rfl
  · obtain ⟨va, vb, vc, vd, ve, ws, a, b, c, T, rfl, ra, rb, rc, rd', re, ⟨gd, ha, hb, R⟩, q⟩ := h
    have hu := huU hr
    refine ⟨_, (pss_cons (ps_if (PW.pt (pw_or (pt_not (pt_val (pe_cal c_is_table hr (by decide) (by rfl) (pa_cons (pv 4) pa_nil)))) (pw_or1 (pt_not (pt_val (pe_callB (cr_allK K rfl) (by rfl) B.all (by decide +kernel) (pa_cons (pe_lc (own := [("one", 9)]) rfl sc_fit.nd (pi_tupK K (pv 4)) (blkOk_by (own := [("one", 9)]) (N := N_fit) (sc := defScope st_fit) (by decide +kernel)) (fun _ _ _ _ _ => (pg_name (i := 9) sc_fit.nd rfl (.inl rfl))) (fun _ _ _ _ _ => pts_nil) (fun _ _ _ _ _ => (pe_cal c_is_over hr (by decide) (by rfl) (pa_cons (pv 0) (pa_cons (pe_op (op_add_str) (pe_ix (ix_tupK K) (pv 9) pe_int (fun _ _ => rfl)) (pe_ix (ix_tupK K) (pv 9) pe_int (fun _ _ => rfl))) pa_nil))))) pa_nil))))))) (pss_one (ps_ret pe_bl)) pss_nil)
    (pss_cons (ps_set (i := 5) sc_fit.nd rfl (.inr rfl) (pe_dcT hu (own := [("held", 6), ("tail", 7), ("number", 8)]) rfl sc_fit.nd (pi_tupK K (pv 4)) (blkOk_by (own := [("held", 6), ("tail", 7), ("number", 8)]) (N := N_fit) (sc := defScope st_fit) (by decide +kernel)) (fun _ _ _ _ _ => (pg_tupK K (n := 3) rfl (pgs_cons (pg_name (i := 6) sc_fit.nd rfl (.inl rfl)) (pgs_cons (pg_name (i := 7) sc_fit.nd rfl (.inl rfl)) (pgs_cons (pg_name (i := 8) sc_fit.nd rfl (.inl rfl)) pgs_nil))))) (fun _ _ _ _ _ => pts_nil) (fun _ _ _ _ _ => (pe_tup (pa_cons (pv 6) (pa_cons (pv 7) pa_nil)))) (fun _ _ _ _ _ => (pv 8))))
    (pss_cons (ps_if (pt_cmpR op_lt (pe_dget2 hu (pv 5) (pe_tup (pa_cons pe_str (pa_cons pe_str pa_nil))) (pe_un un_neg pe_int) ⟨rfl, rfl, rfl, rfl⟩) pe_int (nomark _)) (pss_one (ps_ret pe_bl)) pss_nil)
    (pss_one (ps_ret (pe_callB (cr_allK K rfl) (by rfl) B.all (by decide +kernel) (pa_cons (pe_lc (own := [("one", 9)]) rfl sc_fit.nd (pi_tupK K (pv 4)) (blkOk_by (own := [("one", 9)]) (N := N_fit) (sc := defScope st_fit) (by decide +kernel)) (fun _ _ _ _ _ => (pg_name (i := 9) sc_fit.nd rfl (.inl rfl))) (fun _ _ _ _ _ => pts_nil) (fun _ _ _ _ _ => (pe_and (pe_cal c_ends_well hr (by decide) (by rfl) (pa_cons (pv 0) (pa_cons (pv 2) (pa_cons (pv 3) (pa_cons (pv 9) pa_nil))))) (pe_one (pe_cal c_goes_well hr (by decide) (by rfl) (pa_cons (pv 0) (pa_cons (pv 1) (pa_cons (pv 2) (pa_cons (pv 5) (pa_cons (pv 9) pa_nil)))))))))) pa_nil))))))), ?_⟩
    have hfew := R.few
    have nd := keys_nd R.asc
    have hov : ∀ z ∈ T, ((z.1 ++ z.2.1).map (fun c => decide (c ∈ lets ws))).all id = true := fun z hz => all_true _ _ fun c hc => decide_eq_true (R.over z hz c hc)
    refine q_when (et_or (et_not (et_rB (er_call1 (er_var rfl re) ⟨R.asc, by omega⟩))) fun _ => et_not (et_rB (er_all (EvN.r (en_lcA (e := eTr) (e' := eBl) (fun z => ((z.1 ++ z.2.1).map (fun c => decide (c ∈ lets ws))).all id) (src_tup (er_var rfl re)) (by omega) fun z v H1 hz k r Q q => g_1 (q _ rfl
      (er_call2 (er_var rfl (eWs.mono k ra)) (er_catS (er_30 (er_var rfl r)) (er_31 (er_var rfl r)) (by have := R.short z hz; omega)) ⟨gd, by have := R.short z hz; rw [List.length_append]; omega⟩))))))) (fun hbb => ?_) (fun _ H1 k1 => ?_)
    · exfalso
      rw [all_true _ _ hov] at hbb
      exact absurd hbb (by decide)
    refine q_asgD (d := ofL (fun z : Tr => (z.1, z.2.1)) (fun z => z.2.2) T) (ev_dc (e := eTr) (fun z : Tr => (z.1, z.2.1)) (fun z => z.2.2) (src_tup (K := K) (er_var (i := 4) rfl re)) (by omega)
      (fun z v H2 hz k r Q q => g_3 r fun x1 x2 x3 r1 r2 r3 => q _ rfl (er_tup2 (er_var rfl r1) (er_var rfl r2)) (er_var rfl r3)) H1 k1) fun p H2 hp k2 r2 => ?_
    have k12 := k1.trans k2
    generalize hD : ofL (fun z : Tr => (z.1, z.2.1)) (fun z => z.2.2) T = d at r2
    have hlook : ∀ z ∈ T, lookD d (z.1, z.2.1) = some z.2.2 := fun z hz => by rw [← hD]; exact ofL_mem (kf := fun z : Tr => (z.1, z.2.1)) (vf := fun z => z.2.2) nd hz
    have rD : eDc.R H2 (V.ref p) d := ⟨p, rfl, r2⟩
    obtain ⟨x0, hx0, hpos⟩ := R.start
    refine q_when (et_r (er_lt (er_dget2 (p := ([], [])) (er_var rfl rD) (er_tup2 (er_str (t := []) (by decide +kernel)) (er_str (t := []) (by decide +kernel))) (er_neg er_int)) er_int)) (fun hbb => ?_) (fun _ H3 k3 => ?_)
    · exfalso
      have := hlook _ hx0
      rw [show lookD d ([], []) = some x0 from this] at hbb
      have := of_decide_eq_true hbb
      have h0 : x0 < 0 := this
      omega
    have k13 := k12.trans k3
    refine s_retR ((er_all (EvN.r (en_lcA (e := eTr) (e' := eBl) (fun z => endsWell ws b c z && true) (src_tup (er_var rfl ((eTL eTr).mono k13 re))) (by omega) fun z v H4 hz k4 r Q q => g_1 (q _ rfl
      (er_and (er_call4 (er_var rfl (eWs.mono (k13.trans k4) ra)) (er_var rfl (eInt.mono (k13.trans k4) rc)) (er_var rfl (eInt.mono (k13.trans k4) rd')) (er_var rfl r) ⟨gd, hb, (R.over z hz).left, by have := R.short z hz; omega⟩) fun _ =>
        er_call5 (er_var rfl (eWs.mono (k13.trans k4) ra)) (er_var rfl (eInt.mono (k13.trans k4) rb)) (er_var rfl (eInt.mono (k13.trans k4) rc)) (er_var rfl (eDc.mono (k3.trans k4) rD)) (er_var rfl r) ⟨gd, ha, hb, by have := R.short z hz; omega, by have := R.short z hz; omega, (R.over z hz).left, fun l hl s hs => ?_⟩))))).is ?_) fun v H4 k4 r4 => q v H4 (k13.trans k4) r4
    · exact all_true _ _ fun z hz => by rw [R.ends z hz]; rfl
    · obtain ⟨y, hy, hle⟩ := R.step _ ‹_› l hl s hs
      exact ⟨y, hlook _ hy, hle⟩
-- slots: 0=words 1=a 2=b 3=c 4=value
abbrev st_are_right : Stmt := top 39
abbrev N_are_right : List Str := ["words", "a", "b", "c", "value"]
theorem sc_are_right : FnScope N_are_right ["words", "a", "b", "c", "value"] (defScope st_are_right) := ⟨rfl, rfl, rfl, by decide +kernel, rfl, by decide +kernel, by decide +kernel⟩
def PreR (ws : Ws) (a b c : Int) (T : List Tr) : Prop := PreB ws a b c ∧ RightT ws a b c T
abbrev sp_right : Sp := Pu5 eWs eInt eInt eInt (eTL eTr) eBl PreR (fun _ _ _ _ _ => true)
theorem ok_right (B : Bl mg) (F : DefAt K mg "are_right" st_are_right ["words", "a", "b", "c", "value"]) (c_check_bound : Cal P w K mg base "check_bound" 5 ["words", "a", "b", "c"] sp_checkb) (c_fit : Cal P w K mg base "fit" 7 ["words", "a", "b", "c", "value"] sp_fit) :
    Cal P w K mg base "are_right" 8 ["words", "a", "b", "c", "value"] sp_right := by
  refine F.cal sc_are_right (fun vs H Q E h => ?_) (fun f cdv A outer s H vs Q E hr h => ?_)
  · obtain ⟨_, _, _, _, _, _, _, _, _, _, rfl, _⟩ := h; rfl
  · obtain ⟨va, vb, vc, vd, ve, ws, a, b, c, T, rfl, ra, rb, rc, rd', re, ⟨hp, R⟩, q⟩ := h
    refine ⟨_, (pss_cons (ps_expr (pe_cal c_check_bound hr (by decide) (by rfl) (pa_cons (pv 0) (pa_cons (pv 1) (pa_cons (pv 2) (pa_cons (pv 3) pa_nil))))))
    (pss_one (ps_ret (pe_cal c_fit hr (by decide) (by rfl) (pa_cons (pv 0) (pa_cons (pv 1) (pa_cons (pv 2) (pa_cons (pv 3) (pa_cons (pv 4) pa_nil))))))))), ?_⟩
    refine s_dropR (er_call4 (er_var rfl ra) (er_var rfl rb) (er_var rfl rc) (er_var rfl rd') hp) fun H1 k1 => ?_
    obtain ⟨gd, ha, hb, hc⟩ := hp
    exact s_retR (er_call5 (er_var rfl (eWs.mono k1 ra)) (er_var rfl (eInt.mono k1 rb)) (er_var rfl (eInt.mono k1 rc)) (er_var rfl (eInt.mono k1 rd')) (er_var rfl ((eTL eTr).mono k1 re)) ⟨gd, ⟨by omega, by omega⟩, ⟨by omega, by omega⟩, R⟩) fun v H2 k2 r => q v H2 (k1.trans k2) r
end
end K61

/-! K61I: dicts of texts as data; more rules for the law's side; plain lemmas. -/
namespace K61
open PySem PySem.Spec PyProof.Rows L2 Evl
/-! ### dicts of texts -/
abbrev Ds := List (Tx × Int)
def kS (t : Tx) : Key := Sum.inr (ss t)
theorem kS_inj {p q : Tx} (h : kS p = kS q) : p = q := by
  unfold kS at h
  injection h with h
  exact ss_inj h
def encS (D : Ds) : List (Key × V) := D.map (fun z => (kS z.1, V.int z.2))
def lookS (D : Ds) (p : Tx) : Option Int := (D.find? (fun z => decide (z.1 = p))).map (·.2)
def putS (D : Ds) (p : Tx) (v : Int) : Ds := if D.any (fun z => decide (z.1 = p)) = true then D.map (fun z => if z.1 = p then (z.1, v) else z) else D ++ [(p, v)]
theorem dec_kS (p q : Tx) : decide (kS p = kS q) = decide (p = q) := Bool.eq_iff_iff.mpr (by simp; exact ⟨kS_inj, fun h => h ▸ rfl⟩)
theorem valV_encS (D : Ds) (p : Tx) : valV (encS D) (kS p) = (lookS D p).map V.int := by
  unfold valV lookS encS
  induction D with
  | nil => rfl
  | cons z r ih =>
    rw [List.map_cons, List.find?_cons, List.find?_cons, dec_kS]
    cases decide (z.1 = p) with
    | true => rfl
    | false => exact ih
theorem put_encS (D : Ds) (p : Tx) (v : Int) : putK (encS D) (kS p) (V.int v) = encS (putS D p v) := by
  have h1 : ((encS D).any fun kv => decide (kv.1 = kS p)) = D.any (fun z => decide (z.1 = p)) := by
    unfold encS
    induction D with
    | nil => rfl
    | cons z r ih => rw [List.map_cons, List.any_cons, List.any_cons, ih, dec_kS]
  unfold putK putS
  rw [h1]
  split
  · unfold encS
    rw [List.map_map, List.map_map]
    refine List.map_congr_left fun z _ => ?_
    show (if kS z.1 = kS p then (kS z.1, V.int v) else (kS z.1, V.int z.2)) = (kS (if z.1 = p then (z.1, v) else z).1, V.int (if z.1 = p then (z.1, v) else z).2)
    by_cases h : z.1 = p
    · rw [if_pos h, if_pos (h ▸ rfl)]
    · rw [if_neg h, if_neg fun q => h (kS_inj q)]
  · unfold encS
    rw [List.map_append]
    rfl
theorem putS_anyK (D : Ds) (p : Tx) : D.any (fun z => decide (z.1 = p)) = true ↔ p ∈ D.map (·.1) := by
  rw [List.any_eq_true, List.mem_map]
  constructor
  · rintro ⟨z, hz, h⟩; exact ⟨z, hz, of_decide_eq_true h⟩
  · rintro ⟨z, hz, h⟩; exact ⟨z, hz, decide_eq_true h⟩
theorem putS_new {D : Ds} {p : Tx} {v : Int} (h : p ∉ D.map (·.1)) : putS D p v = D ++ [(p, v)] := by
  unfold putS
  rw [if_neg fun q => h ((putS_anyK D p).mp q)]
theorem putS_keys (D : Ds) (p : Tx) (v : Int) : (putS D p v).map (·.1) = if p ∈ D.map (·.1) then D.map (·.1) else D.map (·.1) ++ [p] := by
  unfold putS
  split
  · rename_i h
    rw [if_pos ((putS_anyK D p).mp h), List.map_map]
    refine List.map_congr_left fun z _ => ?_
    show (if z.1 = p then (z.1, v) else z).1 = z.1
    split <;> rfl
  · rename_i h
    rw [if_neg fun q => h ((putS_anyK D p).mpr q), List.map_append]
    rfl
theorem putS_len (D : Ds) (p : Tx) (v : Int) : (putS D p v).length ≤ D.length + 1 := by
  unfold putS
  split
  · rw [List.length_map]; omega
  · rw [List.length_append]; exact Nat.le_refl _
theorem putS_mem {D : Ds} {p : Tx} {v : Int} {z : Tx × Int} (h : z ∈ putS D p v) : z ∈ D ∨ z = (p, v) := by
  unfold putS at h
  split at h
  · obtain ⟨y, hy, e⟩ := List.mem_map.mp h
    split at e
    · rename_i h1
      right
      rw [← e, h1]
    · left
      rw [← e]
      exact hy
  · rcases List.mem_append.mp h with h | h
    · exact .inl h
    · exact .inr (List.mem_singleton.mp h)
theorem mem_lookS {D : Ds} (nd : (D.map (·.1)).Nodup) {p : Tx} {x : Int} (h : (p, x) ∈ D) : lookS D p = some x := by
  unfold lookS
  induction D with
  | nil => cases h
  | cons z r ih =>
    rw [List.map_cons, List.nodup_cons] at nd
    rw [List.find?_cons]
    rcases List.mem_cons.mp h with e | h
    · subst e
      simp
    · have hne : decide (z.1 = p) = false := decide_eq_false fun q => nd.1 (q ▸ List.mem_map.mpr ⟨_, h, rfl⟩)
      rw [hne]
      exact ih nd.2 h
theorem lookS_cost {ws : Ws} (g : Good ws) {t : Tx} (h : t ∈ names ws) : lookS ws t = some (cost ws t) := by
  obtain ⟨e, he, rfl⟩ := mem_names.mp h
  rw [mem_lookS (nodup_names g) (p := e.1) (x := e.2) he, cost_mem g (w := e.1) (k := e.2) he]
/-- a dict of texts, open or locked -/
def eDs : Enc Ds := ⟨fun H v D => ∃ d, v = .ref d ∧ Rd H d (.dK (encS D)), fun e h => let ⟨d, h1, h2⟩ := h; ⟨d, h1, ex_rd e h2⟩⟩
/-- a dict of pairs, open or locked -/
def eDf : Enc Dc := ⟨fun H v D => ∃ d, v = .ref d ∧ Rd H d (.dT (encD D)), fun e h => let ⟨d, h1, h2⟩ := h; ⟨d, h1, ex_rd e h2⟩⟩
section
variable {α : Type} {K : PySem.W.Frag} {σ : L2.St} {H : Hp} {ta tb td ty tv te : TE} {t : TT} {tu tz : L2.TS} {D : Ends}
theorem er_dgetS {d : Ds} {p : Tx} {x : Int} (hd : EvR eDs td σ H d) (hy : EvR eStr ty σ H p) (hx : lookS d p = some x) : EvR eInt (tDGet td ty) σ H x := fun H1 k Q q =>
  hd H1 k _ fun v H2 k2 rv => hy H2 (k.trans k2) _ fun u H3 k3 ru => by
    obtain ⟨a, rfl, ha⟩ := rv
    cases ru
    refine ⟨a, .int x, rfl, ?_, q _ H3 (k2.trans k3) rfl⟩
    refine .inl ⟨encS d, kS p, ex_rd k3 ha, rfl, ?_⟩
    rw [valV_encS, hx]
    rfl
theorem er_dgetF {d : Dc} {p : Tx × Tx} {x : Int} (hd : EvR eDf td σ H d) (hy : EvR ePr ty σ H p) (hx : lookD d p = some x) : EvR eInt (tDGet td ty) σ H x := fun H1 k Q q =>
  hd H1 k _ fun v H2 k2 rv => hy H2 (k.trans k2) _ fun u H3 k3 ru => by
    obtain ⟨a, rfl, ha⟩ := rv
    obtain ⟨b, rfl, hb⟩ := key_tup ru
    refine ⟨a, .int x, rfl, ?_, q _ H3 (k2.trans k3) rfl⟩
    refine .inr ⟨encD d, kO p, b, ex_rd k3 ha, rfl, hb, ?_⟩
    rw [valV_enc, hx]
    rfl
/-- d[k] = v -/
theorem s_dputS {d : Ds} {p : Tx} {x : Int} {a : Addr} (hx : EvR eInt tv σ H x) (hd : Ev td σ H (.ref a)) (hy : EvR eStr ty σ H p) (ha : H a = some (.dK (encS d))) (hl : d.length < 100000)
    (k : ∀ H1, Ex (hid H [a]) H1 → H1 a = some (.dK (encS (putS d p x))) → D.nx σ H1) : sDPut td ty tv D σ H :=
  hx H (Ex.refl H) _ fun v H1 k1 rv => hd H1 k1 _ fun H2 k2 => hy H2 (k1.trans k2) _ fun u H3 k3 ru => by
    cases rv; cases ru
    refine ⟨a, _, rfl, DPut.k (k := kS p) (k3 _ _ (k2 _ _ (k1 _ _ ha))) (sz_lt (by unfold encS; rw [List.length_map]; exact hl)), k _ ?_ ?_⟩
    · exact Ex.mut (ex_unhid ((k1.trans k2).trans k3)) (hid_at (List.mem_singleton.mpr rfl))
    · rw [upd_same, put_encS]
/-- d = {} -/
theorem q_dnew {i : Nat} (k : ∀ p H1, H p = none → Ex H H1 → H1 p = some (.dK (encS [])) → tz D (σ.set i (some (.ref p))) H1) : tSeq (tAsg tDNewK (gName i)) tz D σ H := fun p hp => k p _ hp (Ex.new hp) upd_same
/-- if c: .., both ways to one place -/
theorem q_whenJ {b : Bool} (h : EvT t σ H b) (J : L2.St → Hp → Prop) (fin : ∀ σ' H', J σ' H' → tz D σ' H') (h1 : b = true → ∀ H1, Ex H H1 → ∀ D' : Ends, (∀ σ' H', J σ' H' → D'.nx σ' H') → tu D' σ H1) (h2 : b = false → ∀ H1, Ex H H1 → J σ H1) : tSeq (tIfS t tu tNext) tz D σ H :=
  q_when h (fun hb H1 k => h1 hb H1 k { D with nx := tz D } fin) fun hb H1 k => fin _ _ (h2 hb H1 k)
theorem er_mod {x y : Int} (ha : EvR eInt ta σ H x) (hb : EvR eInt tb σ H y) (hc : 0 < y) : EvR eInt (tOp (rI (fun _ j => 0 < j) fun i j => .int (i % j)) ta tb) σ H (x % y) := er_I ha hb hc fun _ => rfl
theorem er_fdiv {x y : Int} (ha : EvR eInt ta σ H x) (hb : EvR eInt tb σ H y) (hc : CDiv x y) : EvR eInt (tOp (rI CDiv fun i j => .int (i / j)) ta tb) σ H (x / y) := er_I ha hb hc fun _ => rfl
theorem er_pow {x y : Int} (ha : EvR eInt ta σ H x) (hb : EvR eInt tb σ H y) (hc : CPow x y) : EvR eInt (tOp (rI CPow fun i j => .int (i ^ j.toNat)) ta tb) σ H (x ^ y.toNat) := er_I ha hb hc fun _ => rfl
theorem er_abs {x : Int} (ha : EvR eInt ta σ H x) : EvR eInt (tCB (fun xs H Q => ∃ i, xs = [.int i] ∧ Q (.int (if i < 0 then -i else i)) H) (tCons ta tNil)) σ H (if x < 0 then -x else x) := fun H1 k Q q =>
  ha H1 k _ fun v H2 k2 r => by cases r; exact ⟨x, rfl, q _ H2 k2 rfl⟩
theorem er_int1 {x : Int} (ha : EvR eInt ta σ H x) : EvR eInt (tCB (fun xs H Q => (∃ i, xs = [.int i] ∧ Q (.int i) H) ∨ ∃ k, xs = [.bl k] ∧ Q (.int (if k then 1 else 0)) H) (tCons ta tNil)) σ H x := fun H1 k Q q =>
  ha H1 k _ fun v H2 k2 r => by cases r; exact .inl ⟨x, rfl, q _ H2 k2 rfl⟩
/-- max, min of a list -/
theorem er_maxL {l : List Int} {m : Int} (ha : EvR (eLs eInt) ta σ H l) (hm : m ∈ l) (ht : ∀ y ∈ l, y ≤ m) : EvR eInt (tCB (rMax K) (tCons ta tNil)) σ H m := fun H1 k Q q =>
  ha H1 k _ fun v H2 k2 r => by
    obtain ⟨a, xs, rfl, h2, h3⟩ := r
    have := paired_eqs (ec := V.int) h3
    subst this
    refine ⟨a, l, rfl, SqL.of h2, List.length_pos_of_mem hm, fun m' h1 h2 => ?_⟩
    have e : m' = m := by have := ht m' h1; have := h2 m hm; omega
    rw [e]
    exact q _ H2 k2 rfl
theorem er_minL {l : List Int} {m : Int} (ha : EvR (eLs eInt) ta σ H l) (hm : m ∈ l) (ht : ∀ y ∈ l, m ≤ y) : EvR eInt (tCB (rMin K) (tCons ta tNil)) σ H m := fun H1 k Q q =>
  ha H1 k _ fun v H2 k2 r => by
    obtain ⟨a, xs, rfl, h2, h3⟩ := r
    have := paired_eqs (ec := V.int) h3
    subst this
    refine ⟨a, l, rfl, SqL.of h2, List.length_pos_of_mem hm, fun m' h1 h2 => ?_⟩
    have e : m' = m := by have := ht m' h1; have := h2 m hm; omega
    rw [e]
    exact q _ H2 k2 rfl
theorem er_isB {x y : Bool} (ha : EvR eBl ta σ H x) (hb : EvR eBl tb σ H y) : EvR eBl (tOp rIsB ta tb) σ H (decide (x = y)) := er_op ha hb fun v w H1 _ r1 r2 Q q => by cases r1; cases r2; exact ⟨x, y, rfl, rfl, q _ H1 (Ex.refl _) rfl⟩
theorem er_notB {x y : Bool} (ha : EvR eBl ta σ H x) (hb : EvR eBl tb σ H y) : EvR eBl (tOp rNotB ta tb) σ H (!decide (x = y)) := er_op ha hb fun v w H1 _ r1 r2 Q q => by cases r1; cases r2; exact ⟨x, y, rfl, rfl, q _ H1 (Ex.refl _) rfl⟩
end
theorem nn_bl (H : Hp) (v : V) (x : Bool) (h : eBl.R H v x) : v ≠ .non := by cases h; exact fun q => nomatch q
/-! ### plain lemmas -/
theorem filter_one {ws : Ws} (g : Good ws) (w : Tx) : ws.filter (fun e => e.1 == w) = if (names ws).contains w then [(w, cost ws w)] else [] := by
  have key : ∀ l : Ws, (l.map (·.1)).Nodup → (∀ e ∈ l, e ∈ ws) → l.filter (fun e => e.1 == w) = if (l.map (·.1)).contains w then [(w, cost ws w)] else [] := by
    intro l
    induction l with
    | nil => intro _ _; rfl
    | cons e r ih =>
      intro nd hm
      rw [List.map_cons, List.nodup_cons] at nd
      have ih := ih nd.2 fun x hx => hm x (List.mem_cons_of_mem _ hx)
      rw [List.filter_cons, List.map_cons, List.contains_cons]
      by_cases h : e.1 = w
      · have h1 : (e.1 == w) = true := beq_iff_eq.mpr h
        have h2 : (w == e.1) = true := beq_iff_eq.mpr h.symm
        have h3 : (r.map (·.1)).contains w = false := by
          rw [Bool.eq_false_iff]
          intro q
          exact nd.1 (h ▸ by simpa using q)
        rw [h1, h2, ih, h3, if_pos rfl]
        have h4 := cost_mem g (w := w) (k := e.2) (by rw [← h]; exact hm e List.mem_cons_self)
        simp
        rw [h4, ← h]
      · have h1 : (e.1 == w) = false := beq_eq_false_iff_ne.mpr h
        have h2 : (w == e.1) = false := beq_eq_false_iff_ne.mpr fun q => h q.symm
        rw [h1, h2, ih, Bool.false_or]
        exact if_neg (by decide)
  exact key ws (nodup_names g) fun _ h => h
theorem lets_one (ws : Ws) : (ws.filter (fun e => e.1.length == 1)).map (·.1) = (lets ws).map (fun c => [c]) := by
  unfold lets
  induction ws with
  | nil => rfl
  | cons e r ih =>
    rw [List.filter_cons]
    split
    · rename_i h
      obtain ⟨x, k⟩ := e
      match x, h with
      | [c], _ =>
        rw [List.map_cons, ih, List.flatMap_cons]
        rfl
    · exact ih
end K61

/-! K61L1: the law's letters, match, sum, reader, steps. -/
namespace K61
open PySem PySem.Spec PyProof.Rows L2 Evl
section
variable {P : Program} {w : World} {K : PySem.W.Frag} {mg : Str → Option Value} {base : Heap}
-- slots: 0=_law_words_here 1=_law_word 2=_law_cost_here
abbrev st_law_letters : Stmt := top 51
abbrev N_law_letters : List Str := ["_law_words_here", "_law_word", "_law_cost_here"]
theorem sc_law_letters : FnScope N_law_letters ["_law_words_here"] (defScope st_law_letters) := ⟨rfl, rfl, rfl, by decide +kernel, rfl, by decide +kernel, by decide +kernel⟩
def lets1 (ws : Ws) : List Tx := (lets ws).map (fun c => [c])
abbrev sp_lletters : Sp := PuN1 eWs eStr Good lets1
theorem ok_lletters (B : Bl mg) (F : DefAt K mg "_law_letters" st_law_letters ["_law_words_here"]) : Cal P w K mg base "_law_letters" 1 ["_law_words_here"] sp_lletters := by
  refine F.cal sc_law_letters (fun vs H Q E h => ?_) (fun f cdv A outer s H vs Q E hr h => ?_)
  · obtain ⟨_, _, rfl, _⟩ := h; rfl
  · obtain ⟨va, ws, rfl, ra, g, q⟩ := h
    refine ⟨_, (pss_one (ps_ret (pe_lc (own := [("_law_word", 1), ("_law_cost_here", 2)]) rfl sc_law_letters.nd (pi_tupK K (pv 0)) (blkOk_by (own := [("_law_word", 1), ("_law_cost_here", 2)]) (N := N_law_letters) (sc := defScope st_law_letters) (by decide +kernel)) (fun _ _ _ _ _ => (pg_tupK K (n := 2) rfl (pgs_cons (pg_name (i := 1) sc_law_letters.nd rfl (.inl rfl)) (pgs_cons (pg_name (i := 2) sc_law_letters.nd rfl (.inl rfl)) pgs_nil)))) (fun _ _ _ _ _ => (pts_one (pt_cmpR op_eq (pe_callB call_len_str (by rfl) B.len (by decide +kernel) (pa_cons (pv 1) pa_nil)) pe_int (nomark _)))) (fun _ _ _ _ _ => (pv 1))))), ?_⟩
    refine s_retN ((en_lc (e' := eStr) (fun (e : Tx × Int) => e.1.length == 1) (fun e => e.1) (src_tup (er_var rfl ra)) (small (Nat.le_trans g.few (by decide))) fun x v H1 hx k r Q q =>
      g_2 r fun v1 v2 r1 r2 => q _ rfl (et_is (et_r (er_eqI (er_lenS (er_var rfl r1) (name_short g hx)) er_int)) (len1 _)) fun _ => er_var rfl r1).is (lets_one ws)) q
-- slots: 0=_law_words_here 1=_law_text_here* 2=_law_word 3=_law_cost_here
abbrev st_law_grows : Stmt := top 57
abbrev N_law_grows : List Str := ["_law_words_here", "_law_text_here", "_law_word", "_law_cost_here"]
theorem sc_law_grows : FnScope N_law_grows ["_law_words_here", "_law_text_here"] (defScope st_law_grows) := ⟨rfl, rfl, rfl, by decide +kernel, rfl, by decide +kernel, by decide +kernel⟩
theorem ok_lgrow (B : Bl mg) (F : DefAt K mg "_law_grows" st_law_grows ["_law_words_here", "_law_text_here"]) : Cal P w K mg base "_law_grows" 1 ["_law_words_here", "_law_text_here"] sp_grow := by
  refine F.cal sc_law_grows (fun vs H Q E h => ?_) (fun f cdv A outer s H vs Q E hr h => ?_)
  · obtain ⟨_, _, _, _, rfl, _⟩ := h; rfl
  · obtain ⟨va, vb, ws, t, rfl, ra, rb, ⟨g, ht⟩, q⟩ := h
    refine ⟨_, (pss_one (ps_ret (pe_callB (cr_anyK K rfl) (by rfl) B.any (by decide +kernel) (pa_cons (pe_lc (own := [("_law_word", 2), ("_law_cost_here", 3)]) rfl sc_law_grows.nd (pi_tupK K (pv 0)) (blkOk_by (own := [("_law_word", 2), ("_law_cost_here", 3)]) (N := N_law_grows) (sc := defScope st_law_grows) (by decide +kernel)) (fun _ _ _ _ _ => (pg_tupK K (n := 2) rfl (pgs_cons (pg_name (i := 2) sc_law_grows.nd rfl (.inl rfl)) (pgs_cons (pg_name (i := 3) sc_law_grows.nd rfl (.inl rfl)) pgs_nil)))) (fun _ _ _ _ _ => pts_nil) (fun _ _ _ _ _ => (pe_and (pe_cmpR op_gt (pe_callB call_len_str (by rfl) B.len (by decide +kernel) (pa_cons (pv 2) pa_nil)) (pe_callB call_len_str (by rfl) B.len (by decide +kernel) (pa_cons (pv 1) pa_nil)) (nomark _)) (pe_one (pe_cmpR op_eq (pe_slice sl_str (pv 2) po_none (po_some (pe_callB call_len_str (by rfl) B.len (by decide +kernel) (pa_cons (pv 1) pa_nil)))) (pv 1) (nomark _)))))) pa_nil)))), ?_⟩
    refine s_retR ((er_any (EvN.r (en_lcA (e' := eBl) (fun (e : Tx × Int) => decide (t.length < e.1.length) && (e.1.take t.length == t)) (src_tup (er_var rfl ra)) (small (Nat.le_trans g.few (by decide))) fun x v H1 hx k r Q q =>
      g_2 r fun v1 v2 r1 r2 => q _ rfl ((er_and (er_gt (er_lenS (er_var rfl r1) (name_short g hx)) (er_lenS (er_var rfl (eStr.mono k rb)) (by omega))) fun _ =>
        er_eqS (er_slS (er_var rfl r1) eo_none (eo_r (er_lenS (er_var rfl (eStr.mono k rb)) (by omega))) (name_short g hx)) (er_var rfl (eStr.mono k rb))).is ?_)))).is (any_map_id _ _)) q
    rw [cutT_to, eqT]
    congr 1
    exact Bool.eq_iff_iff.mpr (by simp)
-- slots: 0=_law_words_here 1=_law_row 2=_law_costs* 3=_law_word 4=_law_cost_here
abbrev st_law_sum : Stmt := top 54
abbrev N_law_sum : List Str := ["_law_words_here", "_law_row", "_law_costs", "_law_word", "_law_cost_here"]
theorem sc_law_sum : FnScope N_law_sum ["_law_words_here", "_law_row"] (defScope st_law_sum) := ⟨rfl, rfl, rfl, by decide +kernel, rfl, by decide +kernel, by decide +kernel⟩
theorem ok_lsum (B : Bl mg) (F : DefAt K mg "_law_sum" st_law_sum ["_law_words_here", "_law_row"]) : Cal P w K mg base "_law_sum" 1 ["_law_words_here", "_law_row"] sp_rowc := by
  refine F.cal sc_law_sum (fun vs H Q E h => ?_) (fun f cdv A outer s H vs Q E hr h => ?_)
  · obtain ⟨_, _, _, _, rfl, _⟩ := h; rfl
  · obtain ⟨va, vb, ws, row, rfl, ra, rb, ⟨g, hrow, hlen⟩, q⟩ := h
    have hu := huU hr
    refine ⟨_, (pss_cons (ps_set (i := 2) sc_law_sum.nd rfl (.inr rfl) pe_dnewK)
    (pss_cons (ps_for PassesOwn.never rfl (pi_tupK K (pv 0)) (pg_tupK K (n := 2) rfl (pgs_cons (pg_name (i := 3) sc_law_sum.nd rfl (.inl rfl)) (pgs_cons (pg_name (i := 4) sc_law_sum.nd rfl (.inl rfl)) pgs_nil)))
    (pss_one (ps_dput hu (pv 2) (pv 3) (pv 4) rfl)))
    (pss_one (ps_ret (pe_callB (cr_sumK K rfl) (by rfl) B.sum (by decide +kernel) (pa_cons (pe_lc (own := [("_law_word", 3)]) rfl sc_law_sum.nd (pi_tupK K (pv 1)) (blkOk_by (own := [("_law_word", 3)]) (N := N_law_sum) (sc := defScope st_law_sum) (by decide +kernel)) (fun _ _ _ _ _ => (pg_name (i := 3) sc_law_sum.nd rfl (.inl rfl))) (fun _ _ _ _ _ => pts_nil) (fun _ _ _ _ _ => (pe_dget hu (pv 2) (pv 3) (fun _ _ => rfl)))) pa_nil)))))), ?_⟩
    refine q_dnew fun p H1 hp k1 h1 => ?_
    have hs1 : ∃ o, H1 p = some o ∧ ∀ xs, o ≠ .tup xs := ⟨_, h1, fun _ q => nomatch q⟩
    refine q_for [p] (src_tup (er_var rfl (eWs.mono k1 ra))) (hidden hs1 noA) (fun i σ' H' => ∃ z3 z4, σ' = [some va, some vb, some (.ref p), z3, z4] ∧ H' p = some (.dK (encS (ws.take i)))) (fun H2 k2 => ⟨none, none, rfl, k2 _ _ h1⟩) ?_ ?_
    · rintro i e σ' H2 hx k2 ⟨z3, z4, rfl, h2⟩ v H3 k3 rv
      refine g_2 rv fun x3 x4 r3 r4 => ?_
      have h3 := k3 _ _ h2
      have hl := g.few
      refine s_dputS (er_var rfl r4) (ev_var rfl) (er_var rfl r3) h3 (by rw [List.length_take]; omega) fun H4 k4 h4 => ?_
      refine ⟨(ex_hid _ k3).trans k4, some x3, some x4, rfl, ?_⟩
      rw [h4]
      have hn : e.1 ∉ (ws.take i).map (·.1) := by
        intro hm
        have nd := nodup_names g
        unfold names at nd
        rw [← List.take_append_drop (i + 1) ws, List.take_add_one, hx, List.map_append, List.map_append] at nd
        have nd2 := (List.nodup_append.mp nd).1
        exact (List.nodup_append.mp nd2).2.2 _ hm _ (by simp) rfl
      rw [putS_new hn, List.take_add_one, hx]
      rfl
    · rintro σ' H2 k2 ⟨z3, z4, rfl, h2⟩
      rw [List.take_length] at h2
      have kB : Ex H H2 := (ex_new1 k1 hp).trans k2
      refine s_retR (er_sum (EvN.r (en_lcA (e := eStr) (e' := eInt) (cost ws) (src_tup (er_var rfl ((eTL eStr).mono kB rb))) (by omega) fun x v H3 hx k r Q q => g_1 (q _ rfl (er_dgetS (d := ws) (er_var rfl ⟨p, rfl, .inl (k _ _ h2)⟩) (er_var rfl r) (lookS_cost g (hrow x hx))))))) fun v H3 k3 r => q v H3 (kB.trans k3) r
-- slots: 0=_law_words_here 1=_law_text_here 2=_law_found 3=_law_at 4=_law_turn 5=_law_best 6=_law_word 7=_law_cost_here
abbrev st_law_match : Stmt := top 53
abbrev N_law_match : List Str := ["_law_words_here", "_law_text_here", "_law_found", "_law_at", "_law_turn", "_law_best", "_law_word", "_law_cost_here"]
theorem sc_law_match : FnScope N_law_match ["_law_words_here", "_law_text_here"] (defScope st_law_match) := ⟨rfl, rfl, rfl, by decide +kernel, rfl, by decide +kernel, by decide +kernel⟩
def bestP (ws : Ws) (t : Tx) : Tx := ws.foldl (fun b e => if b.length < e.1.length ∧ t.take e.1.length = e.1 then e.1 else b) []
theorem bestP_len {t : Tx} : ∀ (l : Ws) (b : Tx), b.length ≤ 4 → (∀ e ∈ l, e.1.length ≤ 4) → (l.foldl (fun b e => if b.length < e.1.length ∧ t.take e.1.length = e.1 then e.1 else b) b).length ≤ 4
  | [], b, hb, _ => hb
  | e :: r, b, hb, h => by
    rw [List.foldl_cons]
    refine bestP_len r _ ?_ fun x hx => h x (List.mem_cons_of_mem _ hx)
    split
    · exact h e List.mem_cons_self
    · exact hb
theorem ok_lmatch (B : Bl mg) (F : DefAt K mg "_law_match" st_law_match ["_law_words_here", "_law_text_here"]) : Cal P w K mg base "_law_match" 1 ["_law_words_here", "_law_text_here"] sp_match := by
  refine F.cal sc_law_match (fun vs H Q E h => ?_) (fun f cdv A outer s H vs Q E hr h => ?_)
  · obtain ⟨_, _, _, _, rfl, _⟩ := h; rfl
  · obtain ⟨va, vb, ws, t, rfl, ra, rb, ⟨g, ht, ho⟩, q⟩ := h
    refine ⟨_, (pss_cons (ps_set (i := 2) sc_law_match.nd rfl (.inl rfl) (pe_lst pa_nil))
    (pss_cons (ps_set (i := 3) sc_law_match.nd rfl (.inl rfl) pe_int)
    (pss_cons (ps_for PassesOwn.never rfl (pi_range1 (by rfl) B.range (pa_cons (pe_callB call_len_str (by rfl) B.len (by decide +kernel) (pa_cons (pv 1) pa_nil)) pa_nil)) (pg_name (i := 4) sc_law_match.nd rfl (.inl rfl))
    (pss_one (ps_if (pt_cmpR op_lt (pv 3) (pe_callB call_len_str (by rfl) B.len (by decide +kernel) (pa_cons (pv 1) pa_nil)) (nomark _)) (pss_cons (ps_set (i := 5) sc_law_match.nd rfl (.inl rfl) pe_str)
    (pss_cons (ps_for PassesOwn.never rfl (pi_tupK K (pv 0)) (pg_tupK K (n := 2) rfl (pgs_cons (pg_name (i := 6) sc_law_match.nd rfl (.inl rfl)) (pgs_cons (pg_name (i := 7) sc_law_match.nd rfl (.inl rfl)) pgs_nil)))
    (pss_one (ps_if (PW.pt (pw_and (pt_cmpR op_gt (pe_callB call_len_str (by rfl) B.len (by decide +kernel) (pa_cons (pv 6) pa_nil)) (pe_callB call_len_str (by rfl) B.len (by decide +kernel) (pa_cons (pv 5) pa_nil)) (nomark _)) (pw_and1 (pt_cmpR op_eq (pe_slice sl_str (pv 1) (po_some (pv 3)) (po_some (pe_op (op_add) (pv 3) (pe_callB call_len_str (by rfl) B.len (by decide +kernel) (pa_cons (pv 6) pa_nil))))) (pv 6) (nomark _))))) (pss_one (ps_set (i := 5) sc_law_match.nd rfl (.inl rfl) (pv 6))) pss_nil)))
    (pss_cons (ps_expr (pe_bm PySem.F.plainAttrs_list PySem.F.slot_list_append PySem.F.type_list_append mt_append (pv 2) (pa_cons (pv 5) pa_nil)))
    (pss_one (ps_set (i := 3) sc_law_match.nd rfl (.inl rfl) (pe_op (op_add) (pv 3) (pe_callB call_len_str (by rfl) B.len (by decide +kernel) (pa_cons (pv 5) pa_nil)))))))) pss_nil)))
    (pss_one (ps_ret (pe_callTy (call_tuple_ofK K) (by rfl) B.tuple (by decide +kernel) (pa_cons (pv 2) pa_nil))))))), ?_⟩
    refine q_asgN (e := eStr) en_nil fun p H1 hp k1 r1 => ?_
    refine q_asgR (er_nat (i := 0)) fun v0 H2 k2 r2 => ?_
    cases r2
    have k12 := k1.trans k2
    refine q_for [p] (src_range1 (n := t.length) (er_intN (er_lenS (er_var rfl (eStr.mono k12 rb)) (by omega)) rfl) (by omega)) (hidden (r1.mono k2).some noA)
      (fun i σ' H' => ∃ (n : Nat) (gs : List Tx) (z4 z5 z6 z7 : Option V), σ' = [some va, some vb, some (.ref p), some (.int (n : Int)), z4, z5, z6, z7] ∧ n ≤ t.length ∧ i ≤ n ∧ LsAt eStr H' p gs ∧ mt ws t = gs ++ mt ws (t.drop n) ∧ gs.length ≤ n)
      (fun H3 k3 => ⟨0, [], none, none, none, none, rfl, Nat.zero_le _, Nat.le_refl _, r1.mono (k2.trans k3), rfl, Nat.le_refl _⟩) ?_ ?_
    · rintro i x σ' H3 hx k3 ⟨n, gs, z4, z5, z6, z7, rfl, hn, hi, hl, hm, hgl⟩ v H4 k4 rv
      refine g_1 ?_
      have hi2 := get_len hx
      rw [List.length_range] at hi2
      have kB : Ex H H4 := ((ex_new1 k12 hp).trans k3).trans k4
      have hl4 := hl.mono k4
      refine s_when (et_r (er_lt (er_natI (er_var (e := eNat) (x := n) rfl rfl)) (er_lenS (er_var rfl (eStr.mono kB rb)) (by omega)))) (fun hb H5 k5 => ?_) (fun hb H5 k5 => ?_)
      · have hlt : n < t.length := by have := of_decide_eq_true hb; omega
        have hne : t.drop n ≠ [] := by intro e; have := congrArg List.length e; rw [List.length_drop, List.length_nil] at this; omega
        have hlw := lw_len g (ho.drop n) hne
        rw [List.length_drop] at hlw
        have kB5 := kB.trans k5
        refine q_asgR (e := eStr) (x := []) (er_str (by decide +kernel)) fun v5 H6 k6 r6 => ?_
        cases r6
        refine q_for [] (src_tup (er_var rfl (eWs.mono (kB5.trans k6) ra))) (fun x hx => by cases hx) (fun j σ' H' => ∃ z6 z7, σ' = [some va, some vb, some (.ref p), some (.int (n : Int)), some v, some (.str (ss (bestP (ws.take j) (t.drop n)))), z6, z7])
          (fun H7 k7 => ⟨z6, z7, rfl⟩) ?_ ?_
        · rintro j e σ' H7 hj k7 ⟨z6, z7, rfl⟩ v8 H8 k8 r8
          rw [hid_nil] at k7
          have kB8 := (kB5.trans k6).trans (k7.trans k8)
          have hes := g.len e (List.mem_of_getElem? hj)
          have hbl : (bestP (ws.take j) (t.drop n)).length ≤ 4 := bestP_len _ _ (by simp) fun x hx => (g.len x (List.mem_of_mem_take hx)).2
          refine g_2 r8 fun x6 x7 r6 r7 => ?_
          have hnext : bestP (ws.take (j + 1)) (t.drop n) = if (bestP (ws.take j) (t.drop n)).length < e.1.length ∧ (t.drop n).take e.1.length = e.1 then e.1 else bestP (ws.take j) (t.drop n) := by
            unfold bestP
            rw [List.take_add_one, hj, List.foldl_append]
            rfl
          rw [hnext]
          generalize bestP (ws.take j) (t.drop n) = b at *
          refine s_when (et_is (et_and (et_r (er_gt (er_lenS (er_var rfl r6) (by omega)) (er_lenS (er_var (e := eStr) (x := b) rfl rfl) (by omega)))) fun _ => et_r (er_eqS (er_slS (hi := some ((n + e.1.length : Nat) : Int)) (er_var rfl (eStr.mono kB8 rb)) (eo_r (er_natI (er_var (e := eNat) (x := n) rfl rfl))) (eo_r ((er_add (er_natI (er_var (e := eNat) (x := n) rfl rfl)) (er_lenS (er_var rfl r6) (by omega))).is (by rw [Int.natCast_add]))) (by omega)) (er_var rfl r6)))
            (b := decide (b.length < e.1.length ∧ (t.drop n).take e.1.length = e.1)) (by rw [cutT_nat, Nat.add_sub_cancel_left]; exact Bool.eq_iff_iff.mpr (by simp))) (fun hb2 H9 k9 => ?_) (fun hb2 H9 k9 => ?_)
          · rw [if_pos (of_decide_eq_true hb2)]
            refine s_asgR (er_var rfl (eStr.mono k9 r6)) fun v10 H10 k10 r10 => ?_
            cases r10
            exact ⟨by rw [hid_nil]; exact k8.trans (k9.trans k10), some x6, some x7, rfl⟩
          · rw [if_neg (of_decide_eq_false hb2)]
            exact ⟨by rw [hid_nil]; exact k8.trans k9, some x6, some x7, rfl⟩
        · rintro σ' H7 k7 ⟨z6, z7, rfl⟩
          rw [hid_nil] at k7
          rw [List.take_length]
          have hbest : bestP ws (t.drop n) = lw ws (t.drop n) := best_lw g (ho.drop n) hne
          rw [hbest]
          have k47 := (k5.trans k6).trans k7
          refine q_appR (ev_var rfl) (hl4.mono k47) (er_var (e := eStr) (x := lw ws (t.drop n)) rfl rfl) (by omega) fun H8 k8 r8 => ?_
          refine s_asgR (e := eNat) (x := n + (lw ws (t.drop n)).length) (er_intN (er_add (er_natI (er_var (e := eNat) (x := n) rfl rfl)) (er_lenS (er_var (e := eStr) (x := lw ws (t.drop n)) rfl rfl) (by omega))) (by rw [Int.natCast_add])) fun v9 H9 k9 r9 => ?_
          cases r9
          refine ⟨((ex_hid [p] (k4.trans k47)).trans k8).trans k9, n + (lw ws (t.drop n)).length, gs ++ [lw ws (t.drop n)], _, _, _, _, rfl, by omega, by omega, r8.mono k9, ?_, ?_⟩
          · rw [hm, mt_cons g (ho.drop n) hne, List.drop_drop, List.append_assoc]; rfl
          · rw [List.length_append, List.length_singleton]; omega
      · have hge : n = t.length := by have := of_decide_eq_false hb; omega
        exact ⟨ex_unhid (k4.trans k5), n, gs, _, _, _, _, rfl, hn, by omega, hl4.mono k5, hm, hgl⟩
    · rintro σ' H3 k3 ⟨n, gs, z4, z5, z6, z7, rfl, hn, hi, hl, hm, hgl⟩
      rw [List.length_range] at hi
      have hge : n = t.length := by omega
      have kB : Ex H H3 := (ex_new1 k12 hp).trans k3
      refine s_retR (er_tupleL (er_var rfl hl.r)) fun v H4 k4 r4 => q v H4 (kB.trans k4) ?_
      rw [hm, hge, List.drop_length, mt_nil, List.append_nil]
      exact r4
end
end K61

/-! K61L2: the law's reader, steps, graph. -/
namespace K61
open PySem PySem.Spec PyProof.Rows L2 Evl
section
variable {P : Program} {w : World} {K : PySem.W.Frag} {mg : Str → Option Value} {base : Heap}
-- slots: 0=_law_words_here 1=_law_held 2=_law_letter 3=_law_rest_here 4=_law_gain 5=_law_turn 6=_law_word
abbrev st_law_read : Stmt := top 58
abbrev N_law_read : List Str := ["_law_words_here", "_law_held", "_law_letter", "_law_rest_here", "_law_gain", "_law_turn", "_law_word"]
theorem sc_law_read : FnScope N_law_read ["_law_words_here", "_law_held", "_law_letter"] (defScope st_law_read) := ⟨rfl, rfl, rfl, by decide +kernel, rfl, by decide +kernel, by decide +kernel⟩
abbrev sp_lread : Sp := Pu3 eWs eStr eChr (e2 eInt eStr) (fun ws h c => Good ws ∧ h.length ≤ 100 ∧ Over ws h ∧ c ∈ lets ws) (fun ws h c => (rowCost ws (rd ws h c).1, (rd ws h c).2))
theorem ok_lread (B : Bl mg) (F : DefAt K mg "_law_read" st_law_read ["_law_words_here", "_law_held", "_law_letter"]) (c_law_grows : Cal P w K mg base "_law_grows" 1 ["_law_words_here", "_law_text_here"] sp_grow)
    (c_law_match : Cal P w K mg base "_law_match" 1 ["_law_words_here", "_law_text_here"] sp_match) (c_law_sum : Cal P w K mg base "_law_sum" 1 ["_law_words_here", "_law_row"] sp_rowc) : Cal P w K mg base "_law_read" 2 ["_law_words_here", "_law_held", "_law_letter"] sp_lread := by
  refine F.cal sc_law_read (fun vs H Q E h => ?_) (fun f cdv A outer s H vs Q E hr h => ?_)
  · obtain ⟨_, _, _, _, _, _, rfl, _⟩ := h; rfl
  · obtain ⟨va, vb, vc, ws, h0, c, rfl, ra, rb, rc, ⟨g, hlen, ho, hc⟩, q⟩ := h
    refine ⟨_, (pss_cons (ps_set (i := 3) sc_law_read.nd rfl (.inl rfl) (pe_op (op_add_str) (pv 1) (pv 2)))
    (pss_cons (ps_set (i := 4) sc_law_read.nd rfl (.inl rfl) pe_int)
    (pss_cons (ps_for PassesOwn.never rfl (pi_range1 (by rfl) B.range (pa_cons (pe_callB call_len_str (by rfl) B.len (by decide +kernel) (pa_cons (pv 3) pa_nil)) pa_nil)) (pg_name (i := 5) sc_law_read.nd rfl (.inl rfl))
    (pss_one (ps_if (PW.pt (pw_and (pt_cmpR op_ne (pv 3) pe_str (nomark _)) (pw_and1 (pt_not (pt_val (pe_cal c_law_grows hr (by decide) (by rfl) (pa_cons (pv 0) (pa_cons (pv 3) pa_nil)))))))) (pss_cons (ps_set (i := 6) sc_law_read.nd rfl (.inl rfl) (pe_ix (ix_tupK K) (pe_cal c_law_match hr (by decide) (by rfl) (pa_cons (pv 0) (pa_cons (pv 3) pa_nil))) pe_int (fun _ _ => rfl)))
    (pss_cons (ps_set (i := 4) sc_law_read.nd rfl (.inl rfl) (pe_op (op_add) (pv 4) (pe_cal c_law_sum hr (by decide) (by rfl) (pa_cons (pv 0) (pa_cons (pe_tup (pa_cons (pv 6) pa_nil)) pa_nil)))))
    (pss_one (ps_set (i := 3) sc_law_read.nd rfl (.inl rfl) (pe_slice sl_str (pv 3) (po_some (pe_callB call_len_str (by rfl) B.len (by decide +kernel) (pa_cons (pv 6) pa_nil))) po_none))))) pss_nil)))
    (pss_one (ps_ret (pe_tup (pa_cons (pv 4) (pa_cons (pv 3) pa_nil)))))))), ?_⟩
    refine q_asgR (er_catS (er_var rfl rb) (er_chr (er_var rfl rc)) (by simp; omega)) fun v1 H1 k1 r1 => ?_
    cases r1
    refine q_asgR (e := eInt) (x := 0) er_int fun v2 H2 k2 r2 => ?_
    cases r2
    have k12 := k1.trans k2
    have hl0 : (h0 ++ [c]).length ≤ 101 := by simp; omega
    have ho1 := ho.append (over_one hc)
    refine q_for [] (src_range1 (n := (h0 ++ [c]).length) (er_intN (er_lenS (er_var (e := eStr) (x := h0 ++ [c]) rfl rfl) (by omega)) rfl) (by omega)) (fun x hx => by cases hx)
      (fun i σ' H' => ∃ (h : Tx) (gn : Int) (z5 z6 : Option V), σ' = [some va, some vb, some vc, some (.str (ss h)), some (.int gn), z5, z6] ∧ Over ws h ∧ h.length ≤ 101 ∧ (((h = [] ∨ grow ws h = true)) ∨ h.length + i ≤ (h0 ++ [c]).length) ∧ rowCost ws (rd ws h0 c).1 = gn + rowCost ws (rdo ws h).1 ∧ (rd ws h0 c).2 = (rdo ws h).2)
      (fun H3 k3 => ⟨h0 ++ [c], 0, none, none, rfl, ho1, hl0, .inr (Nat.le_refl _), (Int.zero_add _).symm, rfl⟩) ?_ ?_
    · rintro i x σ' H3 hx k3 ⟨h, gn, z5, z6, rfl, hoh, hlh, hst, e1, e2⟩ v H4 k4 rv
      rw [hid_nil] at k3
      have hi2 := get_len hx
      rw [List.length_range] at hi2
      refine g_1 ?_
      have kB : Ex H H4 := (k12.trans k3).trans k4
      refine s_when (et_and (et_r (er_neS (er_var (e := eStr) (x := h) rfl rfl) (er_str (t := []) (by decide +kernel)))) fun _ => et_not (et_rB (er_call2 (er_var rfl (eWs.mono kB ra)) (er_var (e := eStr) (x := h) rfl rfl) ⟨g, by omega⟩))) (fun hb H5 k5 => ?_) (fun hb H5 k5 => ?_)
      · rw [Bool.and_eq_true] at hb
        have hne : h ≠ [] := (neT _ _).mp hb.1
        have hg : grow ws h = false := by simpa using hb.2
        have hlw := lw_len g hoh hne
        have hlg := lw_lng g hoh hne
        have kB5 := kB.trans k5
        have hns : ¬ (h = [] ∨ grow ws h = true) := fun z => by rcases z with z | z; exact hne z; rw [hg] at z; exact absurd z (by decide)
        refine q_asgR (e := eStr) (x := lw ws h) (er_ixTL (er_call2 (er_var rfl (eWs.mono kB5 ra)) (er_var (e := eStr) (x := h) rfl rfl) ⟨g, by omega, hoh⟩) er_int (by rw [mt_cons g hoh hne]; exact atI_nat (j := 0) rfl)) fun v6 H6 k6 r6 => ?_
        cases r6
        refine q_asgR (e := eInt) (x := gn + rowCost ws [lw ws h]) (er_add (er_var rfl rfl) (er_call2 (er_var rfl (eWs.mono (kB5.trans k6) ra)) (er_tup1 (er_var (e := eStr) (x := lw ws h) rfl rfl)) ⟨g, fun x hx => by rw [List.mem_singleton.mp hx]; exact hlg.1, by simp⟩)) fun v7 H7 k7 r7 => ?_
        cases r7
        refine s_asgR (e := eStr) (x := h.drop (lw ws h).length) ((er_slS (er_var (e := eStr) (x := h) rfl rfl) (eo_r (er_lenS (er_var (e := eStr) (x := lw ws h) rfl rfl) (by omega))) eo_none (by omega)).is (cutT_from _ _)) fun v8 H8 k8 r8 => ?_
        cases r8
        refine ⟨by rw [hid_nil]; exact k4.trans (((k5.trans k6).trans k7).trans k8), h.drop (lw ws h).length, gn + rowCost ws [lw ws h], _, _, rfl, hoh.drop _, by rw [List.length_drop]; omega, ?_, ?_, ?_⟩
        · rcases hst with hst | hst
          · exact absurd hst hns
          · right
            rw [List.length_drop]
            omega
        · have h3 : rowCost ws [lw ws h] = cost ws (lw ws h) := by
            rw [rowCost_cons]
            show _ + (0 : Int) = _
            omega
          rw [e1, rdo_cons g hoh hne hg, h3]
          show gn + rowCost ws (lw ws h :: _) = _
          rw [rowCost_cons, Int.add_assoc]
        · rw [e2, rdo_cons g hoh hne hg]
      · have hst2 : h = [] ∨ grow ws h = true := by
          by_cases hn : h = []
          · exact .inl hn
          · right
            have h1 : (!decide (h = [])) = true := (neT _ _).mpr hn
            rw [h1, Bool.true_and] at hb
            simpa using hb
        exact ⟨by rw [hid_nil]; exact k4.trans k5, h, gn, _, _, rfl, hoh, hlh, .inl hst2, e1, e2⟩
    · rintro σ' H3 k3 ⟨h, gn, z5, z6, rfl, hoh, hlh, hst, e1, e2⟩
      rw [hid_nil] at k3
      rw [List.length_range] at hst
      have hst2 : h = [] ∨ grow ws h = true := by
        rcases hst with hst | hst
        · exact hst
        · left
          exact List.length_eq_zero_iff.mp (by omega)
      rw [rdo_stop hst2] at e1 e2
      refine s_retR (er_tup2 (er_var (e := eInt) (x := gn) rfl rfl) (er_var (e := eStr) (x := h) rfl rfl)) fun v H4 k4 r4 => q v H4 ((k12.trans k3).trans k4) ?_
      have e3 : (rowCost ws (rd ws h0 c).1, (rd ws h0 c).2) = (gn, h) := Prod.ext (by rw [e1]; show gn + (0 : Int) = gn; omega) e2
      show (K61.e2 eInt eStr).R H4 v (rowCost ws (rd ws h0 c).1, (rd ws h0 c).2)
      rw [e3]
      exact r4
-- slots: 0=_law_words_here 1=_law_held 2=_law_tail 3=_law_letter 4=_law_gain 5=_law_rest_here 6=_law_longer 7=_law_found 8=_law_word 9=_law_cost_here
abbrev st_law_steps : Stmt := top 59
abbrev N_law_steps : List Str := ["_law_words_here", "_law_held", "_law_tail", "_law_letter", "_law_gain", "_law_rest_here", "_law_longer", "_law_found", "_law_word", "_law_cost_here"]
theorem sc_law_steps : FnScope N_law_steps ["_law_words_here", "_law_held", "_law_tail", "_law_letter"] (defScope st_law_steps) := ⟨rfl, rfl, rfl, by decide +kernel, rfl, by decide +kernel, by decide +kernel⟩
theorem ok_lsteps (B : Bl mg) (F : DefAt K mg "_law_steps" st_law_steps ["_law_words_here", "_law_held", "_law_tail", "_law_letter"]) (c_law_read : Cal P w K mg base "_law_read" 2 ["_law_words_here", "_law_held", "_law_letter"] sp_lread)
    (c_law_grows : Cal P w K mg base "_law_grows" 1 ["_law_words_here", "_law_text_here"] sp_grow) : Cal P w K mg base "_law_steps" 3 ["_law_words_here", "_law_held", "_law_tail", "_law_letter"] sp_steps := by
  refine F.cal sc_law_steps (fun vs H Q E h => ?_) (fun f cdv A outer s H vs Q E hr h => ?_)
  · obtain ⟨_, _, _, _, _, _, _, _, rfl, _⟩ := h; rfl
  · obtain ⟨va, vb, vc, vd, ws, h, t, c, rfl, ra, rb, rc, rd', ⟨g, hlh, hlt, ho, hc⟩, q⟩ := h
    refine ⟨_, (pss_cons (ps_asg (pe_cal c_law_read hr (by decide) (by rfl) (pa_cons (pv 0) (pa_cons (pv 1) (pa_cons (pv 3) pa_nil)))) (pg_tupK K (n := 2) rfl (pgs_cons (pg_name (i := 4) sc_law_steps.nd rfl (.inl rfl)) (pgs_cons (pg_name (i := 5) sc_law_steps.nd rfl (.inl rfl)) pgs_nil))))
    (pss_cons (ps_set (i := 6) sc_law_steps.nd rfl (.inl rfl) (pe_op (op_add_str) (pv 2) (pv 3)))
    (pss_cons (ps_set (i := 7) sc_law_steps.nd rfl (.inl rfl) (pe_lst pa_nil))
    (pss_cons (ps_for PassesOwn.never rfl (pi_tupK K (pv 0)) (pg_tupK K (n := 2) rfl (pgs_cons (pg_name (i := 8) sc_law_steps.nd rfl (.inl rfl)) (pgs_cons (pg_name (i := 9) sc_law_steps.nd rfl (.inl rfl)) pgs_nil)))
    (pss_one (ps_if (pt_cmpR op_eq (pv 8) (pv 6) (nomark _)) (pss_one (ps_expr (pe_bm PySem.F.plainAttrs_list PySem.F.slot_list_append PySem.F.type_list_append mt_append (pv 7) (pa_cons (pe_tup (pa_cons (pv 5) (pa_cons pe_str (pa_cons (pv 4) (pa_cons (pv 9) pa_nil))))) pa_nil)))) pss_nil)))
    (pss_cons (ps_if (pt_val (pe_cal c_law_grows hr (by decide) (by rfl) (pa_cons (pv 0) (pa_cons (pv 6) pa_nil)))) (pss_one (ps_expr (pe_bm PySem.F.plainAttrs_list PySem.F.slot_list_append PySem.F.type_list_append mt_append (pv 7) (pa_cons (pe_tup (pa_cons (pv 5) (pa_cons (pv 6) (pa_cons (pv 4) (pa_cons pe_int pa_nil))))) pa_nil)))) pss_nil)
    (pss_one (ps_ret (pv 7)))))))), ?_⟩
    refine q_asgG (er_call3 (er_var rfl ra) (er_var rfl rb) (er_var rfl rd') ⟨g, hlh, ho, hc⟩) fun v1 H1 k1 r1 => g_2 r1 fun x1 x2 rx1 rx2 => ?_
    cases rx1; cases rx2
    refine q_asgR (er_catS (er_var rfl (eStr.mono k1 rc)) (er_chr (er_var rfl (eChr.mono k1 rd'))) (by simp; omega)) fun v3 H3 k3 r3 => ?_
    cases r3
    refine q_asgN (e := eStep) en_nil fun p H4 hp k4 r4 => ?_
    have kB := (k1.trans k3).trans k4
    have hp0 : H p = none := fresh_back (k1.trans k3) hp
    have hnl := g.few
    refine q_for [p] (src_tup (er_var rfl (eWs.mono kB ra))) (hidden r4.some noA) (fun i σ' H' => ∃ z8 z9, σ' = [some va, some vb, some vc, some vd, some (.int (rowCost ws (rd ws h c).1)), some (.str (ss (rd ws h c).2)), some (.str (ss (t ++ [c]))), some (.ref p), z8, z9] ∧
      LsAt eStep H' p (((ws.take i).filter (fun e => e.1 == t ++ [c])).map (fun e => ((rd ws h c).2, ([] : Tx), rowCost ws (rd ws h c).1, e.2)))) (fun H5 k5 => ⟨none, none, rfl, r4.mono k5⟩) ?_ ?_
    · rintro i e σ' H5 hx k5 ⟨z8, z9, rfl, hl⟩ v H6 k6 rv
      refine g_2 rv fun x8 x9 r8 r9 => ?_
      have hnx : ((ws.take (i + 1)).filter (fun e => e.1 == t ++ [c])).map (fun e => ((rd ws h c).2, ([] : Tx), rowCost ws (rd ws h c).1, e.2)) = ((ws.take i).filter (fun e => e.1 == t ++ [c])).map (fun e => ((rd ws h c).2, ([] : Tx), rowCost ws (rd ws h c).1, e.2)) ++ (if (e.1 == t ++ [c]) = true then [((rd ws h c).2, ([] : Tx), rowCost ws (rd ws h c).1, e.2)] else []) := by
        rw [filter_take hx, List.map_append]
        split <;> rfl
      rw [hnx]
      have hfl : (((ws.take i).filter (fun e => e.1 == t ++ [c])).map (fun e => ((rd ws h c).2, ([] : Tx), rowCost ws (rd ws h c).1, e.2))).length ≤ 8 := by
        rw [List.length_map]
        exact Nat.le_trans (List.length_filter_le _ _) (by rw [List.length_take]; omega)
      refine s_when (et_is (et_r (er_eqS (er_var rfl r8) (er_var (e := eStr) (x := t ++ [c]) rfl rfl))) (eqT _ _)) (fun hb H7 k7 => ?_) (fun hb H7 k7 => ?_)
      · rw [if_pos hb]
        refine s_appR (e := eStep) (x := ((rd ws h c).2, [], rowCost ws (rd ws h c).1, e.2)) (ev_var rfl) (hl.mono (k6.trans k7)) (er_tup4 (er_var rfl rfl) (er_str (t := []) (by decide +kernel)) (er_var rfl rfl) (er_var rfl (eInt.mono k7 r9))) (by omega) fun H8 k8 r8 => ?_
        exact ⟨(ex_hid _ (k6.trans k7)).trans k8, _, _, rfl, r8⟩
      · rw [hb, if_neg (by decide), List.append_nil]
        exact ⟨ex_unhid (k6.trans k7), _, _, rfl, hl.mono (k6.trans k7)⟩
    · rintro σ' H5 k5 ⟨z8, z9, rfl, hl⟩
      rw [List.take_length, filter_one g] at hl
      have kB5 : Ex H H5 := (ex_new1 kB hp0).trans k5
      refine q_ifApp (x := ((rd ws h c).2, t ++ [c], rowCost ws (rd ws h c).1, 0)) (et_rB (er_call2 (er_var rfl (eWs.mono kB5 ra)) (er_var (e := eStr) (x := t ++ [c]) rfl rfl) ⟨g, by simp; omega⟩)) (ev_var rfl) hl
        (fun hb => er_tup4 (er_var rfl rfl) (er_var rfl rfl) (er_var rfl rfl) er_int) (by split <;> simp) fun H6 k6 r6 => ?_
      have kB6 : Ex H H6 := (ex_new1 kB5 hp0).trans k6
      refine s_retR (er_var (e := eRef p) (x := ()) rfl rfl) fun v H7 k7 r7 => ?_
      have r7 : v = .ref p := r7
      subst r7
      refine q p H7 hp0 (kB6.trans k7) (r6.mono k7 |> fun z => ?_)
      have e : steps ws h t c = (if (names ws).contains (t ++ [c]) = true then [(t ++ [c], cost ws (t ++ [c]))] else []).map (fun e => ((rd ws h c).2, ([] : Tx), rowCost ws (rd ws h c).1, e.2)) ++ (if grow ws (t ++ [c]) = true then [((rd ws h c).2, t ++ [c], rowCost ws (rd ws h c).1, 0)] else []) := by
        unfold steps
        congr 1
        split <;> rfl
      rw [e]
      exact z
end
end K61

/-! K61J: membership and equality of lists of tuples. -/
namespace K61
open PySem PySem.Spec PyProof.Rows L2 Evl
theorem over_abc {ws : Ws} (g : Good ws) {t : Tx} (h : Over ws t) : ∀ c ∈ t, 97 ≤ c ∧ c ≤ 99 := fun c hc => by
  obtain ⟨e, he, h1⟩ := mem_names.mp (mem_lets.mp (h c hc))
  exact g.abc e he c (by rw [h1]; exact List.mem_singleton.mpr rfl)
abbrev Abc (t : Tx) : Prop := ∀ c ∈ t, 97 ≤ c ∧ c ≤ 99
def pdP (p : Tx × Tx) : PyData := .tuple [.str (ss p.1), .str (ss p.2)]
theorem strOk_abc {t : Tx} (h : Abc t) : PyData.strOk (ss t) = true := by
  unfold PyData.strOk
  rw [← Array.all_toList, ss_list, List.all_eq_true]
  intro c hc
  have := h c hc
  exact decide_eq_true (by omega)
theorem lay_P {p : Tx × Tx} (h : Abc p.1 ∧ Abc p.2) : (pdP p).canLay0 = true := by
  show (PyData.strOk (ss p.1) && (PyData.strOk (ss p.2) && true)) = true
  rw [strOk_abc h.1, strOk_abc h.2]; rfl
theorem lay_T {z : Tr} (h : Abc z.1 ∧ Abc z.2.1) : (pdT z).canLay0 = true := by
  show (PyData.strOk (ss z.1) && (PyData.strOk (ss z.2.1) && (true && true))) = true
  rw [strOk_abc h.1, strOk_abc h.2]; rfl
theorem lay_all : ∀ (l : List PyData), (∀ d ∈ l, d.canLay0 = true) → PyData.canLayAll0 l = true
  | [], _ => rfl
  | d :: r, h => by
    show (d.canLay0 && PyData.canLayAll0 r) = true
    rw [h d List.mem_cons_self, lay_all r fun x hx => h x (List.mem_cons_of_mem _ hx)]; rfl
theorem dep_all : ∀ (l : List PyData), (∀ d ∈ l, d.depth ≤ 8) → PyData.depthAll l ≤ 8
  | [], _ => Nat.zero_le _
  | d :: r, h => by
    show max d.depth (PyData.depthAll r) ≤ 8
    have h1 := h d List.mem_cons_self
    have h2 := dep_all r fun x hx => h x (List.mem_cons_of_mem _ hx)
    omega
theorem shaped_list {l : List PyData} (h : ∀ d ∈ l, d.canLay0 = true ∧ d.depth ≤ 8) : SeqAt.shaped (.list l) = true := by
  unfold SeqAt.shaped
  rw [Bool.and_eq_true]
  refine ⟨lay_all l fun d hd => (h d hd).1, decide_eq_true ?_⟩
  show PyData.depthAll l + 1 ≤ 64
  have := dep_all l fun d hd => (h d hd).2
  omega
theorem dep_P (p : Tx × Tx) : (pdP p).depth ≤ 8 := by simp [pdP, PyData.depth, PyData.depthAll]
theorem dp_P (K : PySem.W.Frag) (H : Hp) (v : V) (x : Tx × Tx) (h : ePr.R H v x) : Dp K H v (pdP x) := by
  obtain ⟨a, y, z, rfl, h2, h3, h4⟩ := h
  cases h3; cases h4
  exact .tup (SqT.of h2) (.cons (.str _) (.cons (.str _) .nil))
theorem dp_all {α : Type} {K : PySem.W.Frag} {H : Hp} {e : Enc α} {pd : α → PyData} (hd : ∀ H v x, e.R H v x → Dp K H v (pd x)) : ∀ {xs : List V} {l : List α}, Paired (e.R H) xs l → DpAll K H xs (l.map pd)
  | _, _, .nil => .nil
  | _, _, .cons r t => .cons (hd _ _ _ r) (dp_all hd t)
theorem eqv_P (p q : Tx × Tx) : PyData.eqv (pdP p) (pdP q) = decide (p = q) := by
  show (PyData.eqv (.str (ss p.1)) (.str (ss q.1)) && (PyData.eqv (.str (ss p.2)) (.str (ss q.2)) && true)) = _
  rw [eqv_ss, eqv_ss, Bool.and_true]
  exact Bool.eq_iff_iff.mpr (by simp [Prod.ext_iff])
theorem any_eqv (p : Tx × Tx) : ∀ l : List (Tx × Tx), ((l.map pdP).any fun z => PyData.eqv z (pdP p)) = l.contains p
  | [] => rfl
  | q :: r => by
    rw [List.map_cons, List.any_cons, any_eqv p r, eqv_P, List.contains_cons]
    congr 1
    exact Bool.eq_iff_iff.mpr (by simp; exact eq_comm)
section
variable {K : PySem.W.Frag} {σ : L2.St} {H : Hp} {ta tb : TE}
theorem er_notInP {p : Tx × Tx} {l : List (Tx × Tx)} (ha : EvR ePr ta σ H p) (hb : EvR (eLs ePr) tb σ H l) (hp : Abc p.1 ∧ Abc p.2) (hl : ∀ q ∈ l, Abc q.1 ∧ Abc q.2) : EvR eBl (tOp (rNotInD K) ta tb) σ H (!l.contains p) := fun H1 k Q qq =>
  ha H1 k _ fun v H2 k2 rv => hb H2 (k.trans k2) _ fun w H3 k3 rw' => by
    have rv3 := ePr.mono k3 rv
    obtain ⟨a, xs, rfl, h2, h3⟩ := rw'
    refine ⟨pdP p, l.map pdP, dp_P K _ _ _ rv3, .lst (SqL.of h2) (dp_all (dp_P K) h3), ?_, ?_, qq _ H3 (k2.trans k3) ?_⟩
    · unfold SeqAt.shaped
      rw [lay_P hp]
      have := dep_P p
      exact decide_eq_true (by omega)
    · refine shaped_list fun d hd => ?_
      obtain ⟨q, hq, rfl⟩ := List.mem_map.mp hd
      exact ⟨lay_P (hl q hq), dep_P q⟩
    · show V.bl _ = V.bl _
      rw [any_eqv]
theorem er_neT {l : List Tr} (ha : EvR (eLs eTr) ta σ H l) (hb : EvR (eLs eTr) tb σ H l) (hl : ∀ q ∈ l, Abc q.1 ∧ Abc q.2.1) : EvR eBl (tOp (rNeD K) ta tb) σ H false := fun H1 k Q qq =>
  ha H1 k _ fun v H2 k2 rv => hb H2 (k.trans k2) _ fun w H3 k3 rw' => by
    have rv3 := (eLs eTr).mono k3 rv
    obtain ⟨b, ys, rfl, g2, g3⟩ := rv3
    obtain ⟨a, xs, rfl, h2, h3⟩ := rw'
    have hs : SeqAt.shaped (.list (l.map pdT)) = true := shaped_list fun d hd => by
      obtain ⟨q, hq, rfl⟩ := List.mem_map.mp hd
      exact ⟨lay_T (hl q hq), dep_T q⟩
    refine ⟨.list (l.map pdT), .list (l.map pdT), .lst (SqL.of g2) (dp_all (dp_T K) g3), .lst (SqL.of h2) (dp_all (dp_T K) h3), hs, hs, qq _ H3 (k2.trans k3) ?_⟩
    rw [SeqAt.eqv_refl _ (SeqAt.canLay_of_shaped hs)]
    rfl
end
end K61

/-! K61L3: the law's graph. -/
namespace K61
open PySem PySem.Spec PyProof.Rows L2 Evl
section
variable {P : Program} {w : World} {K : PySem.W.Frag} {mg : Str → Option Value} {base : Heap}
abbrev eLed : Enc Edge := eMap (fun e => (e.one, e.other, e.gain, e.loss)) (e4 ePr ePr eInt eInt)
-- slots: 0=_law_words_here 1=_law_pairs 2=_law_edges 3=_law_turn 4=_law_held 5=_law_tail 6=_law_letter 7=_law_rest_here 8=_law_longer 9=_law_gain 10=_law_loss
abbrev st_law_graph : Stmt := top 60
abbrev N_law_graph : List Str := ["_law_words_here", "_law_pairs", "_law_edges", "_law_turn", "_law_held", "_law_tail", "_law_letter", "_law_rest_here", "_law_longer", "_law_gain", "_law_loss"]
theorem sc_law_graph : FnScope N_law_graph ["_law_words_here"] (defScope st_law_graph) := ⟨rfl, rfl, rfl, by decide +kernel, rfl, by decide +kernel, by decide +kernel⟩
abbrev sp_lgraph : Sp := Pu1 eWs (e2 (eLs ePr) (eLs eLed)) Good graph
theorem ok_lgraph (B : Bl mg) (F : DefAt K mg "_law_graph" st_law_graph ["_law_words_here"]) (c_law_letters : Cal P w K mg base "_law_letters" 1 ["_law_words_here"] sp_lletters)
    (c_law_steps : Cal P w K mg base "_law_steps" 3 ["_law_words_here", "_law_held", "_law_tail", "_law_letter"] sp_steps) : Cal P w K mg base "_law_graph" 4 ["_law_words_here"] sp_lgraph := by
  refine F.cal sc_law_graph (fun vs H Q E h => ?_) (fun f cdv A outer s H vs Q E hr h => ?_)
  · obtain ⟨_, _, rfl, _⟩ := h; rfl
  · obtain ⟨va, ws, rfl, ra, gd, q⟩ := h
    refine ⟨_, (pss_cons (ps_set (i := 1) sc_law_graph.nd rfl (.inl rfl) (pe_lst (pa_cons (pe_tup (pa_cons pe_str (pa_cons pe_str pa_nil))) pa_nil)))
    (pss_cons (ps_set (i := 2) sc_law_graph.nd rfl (.inl rfl) (pe_lst pa_nil))
    (pss_cons (ps_for PassesOwn.never rfl (pi_range1 (by rfl) B.range (pa_cons pe_int pa_nil)) (pg_name (i := 3) sc_law_graph.nd rfl (.inl rfl))
    (pss_one (ps_if (pt_cmpR op_lt (pv 3) (pe_callB (call_len_seqK K) (by rfl) B.len (by decide +kernel) (pa_cons (pv 1) pa_nil)) (nomark _)) (pss_cons (ps_asg (pe_ix (ix_listK K) (pv 1) (pv 3) (fun _ _ => rfl)) (pg_tupK K (n := 2) rfl (pgs_cons (pg_name (i := 4) sc_law_graph.nd rfl (.inl rfl)) (pgs_cons (pg_name (i := 5) sc_law_graph.nd rfl (.inl rfl)) pgs_nil))))
    (pss_one (ps_for PassesOwn.never rfl (pi_listK K (pe_cal c_law_letters hr (by decide) (by rfl) (pa_cons (pv 0) pa_nil))) (pg_name (i := 6) sc_law_graph.nd rfl (.inl rfl))
    (pss_one (ps_for PassesOwn.never rfl (pi_listK K (pe_cal c_law_steps hr (by decide) (by rfl) (pa_cons (pv 0) (pa_cons (pv 4) (pa_cons (pv 5) (pa_cons (pv 6) pa_nil)))))) (pg_tupK K (n := 4) rfl (pgs_cons (pg_name (i := 7) sc_law_graph.nd rfl (.inl rfl)) (pgs_cons (pg_name (i := 8) sc_law_graph.nd rfl (.inl rfl)) (pgs_cons (pg_name (i := 9) sc_law_graph.nd rfl (.inl rfl)) (pgs_cons (pg_name (i := 10) sc_law_graph.nd rfl (.inl rfl)) pgs_nil)))))
    (pss_cons (ps_if (pt_cmpR (op_notInDK K (huD hr)) (pe_tup (pa_cons (pv 7) (pa_cons (pv 8) pa_nil))) (pv 1) (by rfl)) (pss_one (ps_expr (pe_bm PySem.F.plainAttrs_list PySem.F.slot_list_append PySem.F.type_list_append mt_append (pv 1) (pa_cons (pe_tup (pa_cons (pv 7) (pa_cons (pv 8) pa_nil))) pa_nil)))) pss_nil)
    (pss_one (ps_expr (pe_bm PySem.F.plainAttrs_list PySem.F.slot_list_append PySem.F.type_list_append mt_append (pv 2) (pa_cons (pe_tup (pa_cons (pe_tup (pa_cons (pv 4) (pa_cons (pv 5) pa_nil))) (pa_cons (pe_tup (pa_cons (pv 7) (pa_cons (pv 8) pa_nil))) (pa_cons (pv 9) (pa_cons (pv 10) pa_nil))))) pa_nil)))))))))) pss_nil)))
    (pss_one (ps_ret (pe_tup (pa_cons (pv 1) (pa_cons (pv 2) pa_nil)))))))), ?_⟩
    refine q_asgN (e := ePr) (en_one (er_tup2 (er_str (t := []) (by decide +kernel)) (er_str (t := []) (by decide +kernel)))) fun p H1 hp k1 r1 => ?_
    refine q_asgN (e := eLed) en_nil fun e H2 he k2 r2 => ?_
    have r12 := r1.mono k2
    have npe : p ≠ e := fun z => by obtain ⟨xs, hx, _⟩ := r1; rw [z, he] at hx; cases hx
    have he0 : H e = none := fresh_back k1 he
    have k12 := k1.trans k2
    have nt : ∀ {H : Hp} {l : List (Tx × Tx)} {m : List Edge}, LsAt ePr H p l → LsAt eLed H e m → ∀ a ∈ [p, e], ∃ o, H a = some o ∧ ∀ xs, o ≠ .tup xs := fun h1 h2 a ha => by
      simp only [List.mem_cons, List.not_mem_nil, or_false] at ha
      rcases ha with rfl | rfl
      · exact h1.some
      · exact h2.some
    have fr : ∀ a ∈ [p, e], H a = none := fun a ha => by
      simp only [List.mem_cons, List.not_mem_nil, or_false] at ha
      rcases ha with rfl | rfl
      · exact hp
      · exact he0
    refine q_for [p, e] (src_range1 (n := 400) er_nat (by decide)) (fun a ha => ⟨nt r12 r2 a ha, noA⟩) (fun i σ' H' => ∃ (st : GSt) (z3 z4 z5 z6 z7 z8 z9 z10 : Option V), σ' = [some va, some (.ref p), some (.ref e), z3, z4, z5, z6, z7, z8, z9, z10] ∧ LsAt ePr H' p st.1 ∧ LsAt eLed H' e st.2 ∧ GI ws st ∧ graphF ws (400 - i) i st = graph ws ∧ st.2.length ≤ 16 * i)
      (fun H3 k3 => ⟨g0, none, none, none, none, none, none, none, none, rfl, r12.mono k3, r2.mono k3, gi0 ws, rfl, Nat.le_refl _⟩) ?_ ?_
    · rintro i x σ' H3 hx k3 ⟨st, z3, z4, z5, z6, z7, z8, z9, z10, rfl, hP, hE, gi, hgr, hel⟩ v H4 k4 rv
      have hi := get_len hx
      rw [List.length_range] at hi
      rw [List.getElem?_range hi] at hx
      cases hx
      refine g_1 ?_
      have hfew := gi.few gd
      have kB : Ex H H4 := ((ex_base k12 fr).trans k3).trans k4
      have hP4 := hP.mono k4
      have hE4 := hE.mono k4
      have rv : v = V.int (i : Int) := rv
      subst rv
      refine s_when (et_r (er_lt (er_natI (er_var (e := eNat) (x := i) rfl rfl)) (er_lenL (er_var rfl hP4.r)))) (fun hb H5 k5 => ?_) (fun hb H5 k5 => ?_)
      · have hlt : i < st.1.length := by have := of_decide_eq_true hb; omega
        have h1 : st.1[i]? = some (st.1.getD i ([], [])) := by
          rw [List.getElem?_eq_getElem hlt]; simp [hlt]
        have hE5 := hE4.mono k5
        refine q_asgG (er_ixLs (er_var rfl (hP4.mono k5).r) (er_natI (er_var (e := eNat) (x := i) rfl rfl)) (atI_nat (j := i) h1)) fun v6 H6 k6 r6 => g_2 r6 fun x4 x5 rx4 rx5 => ?_
        have hap : addPlace ws i st = (lets ws).foldl (addLet ws i (st.1.getD i ([], []))) st := rfl
        generalize hone : st.1.getD i ([], []) = one at *
        have hh := gi.held one (List.mem_of_getElem? h1)
        cases rx4; cases rx5
        have hP6 := (hP4.mono k5).mono k6
        have hE6 := hE5.mono k6
        have kB6 := (kB.trans k5).trans k6
        have hll := lets_len gd
        have hll1 : (lets1 ws).length = (lets ws).length := List.length_map _
        refine s_for [p, e] (src_new (en_call1 (er_var rfl (eWs.mono kB6 ra)) gd)) (fun a ha => ⟨nt hP6 hE6 a ha, noA⟩) (fun j σ' H' => ∃ (z6 z7 z8 z9 z10 : Option V), σ' = [some va, some (.ref p), some (.ref e), some (.int (i : Int)), some (.str (ss one.1)), some (.str (ss one.2)), z6, z7, z8, z9, z10] ∧
          LsAt ePr H' p (((lets ws).take j).foldl (addLet ws i one) st).1 ∧ LsAt eLed H' e (((lets ws).take j).foldl (addLet ws i one) st).2) (fun H7 k7 => ⟨_, _, _, _, _, rfl, hP6.mono k7, hE6.mono k7⟩) ?_ ?_
        · rintro j t σ' H7 hj k7 ⟨z6, z7, z8, z9, z10, rfl, hP7, hE7⟩ v8 H8 k8 r8
          refine g_1 ?_
          obtain ⟨c, hc, hct⟩ : ∃ c, (lets ws)[j]? = some c ∧ [c] = t := by
            unfold lets1 at hj
            rw [List.getElem?_map] at hj
            exact Option.map_eq_some_iff.mp hj
          subst hct
          have hcm := List.mem_of_getElem? hc
          have a := addLets_ok gd ((lets ws).take j) st (fun _ h => List.mem_of_mem_take h) gi h1
          have hb2 := addLets_elen ws i one ((lets ws).take j) st
          rw [List.length_take] at hb2
          have hnext : ((lets ws).take (j + 1)).foldl (addLet ws i one) st = addLet ws i one (((lets ws).take j).foldl (addLet ws i one) st) c := by
            rw [List.take_add_one, hc, List.foldl_append]; rfl
          rw [hnext]
          generalize ((lets ws).take j).foldl (addLet ws i one) st = s1 at *
          have hP8 := hP7.mono k8
          have hE8 := hE7.mono k8
          have h1' := a.2.1.at_ h1
          have kB8 : Ex H H8 := ((ex_base kB6 fr).trans k7).trans k8
          refine s_for [p, e] (src_new (en_call4 (er_var rfl (eWs.mono kB8 ra)) (er_var (e := eStr) (x := one.1) rfl rfl) (er_var (e := eStr) (x := one.2) rfl rfl) (er_chrI (er_var rfl r8)) ⟨gd, Nat.le_trans (held_len gd hh.1) (by decide), Nat.le_trans (held_len gd hh.2) (by decide), held_over gd hh.1, hcm⟩)) (fun a ha => ⟨nt hP8 hE8 a ha, noA⟩)
            (fun m σ' H' => ∃ (z7 z8 z9 z10 : Option V), σ' = [some va, some (.ref p), some (.ref e), some (.int (i : Int)), some (.str (ss one.1)), some (.str (ss one.2)), some v8, z7, z8, z9, z10] ∧
            LsAt ePr H' p (((steps ws one.1 one.2 c).take m).foldl (addOne i c one) s1).1 ∧ LsAt eLed H' e (((steps ws one.1 one.2 c).take m).foldl (addOne i c one) s1).2) (fun H7 k7 => ⟨_, _, _, _, rfl, hP8.mono k7, hE8.mono k7⟩) ?_ ?_
          · rintro m x σ' H9 hm k9 ⟨z7, z8, z9, z10, rfl, hP9, hE9⟩ v10 H10 k10 r10
            have hl2 := steps_le2 ws one.1 one.2 c
            have hml := get_len hm
            have hnx : ((steps ws one.1 one.2 c).take (m + 1)).foldl (addOne i c one) s1 = addOne i c one (((steps ws one.1 one.2 c).take m).foldl (addOne i c one) s1) x := by
              rw [List.take_add_one, hm, List.foldl_append]; rfl
            have hgi := (addSteps_ok gd hcm ((steps ws one.1 one.2 c).take m) s1 (fun s hs => List.mem_of_mem_take hs) a.1 h1').1
            have hf2 := hgi.few gd
            have hel2 := foldl_elen i c one ((steps ws one.1 one.2 c).take m) s1
            rw [List.length_take] at hel2
            rw [hnx]
            generalize ((steps ws one.1 one.2 c).take m).foldl (addOne i c one) s1 = s2 at *
            have hst := steps_held gd (c := c) (t := one.2) hh.1 hcm (List.mem_of_getElem? hm)
            have hP10 := hP9.mono k10
            have hE10 := hE9.mono k10
            refine g_4 r10 fun y7 y8 y9 y10 q7 q8 q9 q10 => ?_
            have eK : ∀ {H : Hp}, EvR ePr (tTup (tCons (tVar 7) (tCons (tVar 8) tNil))) [some va, some (.ref p), some (.ref e), some (.int (i : Int)), some (.str (ss one.1)), some (.str (ss one.2)), some v8, some y7, some y8, some y9, some y10] H (x.1, x.2.1) := er_tup2 (er_var (e := eStr) rfl q7) (er_var (e := eStr) rfl q8)
            have abcP : ∀ q ∈ s2.1, Abc q.1 ∧ Abc q.2 := fun q hq => ⟨over_abc gd (held_over gd (hgi.held q hq).1), over_abc gd (held_over gd (hgi.held q hq).2)⟩
            have abcX : Abc (x.1, x.2.1).1 ∧ Abc (x.1, x.2.1).2 := ⟨over_abc gd (held_over gd hst.1), over_abc gd (held_over gd hst.2.1)⟩
            have eE : ∀ {H : Hp}, EvR (e4 ePr ePr eInt eInt) (tTup (tCons (tTup (tCons (tVar 4) (tCons (tVar 5) tNil))) (tCons (tTup (tCons (tVar 7) (tCons (tVar 8) tNil))) (tCons (tVar 9) (tCons (tVar 10) tNil))))) [some va, some (.ref p), some (.ref e), some (.int (i : Int)), some (.str (ss one.1)), some (.str (ss one.2)), some v8, some y7, some y8, some y9, some y10] H (one, (x.1, x.2.1), x.2.2.1, x.2.2.2) :=
              er_tup4 (er_tup2 (er_var (e := eStr) (x := one.1) rfl rfl) (er_var (e := eStr) (x := one.2) rfl rfl)) eK (er_var (e := eInt) rfl q9) (er_var (e := eInt) rfl q10)
            have hadd : ∃ d, addOne i c one s2 x = (s2.1 ++ (if (!s2.1.contains (x.1, x.2.1)) = true then [(x.1, x.2.1)] else []), s2.2 ++ [⟨i, c, d, one, (x.1, x.2.1), x.2.2.1, x.2.2.2⟩]) := by
              unfold addOne
              cases hcc : s2.1.contains (x.1, x.2.1) with
              | true => exact ⟨_, by rw [if_pos rfl, if_neg (by decide), List.append_nil]⟩
              | false => exact ⟨_, by rw [if_neg (by decide), if_pos (by decide)]⟩
            obtain ⟨d, hadd⟩ := hadd
            rw [hadd]
            refine q_ifApp (e := ePr) (x := (x.1, x.2.1)) (et_r (er_notInP (p := (x.1, x.2.1)) eK (er_var rfl hP10.r) abcX abcP)) (ev_var rfl) hP10 (fun _ => eK) (by omega) fun H11 k11 r11 => ?_
            have hE11 := hE10.keep k11 (by simpa using npe.symm) (tex_h k11 fun a ha => by rw [List.mem_singleton.mp ha]; exact hP10.some)
            refine s_appR (e := eLed) (x := ⟨i, c, d, one, (x.1, x.2.1), x.2.2.1, x.2.2.2⟩) (ev_var rfl) hE11 (EvR.cast (ea := e4 ePr ePr eInt eInt) (x := (one, (x.1, x.2.1), x.2.2.1, x.2.2.2)) eE fun _ _ r => r) (by omega) fun H12 k12 r12 => ?_
            have hP12 := r11.keep k12 (by simpa using npe) (tex_h k12 fun a ha => by rw [List.mem_singleton.mp ha]; exact hE11.some)
            refine ⟨?_, _, _, _, _, rfl, hP12, r12⟩
            exact (ex_rehid ((ex_hid _ k10).trans (ex_wide (by simp) k11))).trans (ex_wide (by simp) k12)
          · rintro σ' H9 k9 ⟨z7, z8, z9, z10, rfl, hP9, hE9⟩
            rw [List.take_length] at hP9 hE9
            exact ⟨(ex_hid _ k8).trans k9, _, _, _, _, _, rfl, hP9, hE9⟩
        · rintro σ' H7 k7 ⟨z6, z7, z8, z9, z10, rfl, hP7, hE7⟩
          have ap := addPlace_ok gd gi hlt
          have hb2 := addLets_elen ws i one (lets ws) st
          rw [hll1, List.take_length, ← hap] at hP7 hE7
          rw [← hap] at hb2
          refine ⟨(ex_hid _ (k4.trans (k5.trans k6))).trans k7, addPlace ws i st, _, _, _, _, _, _, _, _, rfl, hP7, hE7, ap.1, ?_, by omega⟩
          rw [← hgr, show 400 - i = (400 - (i + 1)) + 1 by omega, graphF_go hlt]
      · have hle : st.1.length ≤ i := by have := of_decide_eq_false hb; omega
        refine ⟨ex_unhid (k4.trans k5), st, _, _, _, _, _, _, _, _, rfl, hP4.mono k5, hE4.mono k5, gi, ?_, by omega⟩
        rw [graphF_stop hle] at hgr
        rw [graphF_stop (by omega)]
        exact hgr
    · rintro σ' H3 k3 ⟨st, z3, z4, z5, z6, z7, z8, z9, z10, rfl, hP, hE, gi, hgr, hel⟩
      rw [List.length_range] at hgr
      have hgr : st = graph ws := hgr
      subst hgr
      have kB : Ex H H3 := (ex_base k12 fr).trans k3
      exact s_retR (er_tup2 (er_var rfl hP.r) (er_var rfl hE.r)) fun v H4 k4 r4 => q v H4 (kB.trans k4) r4
end
end K61

/-! K61K: lists joined; loops over the keys of a locked dict. -/
namespace K61
open PySem PySem.Spec PyProof.Rows L2 Evl
section
variable {α : Type} {K : PySem.W.Frag} {σ : L2.St} {H H' : Hp} {ta tb td te : TE} {D : Ends} {t : L2.TS}
theorem en_cat {e : Enc α} {l m : List α} (ha : EvR (eLs e) ta σ H l) (hb : EvR (eLs e) tb σ H m) (hl : l.length + m.length ≤ 100000) : EvN e (tOp rCat ta tb) σ H (l ++ m) := fun H1 k Q q =>
  ha H1 k _ fun v H2 k2 rv => hb H2 (k.trans k2) _ fun w H3 k3 rw' => by
    obtain ⟨a, xs, rfl, h2, h3⟩ := (eLs e).mono k3 rv
    obtain ⟨b, ys, rfl, g2, g3⟩ := rw'
    refine ⟨a, b, xs, ys, rfl, rfl, h2, g2, sz_of (by rw [paired_len h3, paired_len g3]; exact hl), fun p hp => ?_⟩
    exact q p _ _ (fresh_back (k2.trans k3) hp) ((k2.trans k3).trans (Ex.new hp)) upd_same (paired_append (paired_mono h3 fun _ _ r => e.mono (Ex.new hp) r) (paired_mono g3 fun _ _ r => e.mono (Ex.new hp) r))
/-- the keys of a locked dict of pairs -/
theorem src_keysT {d : Addr} {o : Obj} {D : Dc} (h : Ev td σ H (.ref d)) (hd : H d = some (.frz o (.dT (encD D)))) : SrcOf ePr (iKeys td) σ H (D.map (·.1)) (fun a => a = d) := fun H1 k R r =>
  h H1 k _ fun H2 k2 => by
    have h2 := (k.trans k2) _ _ hd
    refine ⟨d, o, rfl, .inr ⟨encD D, h2, r _ H2 (tupsA H2 d) k2 (ex_tupsA H2 d) (fun b o hb => ?_) fun H' hh i => ?_⟩⟩
    · by_cases hbp : b = d
      · exact .inr (.inr hbp)
      · unfold tupsA at hb
        rw [if_neg hbp] at hb
        obtain ⟨ys, rfl, _⟩ := tups_some hb
        exact .inr (.inl ⟨ys, rfl⟩)
    · have h3 : H' d = some (.frz o (.dT (encD D))) := hh d _ (by rw [tupsA_at]; exact h2)
      have hl : (encD D).length = D.length := List.length_map _
      refine ⟨fun x hx => ?_, fun hi => ⟨h3, by rw [List.length_map] at hi; omega⟩⟩
      rw [List.getElem?_map] at hx
      obtain ⟨z, hz, rfl⟩ := Option.map_eq_some_iff.mp hx
      refine ⟨⟨h3, by have := get_len hz; omega⟩, fun w H'' hy => ?_⟩
      obtain ⟨rfl, k3, v, q, hk, rfl, hq⟩ := hy
      have : (encD D)[i]? = some (kO z.1, V.int z.2) := by unfold encD; rw [List.getElem?_map, hz]; rfl
      rw [this] at hk
      cases hk
      exact ⟨Ex.refl _, q, _, _, rfl, hq, rfl, rfl⟩
/-- .. of texts -/
theorem src_keysS {d : Addr} {o : Obj} {D : Ds} (h : Ev td σ H (.ref d)) (hd : H d = some (.frz o (.dK (encS D)))) : SrcOf eStr (iKeys td) σ H (D.map (·.1)) (fun a => a = d) := fun H1 k R r =>
  h H1 k _ fun H2 k2 => by
    have h2 := (k.trans k2) _ _ hd
    refine ⟨d, o, rfl, .inl ⟨encS D, h2, r _ H2 (tupsA H2 d) k2 (ex_tupsA H2 d) (fun b o hb => ?_) fun H' hh i => ?_⟩⟩
    · by_cases hbp : b = d
      · exact .inr (.inr hbp)
      · unfold tupsA at hb
        rw [if_neg hbp] at hb
        obtain ⟨ys, rfl, _⟩ := tups_some hb
        exact .inr (.inl ⟨ys, rfl⟩)
    · have h3 : H' d = some (.frz o (.dK (encS D))) := hh d _ (by rw [tupsA_at]; exact h2)
      have hl : (encS D).length = D.length := List.length_map _
      refine ⟨fun x hx => ?_, fun hi => ⟨h3, by rw [List.length_map] at hi; omega⟩⟩
      rw [List.getElem?_map] at hx
      obtain ⟨z, hz, rfl⟩ := Option.map_eq_some_iff.mp hx
      refine ⟨⟨h3, by have := get_len hz; omega⟩, fun w H'' hy => ?_⟩
      obtain ⟨rfl, k3, v, hk, rfl⟩ := hy
      have : (encS D)[i]? = some (kS z.1, V.int z.2) := by unfold encS; rw [List.getElem?_map, hz]; rfl
      rw [this] at hk
      cases hk
      exact ⟨Ex.refl _, rfl⟩
/-- a lock taken off -/
theorem unlock {ls : List Addr} {d : Addr} {f u : HO} (k : Ex (hid (upd H d f) ls) H') (hu : H d = some u) (n : d ∉ ls) : Ex (hid H ls) (upd H' d u) := fun a o h => by
  obtain ⟨h1, h2⟩ := hid_some h
  by_cases e : a = d
  · subst e
    rw [hu] at h2
    rw [upd_same, h2]
  · rw [upd_ne e]
    exact k a o (by rw [hid_ne h1, upd_ne e]; exact h2)
/-- for .. over a locked dict: the ends -/
theorem tex_lock {d : Addr} {f u : HO} (hu : H d = some u) (n : ∀ xs, u ≠ .tup xs) : TEx H (upd H d f) := tex_upd hu n
end
theorem min_ex : ∀ {l : List Int}, l ≠ [] → ∃ m ∈ l, ∀ y ∈ l, m ≤ y
  | [x], _ => ⟨x, List.mem_singleton.mpr rfl, fun y hy => by rw [List.mem_singleton.mp hy]; exact Int.le_refl _⟩
  | x :: y :: r, _ => by
    obtain ⟨m, hm, h⟩ := min_ex (l := y :: r) (by simp)
    by_cases hx : x ≤ m
    · exact ⟨x, List.mem_cons_self, fun z hz => by rcases List.mem_cons.mp hz with rfl | hz; exact Int.le_refl _; have := h z hz; omega⟩
    · exact ⟨m, List.mem_cons_of_mem _ hm, fun z hz => by rcases List.mem_cons.mp hz with rfl | hz; omega; exact h z hz⟩
end K61

/-! K61L4: the law's texts and least cost. -/
namespace K61
open PySem PySem.Spec PyProof.Rows L2 Evl
section
variable {P : Program} {w : World} {K : PySem.W.Frag} {mg : Str → Option Value} {base : Heap}
-- slots: 0=_law_words_here 1=_law_most 2=_law_rows 3=_law_found 4=_law_k 5=_law_longer 6=_law_row* 7=_law_letter
abbrev st_law_all_texts : Stmt := top 55
abbrev N_law_all_texts : List Str := ["_law_words_here", "_law_most", "_law_rows", "_law_found", "_law_k", "_law_longer", "_law_row", "_law_letter"]
theorem sc_law_all_texts : FnScope N_law_all_texts ["_law_words_here", "_law_most"] (defScope st_law_all_texts) := ⟨rfl, rfl, rfl, by decide +kernel, rfl, by decide +kernel, by decide +kernel⟩
def rowsT (ws : Ws) : Nat → List Tx
  | 0 => [[]]
  | n + 1 => (rowsT ws n).flatMap (fun r => (lets1 ws).map (fun c => r ++ c))
def foundT (ws : Ws) : Nat → List Tx
  | 0 => [[]]
  | n + 1 => foundT ws n ++ rowsT ws (n + 1)
theorem flat_len {α β : Type} (f : α → List β) (k : Nat) : ∀ (l : List α), (∀ x ∈ l, (f x).length ≤ k) → (l.flatMap f).length ≤ l.length * k
  | [], _ => by simp
  | x :: r, h => by
    rw [List.flatMap_cons, List.length_append, List.length_cons, Nat.succ_mul]
    have h1 := h x List.mem_cons_self
    have h2 := flat_len f k r fun y hy => h y (List.mem_cons_of_mem _ hy)
    omega
theorem rowsT_ok {ws : Ws} (g : Good ws) : ∀ n, (rowsT ws n).length ≤ 8 ^ n ∧ ∀ t ∈ rowsT ws n, Over ws t ∧ t.length = n
  | 0 => ⟨Nat.le_refl _, fun t h => by rw [List.mem_singleton.mp h]; exact ⟨Over.nil, rfl⟩⟩
  | n + 1 => by
    have ih := rowsT_ok g n
    constructor
    · have h1 := flat_len (fun r => (lets1 ws).map (fun c => r ++ c)) 8 (rowsT ws n) fun x _ => by
        rw [List.length_map]; unfold lets1; rw [List.length_map]; exact lets_len g
      rw [Nat.pow_succ]
      exact Nat.le_trans h1 (Nat.mul_le_mul_right 8 ih.1)
    · intro t ht
      obtain ⟨r, hr, h2⟩ := List.mem_flatMap.mp ht
      obtain ⟨c, hc, rfl⟩ := List.mem_map.mp h2
      unfold lets1 at hc
      obtain ⟨x, hx, rfl⟩ := List.mem_map.mp hc
      have h3 := ih.2 r hr
      exact ⟨h3.1.append (over_one hx), by rw [List.length_append, h3.2]; rfl⟩
theorem foundT_ok {ws : Ws} (g : Good ws) : ∀ n, n ≤ 4 → (foundT ws n).length ≤ 4096 * (n + 1) ∧ ∀ t ∈ foundT ws n, Over ws t ∧ t.length ≤ 4
  | 0, _ => ⟨(show (1 : Nat) ≤ 4096 * (0 + 1) by decide), fun t h => by rw [List.mem_singleton.mp h]; exact ⟨Over.nil, Nat.zero_le _⟩⟩
  | n + 1, hn => by
    have ih := foundT_ok g n (by omega)
    have hr := rowsT_ok g (n + 1)
    have h8 : 8 ^ (n + 1) ≤ 4096 := Nat.pow_le_pow_right (n := 8) (by decide) hn
    constructor
    · show (foundT ws n ++ rowsT ws (n + 1)).length ≤ _
      rw [List.length_append]
      omega
    · intro t ht
      rcases List.mem_append.mp ht with ht | ht
      · exact ih.2 t ht
      · have := hr.2 t ht
        exact ⟨this.1, by omega⟩
abbrev sp_all : Sp := Pu2 eWs eNat (eLs eStr) (fun ws n => Good ws ∧ n ≤ 4) foundT
theorem ok_lall (B : Bl mg) (F : DefAt K mg "_law_all_texts" st_law_all_texts ["_law_words_here", "_law_most"]) (c_law_letters : Cal P w K mg base "_law_letters" 1 ["_law_words_here"] sp_lletters) : Cal P w K mg base "_law_all_texts" 2 ["_law_words_here", "_law_most"] sp_all := by
  refine F.cal sc_law_all_texts (fun vs H Q E h => ?_) (fun f cdv A outer s H vs Q E hr h => ?_)
  · obtain ⟨_, _, _, _, rfl, _⟩ := h; rfl
  · obtain ⟨va, vb, ws, n, rfl, ra, rb, ⟨gd, hn⟩, q⟩ := h
    refine ⟨_, (pss_cons (ps_set (i := 2) sc_law_all_texts.nd rfl (.inl rfl) (pe_lst (pa_cons pe_str pa_nil)))
    (pss_cons (ps_set (i := 3) sc_law_all_texts.nd rfl (.inl rfl) (pe_lst (pa_cons pe_str pa_nil)))
    (pss_cons (ps_for PassesOwn.never rfl (pi_range1 (by rfl) B.range (pa_cons (pv 1) pa_nil)) (pg_name (i := 4) sc_law_all_texts.nd rfl (.inl rfl))
    (pss_cons (ps_set (i := 5) sc_law_all_texts.nd rfl (.inl rfl) (pe_lst pa_nil))
    (pss_cons (ps_for PassesOwn.never rfl (pi_listK K (pv 2)) (pg_name (i := 6) sc_law_all_texts.nd rfl (.inr rfl))
    (pss_one (ps_set (i := 5) sc_law_all_texts.nd rfl (.inl rfl) (pe_op (op_cat) (pv 5) (pe_lc (own := [("_law_letter", 7)]) rfl sc_law_all_texts.nd (pi_listK K (pe_cal c_law_letters hr (by decide) (by rfl) (pa_cons (pv 0) pa_nil))) (blkOk_by (own := [("_law_letter", 7)]) (N := N_law_all_texts) (sc := defScope st_law_all_texts) (by decide +kernel)) (fun _ _ _ _ _ => (pg_name (i := 7) sc_law_all_texts.nd rfl (.inl rfl))) (fun _ _ _ _ _ => pts_nil) (fun _ _ _ _ _ => (pe_op (op_add_str) (pv 6) (pv 7))))))))
    (pss_cons (ps_set (i := 2) sc_law_all_texts.nd rfl (.inl rfl) (pv 5))
    (pss_one (ps_set (i := 3) sc_law_all_texts.nd rfl (.inl rfl) (pe_op (op_cat) (pv 3) (pv 2))))))))
    (pss_one (ps_ret (pv 3)))))), ?_⟩
    refine q_asgN (e := eStr) (l := [[]]) (en_one (er_str (t := []) (by decide +kernel))) fun p1 H1 hp1 k1 r1 => ?_
    refine q_asgN (e := eStr) (l := [[]]) (en_one (er_str (t := []) (by decide +kernel))) fun p2 H2 hp2 k2 r2 => ?_
    have k12 := k1.trans k2
    have h84 : ∀ i, i ≤ 4 → 8 ^ i ≤ 4096 := fun i hi => Nat.pow_le_pow_right (n := 8) (by decide) hi
    refine q_for [] (src_range1 (n := n) (er_var rfl rb) (by omega)) (fun a ha => by cases ha) (fun i σ' H' => ∃ (v2 v3 : V) (z4 z5 z6 z7 : Option V), σ' = [some va, some vb, some v2, some v3, z4, z5, z6, z7] ∧ (eLs eStr).R H' v2 (rowsT ws i) ∧ (eLs eStr).R H' v3 (foundT ws i))
      (fun H3 k3 => ⟨_, _, none, none, none, none, rfl, (r1.mono (k2.trans k3)).r, (r2.mono k3).r⟩) ?_ ?_
    · rintro i x σ' H3 hx k3 ⟨v2, v3, z4, z5, z6, z7, rfl, hR, hF⟩ v H4 k4 rv
      rw [hid_nil] at k3
      have hi := get_len hx
      rw [List.length_range] at hi
      refine g_1 ?_
      have hro := rowsT_ok gd i
      have hro2 := rowsT_ok gd (i + 1)
      have hfo := foundT_ok gd i (by omega)
      have h8 := h84 i (by omega)
      have h82 := h84 (i + 1) (by omega)
      have kB := (k12.trans k3).trans k4
      refine q_asgN (e := eStr) en_nil fun p5 H5 hp5 k5 r5 => ?_
      have hR5 := (eLs eStr).mono (k4.trans k5) hR
      refine q_for [] (src_ls (er_var rfl hR5)) (fun a ha => by cases ha) (fun j σ' H' => ∃ (v5 : V) (z6 z7 : Option V), σ' = [some va, some vb, some v2, some v3, some v, some v5, z6, z7] ∧ (eLs eStr).R H' v5 (((rowsT ws i).take j).flatMap (fun r => (lets1 ws).map (fun c => r ++ c)))) (fun H6 k6 => ⟨_, _, _, rfl, (r5.mono k6).r⟩) ?_ ?_
      · rintro j t σ' H6 hj k6 ⟨v5, z6, z7, rfl, hL⟩ v7 H7 k7 r7
        rw [hid_nil] at k6
        refine g_1 ?_
        have kB7 := (kB.trans k5).trans (k6.trans k7)
        have htm := hro.2 t (List.mem_of_getElem? hj)
        have hll : (lets1 ws).length ≤ 8 := by unfold lets1; rw [List.length_map]; exact lets_len gd
        have hfl : (((rowsT ws i).take j).flatMap (fun r => (lets1 ws).map (fun c => r ++ c))).length ≤ 32768 := by
          refine Nat.le_trans (flat_len _ 8 _ fun x _ => by rw [List.length_map]; exact hll) ?_
          rw [List.length_take]
          omega
        refine s_asgN (e := eStr) (en_cat (er_var rfl ((eLs eStr).mono k7 hL)) (EvN.r (en_lcA (e := eStr) (e' := eStr) (fun c => t ++ c) (src_new (en_call1 (er_var rfl (eWs.mono kB7 ra)) gd)) (by omega) fun y v8 H8 hy k8 r8 Q q => g_1 (q _ rfl (er_catS (er_var rfl (eStr.mono k8 r7)) (er_var rfl r8) ?_)))) (by rw [List.length_map]; omega)) fun p9 H9 hp9 k9 r9 => ?_
        · unfold lets1 at hy
          obtain ⟨x, _, rfl⟩ := List.mem_map.mp hy
          rw [htm.2]
          show i + 1 ≤ 100000
          omega
        · refine ⟨by rw [hid_nil]; exact k7.trans k9, _, _, _, rfl, ?_⟩
          have e : ((rowsT ws i).take (j + 1)).flatMap (fun r => (lets1 ws).map (fun c => r ++ c)) = ((rowsT ws i).take j).flatMap (fun r => (lets1 ws).map (fun c => r ++ c)) ++ (lets1 ws).map (fun c => t ++ c) := by
            rw [List.take_add_one, hj, List.flatMap_append]
            show _ ++ List.flatMap _ [t] = _
            rw [List.flatMap_singleton]
          rw [e]
          exact r9.r
      · rintro σ' H6 k6 ⟨v5, z6, z7, rfl, hL⟩
        rw [hid_nil] at k6
        rw [List.take_length] at hL
        have hL : (eLs eStr).R H6 v5 (rowsT ws (i + 1)) := hL
        refine q_asgR (e := eLs eStr) (er_var rfl hL) fun v8 H8 k8 r8 => ?_
        have k48 := ((k4.trans k5).trans k6).trans k8
        refine s_asgN (e := eStr) (l := foundT ws (i + 1)) (en_cat (er_var rfl ((eLs eStr).mono k48 hF)) (er_var rfl r8) (by omega)) fun p9 H9 hp9 k9 r9 => ?_
        exact ⟨by rw [hid_nil]; exact k48.trans k9, _, _, _, _, _, _, rfl, (eLs eStr).mono k9 r8, r9.r⟩
    · rintro σ' H3 k3 ⟨v2, v3, z4, z5, z6, z7, rfl, hR, hF⟩
      rw [hid_nil] at k3
      rw [List.length_range] at hF
      exact s_retR (er_var rfl hF) fun v H4 k4 r4 => q v H4 ((k12.trans k3).trans k4) r4
-- slots: 0=_law_words_here 1=_law_text_here* 2=_law_best* 3=_law_end* 4=_law_costs 5=_law_word 6=_law_cost_here
abbrev st_law_least : Stmt := top 56
abbrev N_law_least : List Str := ["_law_words_here", "_law_text_here", "_law_best", "_law_end", "_law_costs", "_law_word", "_law_cost_here"]
theorem sc_law_least : FnScope N_law_least ["_law_words_here", "_law_text_here"] (defScope st_law_least) := ⟨rfl, rfl, rfl, by decide +kernel, rfl, by decide +kernel, by decide +kernel⟩
def sp_least : Sp := fun vs H Q _ => ∃ (a b : V) (ws : Ws) (t : Tx), vs = [a, b] ∧ eWs.R H a ws ∧ eStr.R H b t ∧ Good ws ∧ Over ws t ∧ t.length ≤ 1000 ∧ ∀ v H' k, Ex H H' → Reach ws t k → eInt.R H' v k → Q v H'
theorem ok_least (B : Bl mg) (F : DefAt K mg "_law_least" st_law_least ["_law_words_here", "_law_text_here"]) : Cal P w K mg base "_law_least" 1 ["_law_words_here", "_law_text_here"] sp_least := by
  refine F.cal sc_law_least (fun vs H Q E h => ?_) (fun f cdv A outer s H vs Q E hr h => ?_)
  · obtain ⟨_, _, _, _, rfl, _⟩ := h; rfl
  · obtain ⟨va, vb, ws, t, rfl, ra, rb, gd, ho, hlen, q⟩ := h
    refine ⟨_, (pss_cons (ps_set (i := 2) sc_law_least.nd rfl (.inr rfl) (pe_lst (pa_cons pe_int pa_nil)))
    (pss_cons (ps_for PassesOwn.never rfl (pi_range2 (by rfl) B.range (pa_cons pe_int (pa_cons (pe_op (op_add) (pe_callB call_len_str (by rfl) B.len (by decide +kernel) (pa_cons (pv 1) pa_nil)) pe_int) pa_nil))) (pg_name (i := 3) sc_law_least.nd rfl (.inr rfl))
    (pss_cons (ps_setLc (i := 4) (own := [("_law_word", 5), ("_law_cost_here", 6)]) rfl sc_law_least.nd rfl rfl (sw_true rfl rfl rfl (by decide +kernel)) (pi_tupK K (pv 0)) (blkOk_by (own := [("_law_word", 5), ("_law_cost_here", 6)]) (N := N_law_least) (sc := defScope st_law_least) (by decide +kernel)) (fun _ _ _ _ _ => (pg_tupK K (n := 2) rfl (pgs_cons (pg_name (i := 5) sc_law_least.nd rfl (.inl rfl)) (pgs_cons (pg_name (i := 6) sc_law_least.nd rfl (.inl rfl)) pgs_nil)))) (fun _ _ _ _ _ => (pts_one (pt_cmpR op_eq (pe_slice sl_str (pv 1) (po_some (pe_callB (call_max2 rfl) (by rfl) B.max (by decide +kernel) (pa_cons pe_int (pa_cons (pe_op (op_sub) (pv 3) (pe_callB call_len_str (by rfl) B.len (by decide +kernel) (pa_cons (pv 5) pa_nil))) pa_nil)))) (po_some (pv 3))) (pv 5) (nomark _)))) (fun _ _ _ _ _ => (pe_op (op_add) (pe_ix (ix_listK K) (pv 2) (pe_op (op_sub) (pv 3) (pe_callB call_len_str (by rfl) B.len (by decide +kernel) (pa_cons (pv 5) pa_nil))) (fun _ _ => rfl)) (pv 6))))
    (pss_one (ps_expr (pe_bm PySem.F.plainAttrs_list PySem.F.slot_list_append PySem.F.type_list_append mt_append (pv 2) (pa_cons (pe_callB (cr_minK K rfl) (by rfl) B.min (by decide +kernel) (pa_cons (pv 4) pa_nil)) pa_nil))))))
    (pss_one (ps_ret (pe_ix (ix_listK K) (pv 2) (pe_callB call_len_str (by rfl) B.len (by decide +kernel) (pa_cons (pv 1) pa_nil)) (fun _ _ => rfl)))))), ?_⟩
    refine q_asgN (e := eInt) (l := [0]) (en_one er_int) fun p H1 hp k1 r1 => ?_
    have hfew := gd.few
    refine q_for [p] (src_range2 (m := 1) (n := t.length + 1) er_nat (er_intN (er_add (er_lenS (er_var rfl (eStr.mono k1 rb)) (by omega)) er_int) (by rw [Int.natCast_add]; rfl)) (by omega) (by omega)) (hidden r1.some noA)
      (fun i σ' H' => ∃ (L : List Int) (z3 z4 z5 z6 : Option V), σ' = [some va, some vb, some (.ref p), z3, z4, z5, z6] ∧ LsAt eInt H' p L ∧ L.length = i + 1 ∧ ∀ j x, L[j]? = some x → Reach ws (t.take j) x)
      (fun H2 k2 => ⟨[0], none, none, none, none, rfl, r1.mono k2, rfl, fun j x hx => by
        have hj := get_len hx
        have hj : j < 1 := hj
        have : j = 0 := by omega
        subst this
        have hx : some (0 : Int) = some x := hx
        cases hx
        rw [List.take_zero]
        exact .nil⟩) ?_ ?_
    · rintro i x σ' H2 hx k2 ⟨L, z3, z4, z5, z6, rfl, hL, hLl, hRe⟩ v H3 k3 rv
      have hi := get_len hx
      rw [List.length_map, List.length_range] at hi
      rw [List.getElem?_map, List.getElem?_range hi] at hx
      have hx : x = 1 + i := (Option.some.inj hx).symm
      have rv : v = V.int (x : Int) := rv
      subst hx rv
      refine g_1 ?_
      have kB : Ex H H3 := ((ex_new1 k1 hp).trans k2).trans k3
      have hL3 := hL.mono k3
      have hcut : ∀ {e : Tx × Int}, e ∈ ws → cutT t (some (max 0 (((1 + i : Nat) : Int) - (e.1.length : Int)))) (some ((1 + i : Nat) : Int)) = e.1 → e.1.length ≤ 1 + i ∧ t.take (1 + i) = t.take (1 + i - e.1.length) ++ e.1 := by
        intro e he h
        have hm : max (0 : Int) (((1 + i : Nat) : Int) - (e.1.length : Int)) = ((1 + i - e.1.length : Nat) : Int) := by omega
        rw [hm, cutT_nat] at h
        have h2 := congrArg List.length h
        rw [List.length_take, List.length_drop] at h2
        have hle : e.1.length ≤ 1 + i := by omega
        refine ⟨hle, ?_⟩
        rw [Nat.sub_sub_self hle] at h
        have h3 : t.take (1 + i) = t.take (1 + i - e.1.length) ++ (t.drop (1 + i - e.1.length)).take e.1.length := by
          rw [← List.take_add]
          congr 1
          omega
        rw [h3, h]
      have hidx : ∀ {e : Tx × Int}, e ∈ ws → e.1.length ≤ 1 + i → ∃ y, L[1 + i - e.1.length]? = some y := fun {e} he hle => by
        have := (gd.len e he).1
        exact ⟨_, List.getElem?_eq_getElem (by omega)⟩
      refine q_asgN (e := eInt) (l := (ws.filter (fun e => decide (cutT t (some (max 0 (((1 + i : Nat) : Int) - (e.1.length : Int)))) (some ((1 + i : Nat) : Int)) = e.1))).map (fun e => L.getD (1 + i - e.1.length) 0 + e.2))
        (en_lc (e := e2 eStr eInt) (e' := eInt) (fun e => decide (cutT t (some (max 0 (((1 + i : Nat) : Int) - (e.1.length : Int)))) (some ((1 + i : Nat) : Int)) = e.1)) (fun e => L.getD (1 + i - e.1.length) 0 + e.2) (src_tup (er_var rfl (eWs.mono kB ra))) (by omega) fun e v5 H5 he k5 r5 Q q => g_2 r5 fun x5 x6 r5 r6 => q _ rfl ?_ ?_) fun p4 H4 hp4 k4 r4 => ?_
      · have hes := gd.len e he
        exact et_r (er_eqS (er_slS (er_var rfl (eStr.mono (kB.trans k5) rb)) (eo_r (er_max2 er_int (er_sub (er_natI (er_var (e := eNat) (x := 1 + i) rfl rfl)) (er_lenS (er_var rfl r5) (by omega))))) (eo_r (er_natI (er_var (e := eNat) (x := 1 + i) rfl rfl))) (by omega)) (er_var rfl r5))
      · intro hb
        have hc := hcut he (of_decide_eq_true hb)
        obtain ⟨y, hy⟩ := hidx he hc.1
        have hes := gd.len e he
        refine er_add (er_ixLs (e := eInt) (i := ((1 + i - e.1.length : Nat) : Int)) (er_var rfl (hL3.mono k5).r) ((er_sub (er_natI (er_var (e := eNat) (x := 1 + i) rfl rfl)) (er_lenS (er_var rfl r5) (by omega))).is (by omega)) (atI_nat (j := 1 + i - e.1.length) ?_)) (er_var rfl r6)
        rw [List.getD_eq_getElem?_getD, hy]; rfl
      · have hmem : ∀ m ∈ (ws.filter (fun e => decide (cutT t (some (max 0 (((1 + i : Nat) : Int) - (e.1.length : Int)))) (some ((1 + i : Nat) : Int)) = e.1))).map (fun e => L.getD (1 + i - e.1.length) 0 + e.2), Reach ws (t.take (1 + i)) m := by
          intro m hm
          obtain ⟨e, he, rfl⟩ := List.mem_map.mp hm
          rw [List.mem_filter] at he
          have hc := hcut he.1 (of_decide_eq_true he.2)
          obtain ⟨y, hy⟩ := hidx he.1 hc.1
          rw [hc.2, List.getD_eq_getElem?_getD, hy]
          exact .snoc (hRe _ _ hy) he.1
        have hne : (ws.filter (fun e => decide (cutT t (some (max 0 (((1 + i : Nat) : Int) - (e.1.length : Int)))) (some ((1 + i : Nat) : Int)) = e.1))).map (fun e => L.getD (1 + i - e.1.length) 0 + e.2) ≠ [] := by
          have hit : i < t.length := by omega
          obtain ⟨e, he, h1⟩ := mem_names.mp (mem_lets.mp (ho _ (List.getElem_mem hit)))
          refine List.ne_nil_of_mem (List.mem_map.mpr ⟨e, List.mem_filter.mpr ⟨he, decide_eq_true ?_⟩, rfl⟩)
          have hm : max (0 : Int) (((1 + i : Nat) : Int) - (e.1.length : Int)) = ((i : Nat) : Int) := by rw [h1]; simp; omega
          rw [hm, cutT_nat, h1, Nat.add_sub_cancel_right, List.take_one, List.head?_drop, List.getElem?_eq_getElem hit]
          rfl
        obtain ⟨m, hm, hmin⟩ := min_ex hne
        refine s_appR (e := eInt) (x := m) (ev_var rfl) (hL3.mono k4) (er_minL (er_var rfl r4.r) hm hmin) (by omega) fun H6 k6 r6 => ?_
        refine ⟨(ex_hid _ (k3.trans k4)).trans k6, L ++ [m], _, _, _, _, rfl, r6, by rw [List.length_append, hLl]; rfl, fun j y hy => ?_⟩
        by_cases hj : j < L.length
        · rw [List.getElem?_append_left hj] at hy
          exact hRe j y hy
        · have hj2 := get_len hy
          rw [List.length_append, List.length_singleton] at hj2
          have hje : j = L.length := by omega
          subst hje
          rw [List.getElem?_concat_length] at hy
          cases hy
          rw [hLl, Nat.add_comm]
          exact hmem m hm
    · rintro σ' H2 k2 ⟨L, z3, z4, z5, z6, rfl, hL, hLl, hRe⟩
      rw [List.length_map, List.length_range] at hLl
      have kB : Ex H H2 := (ex_new1 k1 hp).trans k2
      have hl : t.length < L.length := by omega
      have hy := List.getElem?_eq_getElem hl
      have hr := hRe _ _ hy
      rw [List.take_length] at hr
      exact s_retR (er_ixLs (er_var rfl hL.r) (er_lenS (er_var rfl (eStr.mono kB rb)) (by omega)) (atI_nat (j := t.length) hy)) fun v H3 k3 r3 => q v H3 _ (kB.trans k3) hr r3
end
end K61

/-! K61L5: the law's climb and rest. -/
namespace K61
open PySem PySem.Spec PyProof.Rows L2 Evl
theorem idx_uniq {α : Type} {l : List α} (nd : l.Nodup) {i j : Nat} {x : α} (h : l[i]? = some x) (h' : l[j]? = some x) : i = j := by
  obtain ⟨hi, e1⟩ := List.getElem?_eq_some_iff.mp h
  obtain ⟨hj, e2⟩ := List.getElem?_eq_some_iff.mp h'
  exact (List.getElem_inj (xs := l) (h₀ := hi) (h₁ := hj) nd).mp (e1.trans e2.symm)
structure DH (st : GSt) (hs : Hs) (D : Dc) : Prop where
  nd : (D.map (·.1)).Nodup
  sub : ∀ p ∈ D.map (·.1), p ∈ st.1
  look : ∀ i p, st.1[i]? = some p → lookD D p = hs.getD i none
theorem DH.len {st : GSt} {hs : Hs} {D : Dc} (h : DH st hs D) : D.length ≤ st.1.length := by
  have := nodup_le h.nd h.sub
  rw [List.length_map] at this
  exact this
theorem DH.put {st : GSt} {hs : Hs} {D : Dc} {j : Nat} {p : Tx × Tx} {v : Int} (h : DH st hs D) (nd : st.1.Nodup) (hj : st.1[j]? = some p) (hl : j < hs.length) : DH st (hs.set j (some v)) (putD D p v) := by
  refine ⟨?_, fun q hq => ?_, fun i q hi => ?_⟩
  · rw [putD_keys]
    split
    · exact h.nd
    · rename_i hn
      rw [List.nodup_append]
      refine ⟨h.nd, by simp, fun a ha b hb => ?_⟩
      rw [List.mem_singleton.mp hb]
      exact fun e => hn (e ▸ ha)
  · rw [putD_keys] at hq
    split at hq
    · exact h.sub q hq
    · rcases List.mem_append.mp hq with hq | hq
      · exact h.sub q hq
      · rw [List.mem_singleton.mp hq]
        exact List.mem_of_getElem? hj
  · rw [look_put, getD_set _ _ _ _ hl]
    by_cases e : q = p
    · subst e
      rw [if_pos rfl, if_pos (idx_uniq nd hi hj)]
    · rw [if_neg e, if_neg fun z => by rw [z, hj] at hi; exact e (Option.some.inj hi).symm]
      exact h.look i q hi
theorem dh0 {ws : Ws} {st : GSt} (gi : GI ws st) : DH st (hs0 st.1.length) [(([], []), 0)] := by
  refine ⟨by simp, fun p hp => ?_, fun i p hi => ?_⟩
  · have : p = ([], []) := by simpa using hp
    rw [this]
    exact List.mem_of_getElem? gi.hd
  · have hl : (List.replicate st.1.length (none : Option Int)).length = st.1.length := List.length_replicate
    unfold hs0
    rw [getD_set _ _ _ _ (by rw [hl]; exact gi.pos)]
    by_cases e : i = 0
    · subst e
      rw [gi.hd] at hi
      cases hi
      rfl
    · rw [if_neg e]
      have hne : p ≠ ([], []) := fun z => e (idx_uniq gi.nd hi (z ▸ gi.hd))
      have h1 : (List.replicate st.1.length (none : Option Int)).getD i none = none := by
        rw [List.getD_eq_getElem?_getD, List.getElem?_replicate]
        split <;> rfl
      rw [h1]
      unfold lookD
      rw [List.find?_cons, decide_eq_false fun z => hne z.symm]
      rfl
section
variable {P : Program} {w : World} {K : PySem.W.Frag} {mg : Str → Option Value} {base : Heap}
-- slots: 0=_law_pairs 1=_law_edges 2=_law_a 3=_law_b 4=_law_heights 5=_law_turn 6=_law_changed 7=_law_one 8=_law_other 9=_law_gain 10=_law_loss 11=_law_height
abbrev st_law_climb : Stmt := top 61
abbrev N_law_climb : List Str := ["_law_pairs", "_law_edges", "_law_a", "_law_b", "_law_heights", "_law_turn", "_law_changed", "_law_one", "_law_other", "_law_gain", "_law_loss", "_law_height"]
theorem sc_law_climb : FnScope N_law_climb ["_law_pairs", "_law_edges", "_law_a", "_law_b"] (defScope st_law_climb) := ⟨rfl, rfl, rfl, by decide +kernel, rfl, by decide +kernel, by decide +kernel⟩
def sp_lclimb : Sp := fun vs H Q _ => ∃ (vp ve : V) (ws : Ws) (st : GSt) (a b : Int), vs = [vp, ve, .int a, .int b] ∧ (eLs ePr).R H vp st.1 ∧ (eLs eLed).R H ve st.2 ∧ Good ws ∧ Gr ws st ∧ (-1000 ≤ a ∧ a ≤ 1000) ∧ (-1000 ≤ b ∧ b ≤ 1000) ∧
  ∀ v H', Ex H H' → ((climb a b st).1 = false → v = .non) → ((climb a b st).1 = true → ∃ D, eDc.R H' v D ∧ DH st (climb a b st).2.1 D) → Q v H'
theorem ok_lclimb (B : Bl mg) (F : DefAt K mg "_law_climb" st_law_climb ["_law_pairs", "_law_edges", "_law_a", "_law_b"]) : Cal P w K mg base "_law_climb" 1 ["_law_pairs", "_law_edges", "_law_a", "_law_b"] sp_lclimb := by
  refine F.cal sc_law_climb (fun vs H Q E h => ?_) (fun f cdv A outer s H vs Q E hr h => ?_)
  · obtain ⟨_, _, _, _, _, _, rfl, _⟩ := h; rfl
  · obtain ⟨vp, ve, ws, st, a, b, rfl, rp, re, gd, gr, ha, hb, q⟩ := h
    have hu := huU hr
    refine ⟨_, (pss_cons (ps_set (i := 4) sc_law_climb.nd rfl (.inl rfl) (pe_dispT1 hu (pe_tup (pa_cons pe_str (pa_cons pe_str pa_nil))) pe_int))
    (pss_cons (ps_for PassesOwn.never rfl (pi_range1 (by rfl) B.range (pa_cons (pe_op (op_add) (pe_callB (call_len_seqK K) (by rfl) B.len (by decide +kernel) (pa_cons (pv 0) pa_nil)) pe_int) pa_nil)) (pg_name (i := 5) sc_law_climb.nd rfl (.inl rfl))
    (pss_cons (ps_set (i := 6) sc_law_climb.nd rfl (.inl rfl) pe_bl)
    (pss_cons (ps_for PassesOwn.never rfl (pi_listK K (pv 1)) (pg_tupK K (n := 4) rfl (pgs_cons (pg_name (i := 7) sc_law_climb.nd rfl (.inl rfl)) (pgs_cons (pg_name (i := 8) sc_law_climb.nd rfl (.inl rfl)) (pgs_cons (pg_name (i := 9) sc_law_climb.nd rfl (.inl rfl)) (pgs_cons (pg_name (i := 10) sc_law_climb.nd rfl (.inl rfl)) pgs_nil)))))
    (pss_one (ps_if (pt_cmp (pc_din hu (pv 7) (pv 4))) (pss_cons (ps_set (i := 11) sc_law_climb.nd rfl (.inl rfl) (pe_op (op_sub) (pe_op (op_add) (pe_dget hu (pv 4) (pv 7) (fun _ _ => rfl)) (pe_op (op_mul) (pv 3) (pv 9))) (pe_op (op_mul) (pv 2) (pv 10))))
    (pss_one (ps_if (PW.pt (pw_or (pt_cmp (pc_dnotin hu (pv 8) (pv 4))) (pw_or1 (pt_cmpR op_lt (pe_dget hu (pv 4) (pv 8) (fun _ _ => rfl)) (pv 11) (nomark _))))) (pss_cons (ps_dput hu (pv 4) (pv 8) (pv 11) rfl)
    (pss_one (ps_set (i := 6) sc_law_climb.nd rfl (.inl rfl) pe_bl))) pss_nil))) pss_nil)))
    (pss_one (ps_if (pt_not (pt_val (pv 6))) (pss_one (ps_ret (pv 4))) pss_nil)))))
    (pss_one (ps_ret pe_non)))), ?_⟩
    have gi := gr.gi
    have hfew := gi.few gd
    have ok := gr.eok
    obtain ⟨pe, xs, rfl, hx1, hx2⟩ := re
    have hpe : LsAt eLed H pe st.2 := ⟨xs, hx1, hx2⟩
    refine q_asgD (d := [(([], []), 0)]) (ev_disp (fun H1 _ => er_tup2 (er_str (t := []) (by decide +kernel)) (er_str (t := []) (by decide +kernel))) (fun H1 _ => er_int) H (Ex.refl H)) fun d H1 hd k1 h1 => ?_
    have nd : d ≠ pe := fun z => by rw [z, hx1] at hd; cases hd
    have ntd : ∀ {H : Hp} {D : Dc}, H d = some (.dT (encD D)) → ∃ o, H d = some o ∧ ∀ xs, o ≠ .tup xs := fun h => ⟨_, h, fun _ q => nomatch q⟩
    have hl0 : (hs0 st.1.length).length = st.1.length := by unfold hs0; rw [List.length_set, List.length_replicate]
    refine q_for [d] (src_range1 (n := st.1.length + 1) (er_intN (er_add (er_lenL (er_var rfl ((eLs ePr).mono k1 rp))) er_int) (by rw [Int.natCast_add]; rfl)) (by omega)) (hidden (ntd h1) noA)
      (fun i σ' H' => ∃ (D : Dc) (hs : Hs) (ls : Ls) (ra : Option Nat) (z5 z6 z7 z8 z9 z10 z11 : Option V), σ' = [some vp, some (.ref pe), some (.int a), some (.int b), some (.ref d), z5, z6, z7, z8, z9, z10, z11] ∧ H' d = some (.dT (encD D)) ∧ DH st hs D ∧ hs.length = st.1.length ∧
        climbF a b st.2 (st.1.length + 1 - i) ra hs ls = climb a b st)
      (fun H2 k2 => ⟨_, hs0 st.1.length, ls0 st.1.length, none, none, none, none, none, none, none, none, rfl, k2 _ _ h1, dh0 gi, hl0, rfl⟩) ?_ ?_
    · rintro i x σ' H2 hx k2 ⟨D, hs, ls, ra, z5, z6, z7, z8, z9, z10, z11, rfl, hD, dh, hl, hc⟩ v H3 k3 rv
      have hi := get_len hx
      rw [List.length_range] at hi
      refine g_1 ?_
      have kB : Ex H H3 := ((ex_new1 k1 hd).trans k2).trans k3
      refine q_asgR (e := eBl) (x := false) er_bl fun v6 H4 k4 r6 => ?_
      cases r6
      have hD4 := k4 _ _ (k3 _ _ hD)
      have kB4 := kB.trans k4
      refine q_for [d] (src_at (e := eLed) (p := pe) (ev_var rfl) (hpe.mono kB4)) (hidden (ntd hD4) nd) (fun j σ' H' => ∃ (D : Dc) (z7 z8 z9 z10 z11 : Option V), σ' = [some vp, some (.ref pe), some (.int a), some (.int b), some (.ref d), some v, some (.bl (riseP a b st.2 hs ls j).2.2.isSome), z7, z8, z9, z10, z11] ∧
        H' d = some (.dT (encD D)) ∧ DH st (riseP a b st.2 hs ls j).1 D) (fun H5 k5 => ⟨D, _, _, _, _, _, rfl, k5 _ _ hD4, dh⟩) ?_ ?_
      · rintro j e σ' H5 hj k5 ⟨D1, z7, z8, z9, z10, z11, rfl, hD5, dh1⟩ v7 H6 k6 r7
        have hsrc := ok.src e (List.mem_of_getElem? hj)
        have hdst := ok.dst e (List.mem_of_getElem? hj)
        have hed := gi.edge e (List.mem_of_getElem? hj)
        have hlen := riseF_len a b (st.2.take j) 0 (hs, ls, none)
        have hl1 : (riseP a b st.2 hs ls j).1.length = st.1.length := hlen.1.trans hl
        have hD6 := k6 _ _ hD5
        rw [riseP_next hj]
        generalize riseP a b st.2 hs ls j = s1 at *
        have r7' : (e4 ePr ePr eInt eInt).R H6 v7 (e.one, e.other, e.gain, e.loss) := r7
        refine g_4 r7' fun y7 y8 y9 y10 q7 q8 q9 q10 => ?_
        have l1 := dh1.look _ _ hed.1
        have l2 := dh1.look _ _ hed.2.1
        have eD : ∀ {H7 : Hp} {z : Option V}, Ex H6 H7 → EvR eDc (tVar 4) [some vp, some (.ref pe), some (.int a), some (.int b), some (.ref d), some v, some (.bl s1.2.2.isSome), some y7, some y8, some y9, some y10, z] H7 D1 := fun k => er_var rfl ⟨d, rfl, k _ _ hD6⟩
        refine s_when (et_rB (er_din (eD (Ex.refl _)) (er_var rfl q7))) (fun hb1 H7 k7 => ?_) (fun hb1 H7 k7 => ?_)
        · cases hx0 : s1.1.getD e.src none with
          | none => rw [l1, hx0] at hb1; exact absurd hb1 (by decide)
          | some x0 =>
            rw [hx0] at l1
            refine q_asgR (e := eInt) (x := x0 + wt a b e) ((er_sub (er_add (er_dget (eD k7) (er_var rfl (ePr.mono k7 q7)) l1) (er_mul (er_var (e := eInt) (x := b) rfl rfl) (er_var rfl (eInt.mono k7 q9)) (cmulL hb))) (er_mul (er_var (e := eInt) (x := a) rfl rfl) (er_var rfl (eInt.mono k7 q10)) (cmulL ha))).is (Int.add_sub_assoc _ _ _)) fun v8 H8 k8 r8 => ?_
            cases r8
            have k68 := k7.trans k8
            have dl := dh1.len
            refine s_when (et_is (et_or (et_rB (er_dnotin (eD k68) (er_var rfl (ePr.mono k68 q8)))) (b := decide ((lookD D1 e.other).getD 0 < x0 + wt a b e)) fun hn => et_r (er_lt (er_dget (eD k68) (er_var rfl (ePr.mono k68 q8)) ?_) (er_var (e := eInt) rfl rfl))) (b := (s1.1.getD e.dst none).isNone || decide ((s1.1.getD e.dst none).getD 0 < x0 + wt a b e)) ?_) (fun hb2 H9 k9 => ?_) (fun hb2 H9 k9 => ?_)
            · cases hq : lookD D1 e.other with
              | none => rw [hq] at hn; exact absurd hn (by decide)
              | some y => rfl
            · rw [l2]
              cases s1.1.getD e.dst none <;> rfl
            · have k69 := k68.trans k9
              refine q_dput (er_var (e := eInt) (x := x0 + wt a b e) rfl rfl) (ev_var rfl) (er_var rfl (ePr.mono k69 q8)) (k69 _ _ hD6) (by omega) fun H10 k10 h10 => ?_
              refine s_asgR (e := eBl) (x := true) er_bl fun v11 H11 k11 r11 => ?_
              cases r11
              rw [rise1_some hx0, if_pos hb2]
              exact ⟨((ex_hid _ (k6.trans k69)).trans k10).trans k11, _, _, _, _, _, _, rfl, k11 _ _ h10, dh1.put gi.nd hed.2.1 (by omega)⟩
            · rw [rise1_some hx0, if_neg (by rw [hb2]; decide)]
              exact ⟨ex_unhid (k6.trans (k68.trans k9)), D1, _, _, _, _, _, rfl, (k68.trans k9) _ _ hD6, dh1⟩
        · have hx0 : s1.1.getD e.src none = none := by
            rw [← l1]
            cases hq : lookD D1 e.one with
            | none => rfl
            | some y => rw [hq] at hb1; exact absurd hb1 (by simp)
          rw [rise1_none hx0]
          exact ⟨ex_unhid (k6.trans k7), D1, _, _, _, _, _, rfl, k7 _ _ hD6, dh1⟩
      · rintro σ' H5 k5 ⟨D1, z7, z8, z9, z10, z11, rfl, hD5, dh1⟩
        have e1 : riseP a b st.2 hs ls st.2.length = rise a b st.2 hs ls := by
          unfold riseP
          rw [List.take_length]
          rfl
        rw [e1] at dh1 ⊢
        have hlen := riseF_len a b st.2 0 (hs, ls, none)
        have kB5 : Ex H H5 := (ex_base kB4 (by intro x hx; rw [List.mem_singleton.mp hx]; exact hd)).trans k5
        rw [show st.1.length + 1 - i = (st.1.length + 1 - (i + 1)) + 1 by omega] at hc
        unfold climbF at hc
        refine s_when (et_not (et_rB (er_var (e := eBl) (x := (rise a b st.2 hs ls).2.2.isSome) rfl rfl))) (fun hb1 H6 k6 => ?_) (fun hb1 H6 k6 => ?_)
        · have hn : (rise a b st.2 hs ls).2.2 = none := by
            cases hq : (rise a b st.2 hs ls).2.2 with
            | none => rfl
            | some y => rw [hq] at hb1; exact absurd hb1 (by simp)
          rw [if_pos hn] at hc
          refine s_retR (e := eRef d) (x := ()) (er_var rfl rfl) fun v7 H7 k7 r7 => ?_
          have r7 : v7 = .ref d := r7
          subst r7
          refine q _ H7 ((kB5.trans k6).trans k7) (fun z => ?_) fun _ => ⟨D1, ⟨d, rfl, (k6.trans k7) _ _ hD5⟩, ?_⟩
          · rw [← hc] at z; cases z
          · rw [← hc]; exact dh1
        · have hn : (rise a b st.2 hs ls).2.2 ≠ none := fun hq => by rw [hq] at hb1; exact absurd hb1 (by decide)
          rw [if_neg hn] at hc
          exact ⟨(ex_hid _ (k3.trans k4)).trans (k5.trans k6), D1, _, _, _, _, _, _, _, _, _, _, rfl, k6 _ _ hD5, dh1, hlen.1.trans hl, hc⟩
    · rintro σ' H2 k2 ⟨D, hs, ls, ra, z5, z6, z7, z8, z9, z10, z11, rfl, hD, dh, hl, hc⟩
      rw [List.length_range, Nat.sub_self] at hc
      unfold climbF at hc
      show Q V.non H2
      refine q _ H2 ((ex_new1 k1 hd).trans k2) (fun _ => rfl) fun z => ?_
      rw [← hc] at z; cases z
-- slots: 0=_law_words_here 1=_law_b 2=_law_heights 3=_law_found 4=_law_held 5=_law_tail
abbrev st_law_rest : Stmt := top 62
abbrev N_law_rest : List Str := ["_law_words_here", "_law_b", "_law_heights", "_law_found", "_law_held", "_law_tail"]
theorem sc_law_rest : FnScope N_law_rest ["_law_words_here", "_law_b", "_law_heights"] (defScope st_law_rest) := ⟨rfl, rfl, rfl, by decide +kernel, rfl, by decide +kernel, by decide +kernel⟩
def MaxR (ws : Ws) (b : Int) (D : Dc) (m : Int) : Prop := (∃ h x, ((h, []), x) ∈ D ∧ m = x + b * mcost ws h) ∧ ∀ h x, ((h, []), x) ∈ D → x + b * mcost ws h ≤ m
def sp_lrest : Sp := fun vs H Q _ => ∃ (va vc : V) (ws : Ws) (b : Int) (D : Dc), vs = [va, .int b, vc] ∧ eWs.R H va ws ∧ eDc.R H vc D ∧ Good ws ∧ (-1000 ≤ b ∧ b ≤ 1000) ∧ (D.map (·.1)).Nodup ∧ (∀ p ∈ D.map (·.1), Over ws p.1 ∧ p.1.length ≤ 1000) ∧ D.length ≤ 1000 ∧ (∃ h x, ((h, []), x) ∈ D) ∧
  ∀ v H' m, Ex H H' → MaxR ws b D m → eInt.R H' v m → Q v H'
theorem ok_lrest (B : Bl mg) (F : DefAt K mg "_law_rest" st_law_rest ["_law_words_here", "_law_b", "_law_heights"]) (c_law_sum : Cal P w K mg base "_law_sum" 1 ["_law_words_here", "_law_row"] sp_rowc) (c_law_match : Cal P w K mg base "_law_match" 1 ["_law_words_here", "_law_text_here"] sp_match) :
    Cal P w K mg base "_law_rest" 2 ["_law_words_here", "_law_b", "_law_heights"] sp_lrest := by
  refine F.cal sc_law_rest (fun vs H Q E h => ?_) (fun f cdv A outer s H vs Q E hr h => ?_)
  · obtain ⟨_, _, _, _, _, rfl, _⟩ := h; rfl
  · obtain ⟨va, vc, ws, b, D, rfl, ra, rD, gd, hb, nd, hov, hDl, hex, q⟩ := h
    have hu := huU hr
    refine ⟨_, (pss_cons (ps_set (i := 3) sc_law_rest.nd rfl (.inl rfl) (pe_lst pa_nil))
    (pss_cons (ps_lock (ps_for PassesOwn.never rfl (pi_keys (pv 2)) (pg_tupK K (n := 2) rfl (pgs_cons (pg_name (i := 4) sc_law_rest.nd rfl (.inl rfl)) (pgs_cons (pg_name (i := 5) sc_law_rest.nd rfl (.inl rfl)) pgs_nil)))
    (pss_one (ps_if (pt_cmpR op_eq (pv 5) pe_str (nomark _)) (pss_one (ps_expr (pe_bm PySem.F.plainAttrs_list PySem.F.slot_list_append PySem.F.type_list_append mt_append (pv 3) (pa_cons (pe_op (op_add) (pe_dget hu (pv 2) (pe_tup (pa_cons (pv 4) (pa_cons (pv 5) pa_nil))) (fun _ _ => rfl)) (pe_op (op_mul) (pv 1) (pe_cal c_law_sum hr (by decide) (by rfl) (pa_cons (pv 0) (pa_cons (pe_cal c_law_match hr (by decide) (by rfl) (pa_cons (pv 0) (pa_cons (pv 4) pa_nil))) pa_nil))))) pa_nil)))) pss_nil))))
    (pss_one (ps_ret (pe_callB (cr_maxK K rfl) (by rfl) B.max (by decide +kernel) (pa_cons (pv 3) pa_nil)))))), ?_⟩
    obtain ⟨d, rfl, hd⟩ := rD
    refine q_asgN (e := eInt) en_nil fun p H1 hp k1 r1 => ?_
    have hd1 := k1 _ _ hd
    have npd : p ≠ d := fun z => by rw [z, hd] at hp; cases hp
    refine ⟨d, .dT (encD D), hd1, trivial, fun od => ?_⟩
    have tL : TEx H1 (upd H1 d (.frz od (.dT (encD D)))) := tex_lock hd1 fun _ q => nomatch q
    have r1L : LsAt eInt (upd H1 d (.frz od (.dT (encD D)))) p [] := LsAt.other r1 hd1 (fun _ q => nomatch q) npd
    refine s_for [p] (src_keysT (ev_var rfl) upd_same) (hidden r1L.some npd) (fun i σ' H' => ∃ (z4 z5 : Option V), σ' = [some va, some (.int b), some (.ref d), some (.ref p), z4, z5] ∧ LsAt eInt H' p (((D.take i).filter (fun z => decide (z.1.2 = []))).map (fun z => z.2 + b * mcost ws z.1.1))) (fun H2 k2 => ⟨_, _, rfl, r1L.mono k2⟩) ?_ ?_
    · rintro i x σ' H2 hx k2 ⟨z4, z5, rfl, hL⟩ v H3 k3 rv
      rw [List.getElem?_map] at hx
      obtain ⟨z, hz, rfl⟩ := Option.map_eq_some_iff.mp hx
      have hi := get_len hz
      have hd2 : H2 d = some (.frz od (.dT (encD D))) := keep k2 upd_same (by simpa using npd.symm)
      have ra3 : eWs.R H3 va ws := Imm.imm (e := eWs) (((ex_tex k1).trans tL).trans ((tex_h k2 (fun a ha => by rw [List.mem_singleton.mp ha]; exact r1L.some)).trans (ex_tex k3))) ra
      have hzD := List.mem_of_getElem? hz
      have hzo := hov z.1 (List.mem_map.mpr ⟨z, hzD, rfl⟩)
      refine g_2 rv fun x4 x5 r4 r5 => ?_
      rw [filter_take hz, List.map_append]
      have hfl : (((D.take i).filter (fun z => decide (z.1.2 = []))).map (fun z => z.2 + b * mcost ws z.1.1)).length ≤ 1000 := by
        rw [List.length_map]
        refine Nat.le_trans (List.length_filter_le _ _) ?_
        rw [List.length_take]
        omega
      have hw := mt_words gd _ z.1.1 (Nat.le_refl _) hzo.1
      refine s_when (et_r (er_eqS (er_var rfl r5) (er_str (t := []) (by decide +kernel)))) (fun hb1 H4 k4 => ?_) (fun hb1 H4 k4 => ?_)
      · rw [if_pos hb1]
        have ra4 := eWs.mono k4 ra3
        refine s_appR (e := eInt) (x := z.2 + b * mcost ws z.1.1) (ev_var rfl) (hL.mono (k3.trans k4)) (er_add (er_dgetF (d := D) (p := (z.1.1, z.1.2)) (er_var rfl ⟨d, rfl, .inr ⟨od, (k3.trans k4) _ _ hd2⟩⟩) (er_tup2 (er_var rfl (eStr.mono k4 r4)) (er_var rfl (eStr.mono k4 r5))) (mem_look nd hzD))
          (er_mul (er_var (e := eInt) (x := b) rfl rfl) (er_call2 (er_var rfl ra4) (er_call2 (er_var rfl ra4) (er_var rfl (eStr.mono k4 r4)) ⟨gd, hzo.2, hzo.1⟩) ⟨gd, hw.1, by omega⟩) (cmulL hb))) (by omega) fun H5 k5 r5 => ?_
        exact ⟨(ex_hid _ (k3.trans k4)).trans k5, _, _, rfl, r5⟩
      · rw [hb1, if_neg (by decide), List.map_nil, List.append_nil]
        exact ⟨ex_unhid (k3.trans k4), _, _, rfl, hL.mono (k3.trans k4)⟩
    · rintro σ' H2 k2 ⟨z4, z5, rfl, hL⟩
      rw [List.length_map, List.take_length] at hL
      have hd2 : H2 d = some (.frz od (.dT (encD D))) := keep k2 upd_same (by simpa using npd.symm)
      refine ⟨hd2, ?_⟩
      have hL2 : LsAt eInt (upd H2 d (.dT (encD D))) p ((D.filter (fun z => decide (z.1.2 = []))).map (fun z => z.2 + b * mcost ws z.1.1)) := LsAt.other hL hd2 (fun _ q => nomatch q) npd
      have kF : Ex H (upd H2 d (.dT (encD D))) := (ex_new1 k1 hp).trans (unlock k2 hd1 (by simpa using npd.symm))
      have hne : ((D.filter (fun z => decide (z.1.2 = []))).map (fun z => -(z.2 + b * mcost ws z.1.1))) ≠ [] := by
        obtain ⟨h, x, hx⟩ := hex
        exact List.ne_nil_of_mem (List.mem_map.mpr ⟨_, List.mem_filter.mpr ⟨hx, decide_eq_true rfl⟩, rfl⟩)
      obtain ⟨m', hm', hmin⟩ := min_ex hne
      obtain ⟨z, hz, rfl⟩ := List.mem_map.mp hm'
      have hz2 := List.mem_filter.mp hz
      have ht : z.1.2 = [] := of_decide_eq_true hz2.2
      have hmax : ∀ y ∈ (D.filter (fun z => decide (z.1.2 = []))).map (fun z => z.2 + b * mcost ws z.1.1), y ≤ z.2 + b * mcost ws z.1.1 := fun y hy => by
        obtain ⟨u, hu, rfl⟩ := List.mem_map.mp hy
        have := hmin _ (List.mem_map.mpr ⟨u, hu, rfl⟩)
        omega
      refine s_retR (er_maxL (er_var rfl hL2.r) (List.mem_map.mpr ⟨z, hz, rfl⟩) hmax) fun v H3 k3 r3 => q v H3 _ (kF.trans k3) ⟨⟨z.1.1, z.2, ?_, rfl⟩, fun h x hx => hmax _ (List.mem_map.mpr ⟨_, List.mem_filter.mpr ⟨hx, decide_eq_true rfl⟩, rfl⟩)⟩ r3
      obtain ⟨⟨z1, z2⟩, z3⟩ := z
      have ht : z2 = [] := ht
      subst ht
      exact hz2.1
end
end K61

/-! K61L6: the law's stream. -/
namespace K61
open PySem PySem.Spec PyProof.Rows L2 Evl
/-- any value, as data -/
def eAny : Enc V := ⟨fun _ v x => v = x, fun _ h => h⟩
instance : Imm eAny := ⟨fun _ h => h⟩
/-- the law's stream -/
def StrAt (H : Hp) (s : Addr) : Prop := ∃ (scr : Addr) (ns : List Int) (cell k : Int), LsAt eAny H s [V.ref scr, V.int cell, V.int k] ∧ LsAt eInt H scr ns ∧ s ≠ scr ∧ 0 ≤ cell ∧ 0 ≤ k
theorem StrAt.mono {H H' : Hp} {s : Addr} (h : StrAt H s) (k : Ex H H') : StrAt H' s := let ⟨a, b, c, d, h1, h2, h3⟩ := h; ⟨a, b, c, d, h1.mono k, h2.mono k, h3⟩
theorem StrAt.nt {H : Hp} {s : Addr} (h : StrAt H s) : ∃ o, H s = some o ∧ ∀ xs, o ≠ .tup xs := let ⟨_, _, _, _, h1, _⟩ := h; h1.some
section
variable {σ : L2.St} {H : Hp} {te : TE} {K : PySem.W.Frag}
theorem er_anyV {i : Int} (h : EvR eAny te σ H (.int i)) : EvR eInt te σ H i := h.cast fun _ _ r => r
theorem er_anyI {i : Int} (h : EvR eInt te σ H i) : EvR eAny te σ H (.int i) := h.cast fun _ _ r => r
theorem er_anyL {α : Type} {e : Enc α} {a : Addr} {l : List α} (h : EvR eAny te σ H (.ref a)) (hl : LsAt e H a l) : EvR (eLs e) te σ H l := fun H1 k Q q => h H1 k _ fun v H2 k2 r => by
  have r : v = .ref a := r
  subst r
  exact q _ H2 k2 (hl.mono (k.trans k2)).r
end
section
variable {P : Program} {w : World} {K : PySem.W.Frag} {mg : Str → Option Value} {base : Heap}
-- slots: 0=_law_script
abbrev st_law_stream : Stmt := top 45
abbrev N_law_stream : List Str := ["_law_script"]
theorem sc_law_stream : FnScope N_law_stream ["_law_script"] (defScope st_law_stream) := ⟨rfl, rfl, rfl, by decide +kernel, rfl, by decide +kernel, by decide +kernel⟩
def sp_stream (K : PySem.W.Frag) : Sp := fun vs H Q _ => ∃ (a : Addr) (ns : List Int), vs = [.ref a] ∧ SqL K H a (ns.map V.int) ∧ ∀ s H', H s = none → Ex H H' → StrAt H' s → Q (.ref s) H'
theorem ok_lstream (B : Bl mg) (F : DefAt K mg "_law_stream" st_law_stream ["_law_script"]) : Cal P w K mg base "_law_stream" 1 ["_law_script"] (sp_stream K) := by
  refine F.cal sc_law_stream (fun vs H Q E h => ?_) (fun f cdv A outer s H vs Q E hr h => ?_)
  · obtain ⟨_, _, rfl, _⟩ := h; rfl
  · obtain ⟨a, ns, rfl, hS, q⟩ := h
    refine ⟨_, (pss_one (ps_ret (pe_lst (pa_cons (pe_callTy (call_list_ofK K) (by rfl) B.list (by decide +kernel) (pa_cons (pv 0) pa_nil)) (pa_cons pe_int (pa_cons pe_int pa_nil)))))), ?_⟩
    refine ⟨_, rfl, a, _, rfl, .inl hS, fun l hl => ⟨(show 3 ≤ sizeLine by decide), fun p hp => ?_⟩⟩
    have npl : p ≠ l := fun z => by rw [z, upd_same] at hp; cases hp
    have hp0 : H p = none := by rw [upd_ne npl] at hp; exact hp
    refine q p _ hp0 ((Ex.new hl).trans (Ex.new hp)) ⟨l, ns, 0, 0, ⟨_, upd_same, .cons rfl (.cons rfl (.cons rfl .nil))⟩, ⟨_, by rw [upd_ne npl.symm]; exact upd_same, ?_⟩, npl, Int.le_refl _, Int.le_refl _⟩
    have : ∀ ns : List Int, Paired (eInt.R (upd (upd H l (.lst (ns.map V.int))) p (.lst [.ref l, .int 0, .int 0]))) (ns.map V.int) ns := fun ns => by
      induction ns with
      | nil => exact .nil
      | cons x r ih => exact .cons rfl (paired_mono ih fun _ _ r => r)
    exact paired_mono (this ns) fun _ _ r => r
-- slots: 0=_law_stream_here 1=_law_many 2=_law_k 3=_law_cell 4=_law_digit
abbrev st_law_next : Stmt := top 46
abbrev N_law_next : List Str := ["_law_stream_here", "_law_many", "_law_k", "_law_cell", "_law_digit"]
theorem sc_law_next : FnScope N_law_next ["_law_stream_here", "_law_many"] (defScope st_law_next) := ⟨rfl, rfl, rfl, by decide +kernel, rfl, by decide +kernel, by decide +kernel⟩
def sp_next : Sp := fun vs H Q _ => ∃ (s : Addr) (m : Int), vs = [.ref s, .int m] ∧ StrAt H s ∧ 1 ≤ m ∧ m < 1073741824 ∧ ∀ d H', 0 ≤ d → d < m → Ex (hid H [s]) H' → StrAt H' s → Q (.int d) H'
theorem ok_lnext (B : Bl mg) (F : DefAt K mg "_law_next" st_law_next ["_law_stream_here", "_law_many"]) : Cal P w K mg base "_law_next" 1 ["_law_stream_here", "_law_many"] sp_next := by
  refine F.cal sc_law_next (fun vs H Q E h => ?_) (fun f cdv A outer s H vs Q E hr h => ?_)
  · obtain ⟨_, _, rfl, _⟩ := h; rfl
  · obtain ⟨s, m, rfl, hS, hm1, hm2, q⟩ := h
    refine ⟨_, (pss_cons (ps_if (pt_cmpR op_eq (pe_ix (ix_listK K) (pv 0) pe_int (fun _ _ => rfl)) pe_int (nomark _)) (pss_cons (ps_set (i := 2) sc_law_next.nd rfl (.inl rfl) (pe_ix (ix_listK K) (pv 0) pe_int (fun _ _ => rfl)))
    (pss_cons (ps_set (i := 3) sc_law_next.nd rfl (.inl rfl) (pe_op (op_add) pe_int (pv 2)))
    (pss_cons (ps_if (pt_cmpR op_lt (pv 2) (pe_callB (call_len_seqK K) (by rfl) B.len (by decide +kernel) (pa_cons (pe_ix (ix_listK K) (pv 0) pe_int (fun _ _ => rfl)) pa_nil)) (nomark _)) (pss_one (ps_set (i := 3) sc_law_next.nd rfl (.inl rfl) (pe_callB call_abs (by rfl) B.abs (by decide +kernel) (pa_cons (pe_ix (ix_listK K) (pe_ix (ix_listK K) (pv 0) pe_int (fun _ _ => rfl)) (pv 2) (fun _ _ => rfl)) pa_nil)))) pss_nil)
    (pss_cons (ps_if (pt_cmpR op_lt (pv 3) (pe_op (op_pow) pe_int pe_int) (nomark _)) (pss_cons (ps_set (i := 3) sc_law_next.nd rfl (.inl rfl) (pe_op (op_mod) (pe_callTy call_int1 (by rfl) B.int (by decide +kernel) (pa_cons (pe_op (op_add) (pe_op (op_add) (pe_op (op_mul) (pv 3) pe_int) (pe_op (op_mul) (pv 2) pe_int)) pe_int) pa_nil)) pe_int))
    (pss_one (ps_set (i := 3) sc_law_next.nd rfl (.inl rfl) (pe_op (op_add) (pe_op (op_mul) (pe_op (op_mod) (pe_callTy call_int1 (by rfl) B.int (by decide +kernel) (pa_cons (pe_op (op_add) (pe_op (op_mul) (pv 3) pe_int) pe_int) pa_nil)) pe_int) pe_int) (pv 3))))) pss_nil)
    (pss_cons (ps_asg (pv 3) (pg_sub (pv 0) pe_int set_list))
    (pss_one (ps_asg (pe_op (op_add) (pv 2) pe_int) (pg_sub (pv 0) pe_int set_list)))))))) pss_nil)
    (pss_cons (ps_set (i := 4) sc_law_next.nd rfl (.inl rfl) (pe_op (op_mod) (pe_callTy call_int1 (by rfl) B.int (by decide +kernel) (pa_cons (pe_ix (ix_listK K) (pv 0) pe_int (fun _ _ => rfl)) pa_nil)) (pv 1)))
    (pss_cons (ps_asg (pe_op (op_fdiv) (pe_ix (ix_listK K) (pv 0) pe_int (fun _ _ => rfl)) (pv 1)) (pg_sub (pv 0) pe_int set_list))
    (pss_one (ps_ret (pv 4)))))), ?_⟩
    obtain ⟨scr, ns, cell, k, hS, hN, hne, hc, hk⟩ := hS
    refine q_whenJ (et_r (er_eqI (er_anyV (er_ixLs (er_var rfl hS.r) er_int (atI_nat (j := 1) rfl))) er_int))
      (fun σ' H' => ∃ (z2 z3 : Option V) (cell' k' : Int), σ' = [some (.ref s), some (.int m), z2, z3, none] ∧ Ex (hid H [s]) H' ∧ LsAt eAny H' s [V.ref scr, V.int cell', V.int k'] ∧ LsAt eInt H' scr ns ∧ 0 ≤ cell' ∧ 0 ≤ k') ?_ ?_ ?_
    · rintro σ' H1 ⟨z2, z3, cell', k', rfl, k1, hS1, hN1, hc1, hk1⟩
      refine q_asgR (er_mod (er_int1 (er_anyV (er_ixLs (er_var rfl hS1.r) er_int (atI_nat (j := 1) rfl)))) (er_var (e := eInt) (x := m) rfl rfl) (by omega)) fun v4 H2 k2 r2 => ?_
      cases r2
      have hS2 := hS1.mono k2
      refine q_setR (e := eAny) (x := V.int (cell' / m)) (j := 1) (er_anyI (er_fdiv (er_anyV (er_ixLs (er_var rfl hS2.r) er_int (atI_nat (j := 1) rfl))) (er_var (e := eInt) (x := m) rfl rfl) ⟨by omega, hm2⟩)) (ev_var rfl) er_nat hS2 (by show 1 < 3; decide) fun H3 k3 r3 => ?_
      refine s_retR (e := eInt) (x := cell' % m) (er_var rfl rfl) fun v H4 k4 r4 => ?_
      cases r4
      refine q _ H4 (Int.emod_nonneg _ (by omega)) (Int.emod_lt_of_pos _ (by omega)) (((ex_rehid (k1.trans k2)).trans k3).trans k4) ⟨scr, ns, cell' / m, k', r3.mono k4, ?_, hne, Int.ediv_nonneg hc1 (by omega), hk1⟩
      exact ((hN1.mono k2).keep k3 (by simpa using hne.symm) (tex_h k3 fun a ha => by rw [List.mem_singleton.mp ha]; exact hS2.some)).mono k4
    · intro _ H1 k1 D' hJ
      have hS1 := hS.mono k1
      have hN1 := hN.mono k1
      refine q_asgR (er_anyV (er_ixLs (i := 2) (x := V.int k) (er_var rfl hS1.r) er_int (atI_nat (j := 2) rfl))) fun v2 H2 k2 r2 => ?_
      cases r2
      refine q_asgR (e := eInt) (x := 7 + k) (er_add er_int (er_var rfl rfl)) fun v3 H3 k3 r3 => ?_
      cases r3
      have k13 := k2.trans k3
      refine q_whenJ (et_r (er_lt (er_var (e := eInt) (x := k) rfl rfl) (er_lenL (er_anyL (er_ixLs (i := 0) (x := V.ref scr) (er_var rfl (hS1.mono k13).r) er_int (atI_nat (j := 0) rfl)) (hN1.mono k13)))))
        (fun σ' H' => ∃ c : Int, σ' = [some (.ref s), some (.int m), some (.int k), some (.int c), none] ∧ Ex H1 H' ∧ 0 ≤ c) ?_ ?_ ?_
      · rintro σ' H4 ⟨c, rfl, k4, hc4⟩
        refine q_whenJ (et_r (er_lt (er_var (e := eInt) (x := c) rfl rfl) (er_pow er_int er_int ⟨by decide, by decide, by decide⟩)))
          (fun σ' H' => ∃ c : Int, σ' = [some (.ref s), some (.int m), some (.int k), some (.int c), none] ∧ Ex H1 H' ∧ 0 ≤ c) ?_ ?_ ?_
        · rintro σ' H5 ⟨c, rfl, k5, hc5⟩
          have hS5 := hS1.mono k5
          have hN5 := hN1.mono k5
          refine q_setR (e := eAny) (x := V.int c) (j := 1) (er_anyI (er_var (e := eInt) (x := c) rfl rfl)) (ev_var rfl) er_nat hS5 (by show 1 < 3; decide) fun H6 k6 r6 => ?_
          have hN6 := hN5.keep k6 (by simpa using hne.symm) (tex_h k6 fun a ha => by rw [List.mem_singleton.mp ha]; exact hS5.some)
          refine s_setR (e := eAny) (x := V.int (k + 1)) (j := 2) (er_anyI (er_add (er_var (e := eInt) (x := k) rfl rfl) er_int)) (ev_var rfl) er_nat r6 (by show 2 < 3; decide) fun H7 k7 r7 => ?_
          have hN7 := hN6.keep k7 (by simpa using hne.symm) (tex_h k7 fun a ha => by rw [List.mem_singleton.mp ha]; exact r6.some)
          refine hJ _ _ ⟨_, _, c, k + 1, rfl, (ex_rehid ((ex_hid _ (k1.trans k5)).trans k6)).trans k7, r7, hN7, hc5, by omega⟩
        · intro _ H5 k5 D2 hJ2
          have hn1 : (0 : Int) ≤ (c * 48271 + k * 69621 + 11) % 2147483647 := Int.emod_nonneg _ (by decide)
          refine q_asgR (e := eInt) (x := (c * 48271 + k * 69621 + 11) % 2147483647) (er_mod (er_int1 (er_add (er_add (er_mul (er_var (e := eInt) (x := c) rfl rfl) er_int (.inr ⟨by decide, by decide⟩)) (er_mul (er_var (e := eInt) (x := k) rfl rfl) er_int (.inr ⟨by decide, by decide⟩))) er_int)) er_int (by decide)) fun v6 H6 k6 r6 => ?_
          cases r6
          generalize (c * 48271 + k * 69621 + 11) % 2147483647 = c1 at *
          have hn2 : (0 : Int) ≤ (c1 * 16807 + 13) % 2147483647 := Int.emod_nonneg _ (by decide)
          refine s_asgR (e := eInt) (x := (c1 * 16807 + 13) % 2147483647 * 65537 + c1) (er_add (er_mul (er_mod (er_int1 (er_add (er_mul (er_var (e := eInt) (x := c1) rfl rfl) er_int (.inr ⟨by decide, by decide⟩)) er_int)) er_int (by decide)) er_int (.inr ⟨by decide, by decide⟩)) (er_var (e := eInt) (x := c1) rfl rfl)) fun v7 H7 k7 r7 => ?_
          cases r7
          exact hJ2 _ _ ⟨_, rfl, ((k4.trans k5).trans k6).trans k7, by omega⟩
        · intro _ H5 k5
          exact ⟨c, rfl, k4.trans k5, hc4⟩
      · intro hb H4 k4 D2 hJ2
        have hkn : k.toNat < ns.length := by have := of_decide_eq_true hb; omega
        have k14 := k13.trans k4
        refine s_asgR (e := eInt) (x := if ns[k.toNat] < 0 then -ns[k.toNat] else ns[k.toNat]) (er_abs (er_ixLs (er_anyL (er_ixLs (i := 0) (x := V.ref scr) (er_var rfl (hS1.mono k14).r) er_int (atI_nat (j := 0) rfl)) (hN1.mono k14)) (er_var (e := eInt) (x := k) rfl rfl) ?_)) fun v5 H5 k5 r5 => ?_
        · have := atI_nat (xs := ns) (j := k.toNat) (v := ns[k.toNat]) (List.getElem?_eq_getElem hkn)
          rw [Int.toNat_of_nonneg hk] at this
          exact this
        · cases r5
          exact hJ2 _ _ ⟨_, rfl, k14.trans k5, by split <;> omega⟩
      · intro _ H4 k4
        exact ⟨7 + k, rfl, k13.trans k4, by omega⟩
    · intro _ H1 k1
      exact ⟨none, none, cell, k, rfl, ex_unhid k1, hS.mono k1, hN.mono k1, hc, hk⟩
-- slots: 0=_law_actual
abbrev st_law_is_integer : Stmt := top 47
abbrev N_law_is_integer : List Str := ["_law_actual"]
theorem sc_law_is_integer : FnScope N_law_is_integer ["_law_actual"] (defScope st_law_is_integer) := ⟨rfl, rfl, rfl, by decide +kernel, rfl, by decide +kernel, by decide +kernel⟩
theorem ok_lint (B : Bl mg) (F : DefAt K mg "_law_is_integer" st_law_is_integer ["_law_actual"]) : Cal P w K mg base "_law_is_integer" 1 ["_law_actual"] sp_integer := by
  refine F.cal sc_law_is_integer (fun vs H Q E h => ?_) (fun f cdv A outer s H vs Q E hr h => ?_)
  · obtain ⟨_, _, rfl, _⟩ := h; rfl
  · obtain ⟨va, x, rfl, ra, _, q⟩ := h
    refine ⟨_, (pss_one (ps_ret (pe_and (pe_callB (call_isiK' K) (by rfl) B.isinstance (by decide +kernel) (pa_cons (pv 0) (pa_cons (pe_bltn (v := .ty "int") (by rfl) B.int (by decide +kernel) rfl) pa_nil))) (pe_one (pe_not (pe_callB (call_isiK' K) (by rfl) B.isinstance (by decide +kernel) (pa_cons (pv 0) (pa_cons (pe_bltn (v := .ty "bool") (by rfl) B.bool (by decide +kernel) rfl) pa_nil)))))))), ?_⟩
    exact s_retR (er_and (er_isi (er_var rfl ra) (fun _ _ r => ty_int r) (r := true) (by decide +kernel)) fun _ => er_not (er_isi (er_var rfl ra) (fun _ _ r => ty_int r) (r := false) (by decide +kernel))) q
-- slots: 0=_law_actual* 1=_law_due* 2=_law_at
abbrev st_law_equal : Stmt := top 48
abbrev N_law_equal : List Str := ["_law_actual", "_law_due", "_law_at"]
theorem sc_law_equal : FnScope N_law_equal ["_law_actual", "_law_due"] (defScope st_law_equal) := ⟨rfl, rfl, rfl, by decide +kernel, rfl, by decide +kernel, by decide +kernel⟩
/-- a promise to nobody -/
def spNo : Sp := fun _ _ _ _ => False
abbrev sp_lequal : Sp := Pu2 eBl eBl eBl (fun _ _ => True) (fun x y => decide (x = y))
theorem ok_lequal0 (F : DefAt K mg "_law_equal" st_law_equal ["_law_actual", "_law_due"]) : Cal P w K mg base "_law_equal" 1 ["_law_actual", "_law_due"] spNo := by
  refine F.cal sc_law_equal (fun vs H Q E h => h.elim) (fun f cdv A outer s H vs Q E hr h => h.elim)
theorem ok_lequal (B : Bl mg) (F : DefAt K mg "_law_equal" st_law_equal ["_law_actual", "_law_due"]) (c_law_is_integer : Cal P w K mg base "_law_is_integer" 1 ["_law_actual"] sp_integer) (c_law_equal : Cal P w K mg base "_law_equal" 1 ["_law_actual", "_law_due"] spNo) :
    Cal P w K mg base "_law_equal" 2 ["_law_actual", "_law_due"] sp_lequal := by
  refine F.cal sc_law_equal (fun vs H Q E h => ?_) (fun f cdv A outer s H vs Q E hr h => ?_)
  · obtain ⟨_, _, _, _, rfl, _⟩ := h; rfl
  · obtain ⟨va, vb, x, y, rfl, ra, rb, _, q⟩ := h
    refine ⟨_, (pss_cons (ps_if (pt_cmpR op_isN (pv 1) pe_non (nomark _)) (pss_one (ps_ret (pe_cmpR op_isN (pv 0) pe_non (nomark _)))) pss_nil)
    (pss_cons (ps_if (pt_val (pe_callB (call_isiK' K) (by rfl) B.isinstance (by decide +kernel) (pa_cons (pv 1) (pa_cons (pe_bltn (v := .ty "bool") (by rfl) B.bool (by decide +kernel) rfl) pa_nil)))) (pss_one (ps_ret (pe_and (pe_callB (call_isiK' K) (by rfl) B.isinstance (by decide +kernel) (pa_cons (pv 0) (pa_cons (pe_bltn (v := .ty "bool") (by rfl) B.bool (by decide +kernel) rfl) pa_nil))) (pe_one (pe_cmpR op_eq (pv 0) (pv 1) (nomark _)))))) pss_nil)
    (pss_cons (ps_if (pt_val (pe_callB (call_isiK' K) (by rfl) B.isinstance (by decide +kernel) (pa_cons (pv 1) (pa_cons (pe_bltn (v := .ty "int") (by rfl) B.int (by decide +kernel) rfl) pa_nil)))) (pss_one (ps_ret (pe_and (pe_cal c_law_is_integer hr (by decide) (by rfl) (pa_cons (pv 0) pa_nil)) (pe_one (pe_cmpR op_eq (pv 0) (pv 1) (nomark _)))))) pss_nil)
    (pss_cons (ps_if (pt_val (pe_callB (call_isiK' K) (by rfl) B.isinstance (by decide +kernel) (pa_cons (pv 1) (pa_cons (pe_bltn (v := .ty "str") (by rfl) B.str (by decide +kernel) rfl) pa_nil)))) (pss_one (ps_ret (pe_and (pe_callB (call_isiK' K) (by rfl) B.isinstance (by decide +kernel) (pa_cons (pv 0) (pa_cons (pe_bltn (v := .ty "str") (by rfl) B.str (by decide +kernel) rfl) pa_nil))) (pe_one (pe_cmpR op_eq (pv 0) (pv 1) (nomark _)))))) pss_nil)
    (pss_cons (ps_if (PW.pt (pw_and (pt_val (pe_callB (call_isiK' K) (by rfl) B.isinstance (by decide +kernel) (pa_cons (pv 1) (pa_cons (pe_bltn (v := .ty "tuple") (by rfl) B.tuple (by decide +kernel) rfl) pa_nil)))) (pw_and1 (pt_not (pt_val (pe_callB (call_isiK' K) (by rfl) B.isinstance (by decide +kernel) (pa_cons (pv 0) (pa_cons (pe_bltn (v := .ty "tuple") (by rfl) B.tuple (by decide +kernel) rfl) pa_nil)))))))) (pss_one (ps_ret pe_bl)) pss_nil)
    (pss_cons (ps_if (PW.pt (pw_and (pt_val (pe_callB (call_isiK' K) (by rfl) B.isinstance (by decide +kernel) (pa_cons (pv 1) (pa_cons (pe_bltn (v := .ty "list") (by rfl) B.list (by decide +kernel) rfl) pa_nil)))) (pw_and1 (pt_not (pt_val (pe_callB (call_isiK' K) (by rfl) B.isinstance (by decide +kernel) (pa_cons (pv 0) (pa_cons (pe_bltn (v := .ty "list") (by rfl) B.list (by decide +kernel) rfl) pa_nil)))))))) (pss_one (ps_ret pe_bl)) pss_nil)
    (pss_cons (ps_if (pt_cmpR op_ne (pe_callB (call_len_seqK K) (by rfl) B.len (by decide +kernel) (pa_cons (pv 0) pa_nil)) (pe_callB (call_len_seqK K) (by rfl) B.len (by decide +kernel) (pa_cons (pv 1) pa_nil)) (nomark _)) (pss_one (ps_ret pe_bl)) pss_nil)
    (pss_one (ps_ret (pe_callB (cr_allK K rfl) (by rfl) B.all (by decide +kernel) (pa_cons (pe_lc (own := [("_law_at", 2)]) rfl sc_law_equal.nd (pi_range1 (by rfl) B.range (pa_cons (pe_callB (call_len_seqK K) (by rfl) B.len (by decide +kernel) (pa_cons (pv 1) pa_nil)) pa_nil)) (blkOk_by (own := [("_law_at", 2)]) (N := N_law_equal) (sc := defScope st_law_equal) (by decide +kernel)) (fun _ _ _ _ _ => (pg_name (i := 2) sc_law_equal.nd rfl (.inl rfl))) (fun _ _ _ _ _ => pts_nil) (fun _ _ _ _ _ => (pe_cal c_law_equal hr (by decide) (by rfl) (pa_cons (pe_ix (ix_listK K) (pv 0) (pv 2) (fun _ _ => rfl)) (pa_cons (pe_ix (ix_listK K) (pv 1) (pv 2) (fun _ _ => rfl)) pa_nil))))) pa_nil))))))))))), ?_⟩
    refine q_when (et_r (er_isN (er_someI (er_var rfl rb) nn_bl))) (fun hb => absurd hb (by simp)) fun _ H1 k1 => ?_
    refine q_when (et_rB (er_isi (er_var rfl rb) (fun _ _ r => ty_bl r) (r := true) (by decide +kernel))) (fun _ H2 k2 => ?_) fun hb => absurd hb (by decide)
    refine s_retR (e := eBl) (x := true && decide (x = y)) ?_ fun v H3 k3 r => q v H3 ((k1.trans k2).trans k3) (by rw [Bool.true_and] at r; exact r)
    exact er_and (er_isi (er_var rfl (eBl.mono (k1.trans k2) ra)) (fun _ _ r => ty_bl r) (r := true) (by decide +kernel)) fun _ => er_eqB (er_var rfl (eBl.mono (k1.trans k2) ra)) (er_var rfl (eBl.mono (k1.trans k2) rb))
-- slots: 0=_law_stream_here
abbrev st_law_cost : Stmt := top 49
abbrev N_law_cost : List Str := ["_law_stream_here"]
theorem sc_law_cost : FnScope N_law_cost ["_law_stream_here"] (defScope st_law_cost) := ⟨rfl, rfl, rfl, by decide +kernel, rfl, by decide +kernel, by decide +kernel⟩
def sp_lcost : Sp := fun vs H Q _ => ∃ (s : Addr), vs = [.ref s] ∧ StrAt H s ∧ ∀ c H', 1 ≤ c → c ≤ 9 → Ex (hid H [s]) H' → StrAt H' s → Q (.int c) H'
theorem ok_lcost (B : Bl mg) (F : DefAt K mg "_law_cost" st_law_cost ["_law_stream_here"]) (c_law_next : Cal P w K mg base "_law_next" 1 ["_law_stream_here", "_law_many"] sp_next) : Cal P w K mg base "_law_cost" 2 ["_law_stream_here"] sp_lcost := by
  refine F.cal sc_law_cost (fun vs H Q E h => ?_) (fun f cdv A outer s H vs Q E hr h => ?_)
  · obtain ⟨_, rfl, _⟩ := h; rfl
  · obtain ⟨s, rfl, hS, q⟩ := h
    refine ⟨_, (pss_one (ps_ret (pe_ix (ix_listK K) (pe_lst (pa_cons pe_int (pa_cons pe_int (pa_cons (pe_op (op_add) pe_int (pe_cal c_law_next hr (by decide) (by rfl) (pa_cons (pv 0) (pa_cons pe_int pa_nil)))) (pa_cons (pe_op (op_add) pe_int (pe_cal c_law_next hr (by decide) (by rfl) (pa_cons (pv 0) (pa_cons pe_int pa_nil)))) pa_nil))))) (pe_cal c_law_next hr (by decide) (by rfl) (pa_cons (pv 0) (pa_cons pe_int pa_nil))) (fun _ _ => rfl)))), ?_⟩
    refine ⟨_, rfl, s, 3, rfl, hS, by decide, by decide, fun d1 H1 h10 h11 k1 hS1 => ⟨_, _, rfl, rfl, ?_⟩⟩
    refine ⟨_, rfl, s, 9, rfl, hS1, by decide, by decide, fun d2 H2 h20 h21 k2 hS2 => ⟨_, _, rfl, rfl, (by decide : 4 ≤ sizeLine), fun p hp => ?_⟩⟩
    have nps : p ≠ s := fun z => by obtain ⟨o, ho, _⟩ := hS2.nt; rw [z, ho] at hp; cases hp
    have kp := Ex.new (H := H2) (p := p) (o := .lst [.int 1, .int 1, .int (1 + d1), .int (1 + d2)]) hp
    refine ⟨_, rfl, s, 4, rfl, hS2.mono kp, by decide, by decide, fun d3 H3 h30 h31 k3 hS3 => ?_⟩
    have hl : LsAt eInt H3 p [1, 1, 1 + d1, 1 + d2] := LsAt.keep (H := upd H2 p (.lst [.int 1, .int 1, .int (1 + d1), .int (1 + d2)])) ⟨_, upd_same, .cons rfl (.cons rfl (.cons rfl (.cons rfl .nil)))⟩ k3 (by simpa using nps) (tex_h k3 fun a ha => by rw [List.mem_singleton.mp ha]; exact (hS2.mono kp).nt)
    have kB : Ex (hid H [s]) H3 := (ex_rehid (((ex_rehid k1).trans k2).trans kp)).trans k3
    have fin : ∀ x : Int, atI [1, 1, 1 + d1, 1 + d2] d3 = some x → 1 ≤ x → x ≤ 9 → tOp (rIxL K) (tC (.ref p)) (tC (.int d3)) [] H3 Q := fun x hx h1 h9 =>
      er_ixLs (K := K) (e := eInt) (er_ev (te := tC (.ref p)) (fun H1 k Q q => q H1 (Ex.refl _)) hl.r) (er_int (i := d3)) hx H3 (Ex.refl _) Q fun v H4 k4 r4 => by
        cases r4
        exact q x H4 h1 h9 (kB.trans k4) (hS3.mono k4)
    have h4 : d3 = 0 ∨ d3 = 1 ∨ d3 = 2 ∨ d3 = 3 := by omega
    rcases h4 with rfl | rfl | rfl | rfl
    · exact fin 1 (atI_nat (j := 0) rfl) (by decide) (by decide)
    · exact fin 1 (atI_nat (j := 1) rfl) (by decide) (by decide)
    · exact fin (1 + d1) (atI_nat (j := 2) rfl) (by omega) (by omega)
    · exact fin (1 + d2) (atI_nat (j := 3) rfl) (by omega) (by omega)
end
end K61

/-! K61L7: the law's words and text. -/
namespace K61
open PySem PySem.Spec PyProof.Rows L2 Evl
theorem StrAt.other {H : Hp} {s d : Addr} {o : HO} {D : List (Key × V)} (h : StrAt H s) (hd : H d = some (.dK D)) : StrAt (upd H d o) s ∧ s ≠ d := by
  obtain ⟨scr, ns, cell, k, h1, h2, h3⟩ := h
  have n1 : s ≠ d := fun z => by obtain ⟨xs, hx, _⟩ := h1; rw [z, hd] at hx; cases hx
  have n2 : scr ≠ d := fun z => by obtain ⟨xs, hx, _⟩ := h2; rw [z, hd] at hx; cases hx
  exact ⟨⟨scr, ns, cell, k, h1.other hd (fun _ q => nomatch q) n1, h2.other hd (fun _ q => nomatch q) n2, h3⟩, n1⟩
/-- what the law's dict of words keeps -/
structure WI (L : Tx) (D : Ds) (n r : Nat) : Prop where
  nd : (D.map (·.1)).Nodup
  ok : ∀ z ∈ D, (1 ≤ z.1.length ∧ z.1.length ≤ 4) ∧ (∀ c ∈ z.1, c ∈ L) ∧ 1 ≤ z.2 ∧ z.2 ≤ 9
  len : D.length ≤ n
  room : ((D.map (·.1)).map (fun t => t.length - 1)).sum ≤ r
theorem wi0 (L : Tx) : WI L [] 0 0 := ⟨by simp, (fun z hz => by cases hz), Nat.le_refl _, Nat.le_refl _⟩
theorem WI.put {L : Tx} {D : Ds} {n r : Nat} {t : Tx} {c : Int} (h : WI L D n r) (ht : 1 ≤ t.length ∧ t.length ≤ 4) (hc : ∀ x ∈ t, x ∈ L) (h1 : 1 ≤ c) (h9 : c ≤ 9) : WI L (putS D t c) (n + 1) (r + (t.length - 1)) := by
  refine ⟨?_, fun z hz => ?_, Nat.le_trans (putS_len D t c) (Nat.succ_le_succ h.len), ?_⟩
  · rw [putS_keys]
    split
    · exact h.nd
    · rename_i hn
      rw [List.nodup_append]
      refine ⟨h.nd, by simp, fun a ha b hb => ?_⟩
      rw [List.mem_singleton.mp hb]
      exact fun e => hn (e ▸ ha)
  · rcases putS_mem hz with hz | rfl
    · exact h.ok z hz
    · exact ⟨ht, hc, h1, h9⟩
  · rw [putS_keys]
    split
    · exact Nat.le_trans h.room (Nat.le_add_right _ _)
    · rw [List.map_append, List.sum_append]
      show _ + ((t.length - 1) + 0) ≤ _
      have := h.room
      omega
theorem WI.mono {L : Tx} {D : Ds} {n r n' r' : Nat} (h : WI L D n r) (h1 : n ≤ n') (h2 : r ≤ r') : WI L D n' r' := ⟨h.nd, h.ok, Nat.le_trans h.len h1, Nat.le_trans h.room h2⟩
theorem putS_has (D : Ds) (p : Tx) (v : Int) : p ∈ (putS D p v).map (·.1) := by
  rw [putS_keys]
  split
  · assumption
  · simp
theorem putS_keep {D : Ds} {q : Tx} (p : Tx) (v : Int) (h : q ∈ D.map (·.1)) : q ∈ (putS D p v).map (·.1) := by
  rw [putS_keys]
  split
  · exact h
  · exact List.mem_append_left _ h
theorem good_of {L : Tx} {D : Ds} (h : WI L D 8 12) (hL : ∀ c ∈ L, 97 ≤ c ∧ c ≤ 99) (hne : L ≠ []) (hk : ∀ c ∈ L, [c] ∈ D.map (·.1)) : Good (sortBy pdW D) := by
  have hp := sortBy_perm pdW D
  have hm : ∀ e, e ∈ sortBy pdW D ↔ e ∈ D := fun e => hp.mem_iff
  have hn : ∀ t, t ∈ names (sortBy pdW D) ↔ t ∈ D.map (·.1) := fun t => (hp.map _).mem_iff
  refine ⟨sortW_asc h.nd, fun e he => (h.ok e ((hm e).mp he)).1, fun e he c hc => hL c ((h.ok e ((hm e).mp he)).2.1 c hc), fun e he c hc => (hn _).mpr (hk c ((h.ok e ((hm e).mp he)).2.1 c hc)),
    fun e he => (h.ok e ((hm e).mp he)).2.2, ?_, ?_, ?_⟩
  · intro z
    obtain ⟨c, hc⟩ := List.exists_mem_of_ne_nil _ hne
    have := (hn _).mpr (hk c hc)
    rw [z] at this
    cases this
  · rw [hp.length_eq]
    exact h.len
  · have e : ((sortBy pdW D).map (fun e => e.1.length - 1)).sum = (D.map (fun e => e.1.length - 1)).sum := (hp.map _).sum_nat
    rw [e]
    have := h.room
    rw [List.map_map] at this
    exact this
section
variable {α : Type} {K : PySem.W.Frag} {σ : L2.St} {H : Hp} {ta tb te : TE} {D : Ends} {tu tz : L2.TS} {g : TG} {sp : Sp} {E : XK} {t : TA}
theorem q_forCall (h : t σ H fun vs H1 => sp (vs ++ []) H1 (fun v H2 => tSeq (tFor (iRng1 (tCons (tC v) tNil)) g tu) tz D σ H2) E) : tSeq (tFor (iRng1 (tCons (tCall sp [] E t) tNil)) g tu) tz D σ H := h
theorem q_forCall2 {r : R2} {c : V} (h : t σ H fun vs H1 => sp (vs ++ []) H1 (fun v H2 => tSeq (tFor (iRng1 (tCons (tOp r (tC c) (tC v)) tNil)) g tu) tz D σ H2) E) : tSeq (tFor (iRng1 (tCons (tOp r (tC c) (tCall sp [] E t)) tNil)) g tu) tz D σ H := h
/-- a value made while a dict is locked -/
theorem en_lock {e : Enc α} [ie : Imm e] {l : List α} {d : Addr} {u : HO} (hd : H d = some u) (hm : Mut (some u)) (hn : ∀ xs, u ≠ .tup xs) (h : ∀ H1 od, Ex H H1 → EvN e te σ (upd H1 d (.frz od u)) l) : EvN e (tLockE te) σ H l := fun H1 k Q q =>
  ⟨d, u, k _ _ hd, hm, fun od => h H1 od k _ (Ex.refl _) _ fun p xs H2 hp k2 h2 h3 => by
    have npd : p ≠ d := fun z => by rw [z, upd_same] at hp; cases hp
    have hp1 : H1 p = none := by rw [upd_ne npd] at hp; exact hp
    have hd2 := k2 _ _ upd_same
    have hn2 : ∀ xs, HO.frz od u ≠ .tup xs := fun _ q => nomatch q
    refine ⟨hd2, q p xs _ hp1 ?_ (by rw [upd_ne npd]; exact h2) (paired_mono h3 fun _ _ r => ie.imm (tex_upd hd2 hn2) r)⟩
    have := unlock (ls := []) (f := .frz od u) (u := u) (by rw [hid_nil]; exact k2) (k _ _ hd) (by simp)
    rw [hid_nil] at this
    exact this⟩
end
def abc3 : Tx := [97, 98, 99]
section
variable {P : Program} {w : World} {K : PySem.W.Frag} {mg : Str → Option Value} {base : Heap}
-- slots: 0=_law_stream_here 1=_law_letters_here 2=_law_found* 3=_law_letter 4=_law_turn 5=_law_word 6=_law_k
abbrev st_law_words : Stmt := top 50
abbrev N_law_words : List Str := ["_law_stream_here", "_law_letters_here", "_law_found", "_law_letter", "_law_turn", "_law_word", "_law_k"]
theorem sc_law_words : FnScope N_law_words ["_law_stream_here"] (defScope st_law_words) := ⟨rfl, rfl, rfl, by decide +kernel, rfl, by decide +kernel, by decide +kernel⟩
def sp_lwords : Sp := fun vs H Q _ => ∃ (s : Addr), vs = [.ref s] ∧ StrAt H s ∧ ∀ v H' ws, Good ws → eWs.R H' v ws → Ex (hid H [s]) H' → StrAt H' s → Q v H'
theorem ok_lwords (B : Bl mg) (F : DefAt K mg "_law_words" st_law_words ["_law_stream_here"]) (c_law_next : Cal P w K mg base "_law_next" 1 ["_law_stream_here", "_law_many"] sp_next) (c_law_cost : Cal P w K mg base "_law_cost" 2 ["_law_stream_here"] sp_lcost) :
    Cal P w K mg base "_law_words" 3 ["_law_stream_here"] sp_lwords := by
  refine F.cal sc_law_words (fun vs H Q E h => ?_) (fun f cdv A outer s H vs Q E hr h => ?_)
  · obtain ⟨_, rfl, _⟩ := h; rfl
  · obtain ⟨s, rfl, hS, q⟩ := h
    have hu := huU hr
    refine ⟨_, (pss_cons (ps_set (i := 1) sc_law_words.nd rfl (.inl rfl) (pe_slice sl_str pe_str po_none (po_some (pe_op (op_add) pe_int (pe_cal c_law_next hr (by decide) (by rfl) (pa_cons (pv 0) (pa_cons pe_int pa_nil)))))))
    (pss_cons (ps_set (i := 2) sc_law_words.nd rfl (.inr rfl) pe_dnewK)
    (pss_cons (ps_for PassesOwn.never rfl (pi_str (pv 1)) (pg_name (i := 3) sc_law_words.nd rfl (.inl rfl))
    (pss_one (ps_dput hu (pv 2) (pv 3) (pe_cal c_law_cost hr (by decide) (by rfl) (pa_cons (pv 0) pa_nil)) rfl)))
    (pss_cons (ps_for PassesOwn.never rfl (pi_range1 (by rfl) B.range (pa_cons (pe_cal c_law_next hr (by decide) (by rfl) (pa_cons (pv 0) (pa_cons pe_int pa_nil))) pa_nil)) (pg_name (i := 4) sc_law_words.nd rfl (.inl rfl))
    (pss_cons (ps_set (i := 5) sc_law_words.nd rfl (.inl rfl) pe_str)
    (pss_cons (ps_for PassesOwn.never rfl (pi_range1 (by rfl) B.range (pa_cons (pe_op (op_add) pe_int (pe_cal c_law_next hr (by decide) (by rfl) (pa_cons (pv 0) (pa_cons pe_int pa_nil)))) pa_nil)) (pg_name (i := 6) sc_law_words.nd rfl (.inl rfl))
    (pss_one (ps_set (i := 5) sc_law_words.nd rfl (.inl rfl) (pe_op (op_add_str) (pv 5) (pe_ix ix_str (pv 1) (pe_cal c_law_next hr (by decide) (by rfl) (pa_cons (pv 0) (pa_cons (pe_callB call_len_str (by rfl) B.len (by decide +kernel) (pa_cons (pv 1) pa_nil)) pa_nil))) (fun _ _ => rfl))))))
    (pss_one (ps_dput hu (pv 2) (pv 5) (pe_cal c_law_cost hr (by decide) (by rfl) (pa_cons (pv 0) pa_nil)) rfl)))))
    (pss_one (ps_ret (pe_callTy (call_tuple_ofK K) (by rfl) B.tuple (by decide +kernel) (pa_cons (pe_callB (cr_sortedDK K hr) (by rfl) B.sorted (by decide +kernel) (pa_cons (pe_lock (pe_lc (own := [("_law_word", 5)]) rfl sc_law_words.nd (pi_keys (pv 2)) (blkOk_by (own := [("_law_word", 5)]) (N := N_law_words) (sc := defScope st_law_words) (by decide +kernel)) (fun _ _ _ _ _ => (pg_name (i := 5) sc_law_words.nd rfl (.inl rfl))) (fun _ _ _ _ _ => pts_nil) (fun _ _ _ _ _ => (pe_tup (pa_cons (pv 5) (pa_cons (pe_dget hu (pv 2) (pv 5) (fun _ _ => rfl)) pa_nil)))))) pa_nil)) pa_nil)))))))), ?_⟩
    refine ⟨_, rfl, s, 3, rfl, hS, by decide, by decide, fun d1 H1 h10 h11 k1 hS1 => ⟨_, _, rfl, rfl, ?_⟩⟩
    refine er_slS (σ := []) (x := abc3) (er_str (by decide +kernel)) eo_none (eo_r (er_int (i := 1 + d1))) (by decide) H1 (Ex.refl _) _ fun v1 H2 k2 r2 => ?_
    have hL : ∃ L : Tx, cutT abc3 none (some (1 + d1)) = L ∧ (∀ c ∈ L, 97 ≤ c ∧ c ≤ 99) ∧ L ≠ [] ∧ L.length ≤ 3 := by
      have h3 : d1 = 0 ∨ d1 = 1 ∨ d1 = 2 := by omega
      rcases h3 with rfl | rfl | rfl
      · exact ⟨[97], by decide, by decide, by decide, by decide⟩
      · exact ⟨[97, 98], by decide, by decide, by decide, by decide⟩
      · exact ⟨[97, 98, 99], by decide, by decide, by decide, by decide⟩
    obtain ⟨L, hLe, hLa, hLn, hLl⟩ := hL
    rw [hLe] at r2
    have r2 : v1 = .str (ss L) := r2
    subst r2
    have hS2 := hS1.mono k2
    have kA : Ex (hid H [s]) H2 := k1.trans k2
    refine q_dnew (tz := tSeq _ _) fun d H3 hd k3 h3 => ?_
    have hS3 := hS2.mono k3
    have nsd : ∀ {H : Hp} {D : Ds}, StrAt H s → H d = some (.dK (encS D)) → s ≠ d := fun h hd => (h.other (o := .lst []) hd).2
    have ntd : ∀ {H : Hp} {D : Ds}, StrAt H s → H d = some (.dK (encS D)) → ∀ a ∈ [s, d], (∃ o, H a = some o ∧ ∀ xs, o ≠ .tup xs) ∧ ¬ NoA a := fun h hd a ha => ⟨by
      simp only [List.mem_cons, List.not_mem_nil, or_false] at ha
      rcases ha with rfl | rfl
      · exact h.nt
      · exact ⟨_, hd, fun _ q => nomatch q⟩, noA⟩
    refine q_for [s, d] (src_str (er_var (e := eStr) (x := L) rfl rfl)) (ntd hS3 h3) (fun i σ' H' => ∃ (D : Ds) (z3 : Option V), σ' = [some (.ref s), some (.str (ss L)), some (.ref d), z3, none, none, none] ∧ StrAt H' s ∧ H' d = some (.dK (encS D)) ∧ WI L D i 0 ∧ ∀ c ∈ L.take i, [c] ∈ D.map (·.1))
      (fun H4 k4 => ⟨[], none, rfl, hS3.mono k4, k4 _ _ h3, wi0 L, fun c hc => by simp at hc⟩) ?_ ?_
    · rintro i c σ' H4 hx k4 ⟨D, z3, rfl, hS4, h4, wi, hk⟩ v5 H5 k5 r5
      have r5 : v5 = .str (ss [c]) := r5
      subst r5
      have hi := get_len hx
      have hcL := List.mem_of_getElem? hx
      refine g_1 ?_
      refine ⟨_, rfl, s, rfl, hS4.mono k5, fun x H6 hx1 hx9 k6 hS6 => ⟨_, rfl, _, rfl, d, _, rfl, DPut.k (k := kS [c]) (keep k6 (k5 _ _ h4) (by simpa using (nsd hS4 h4).symm)) (sz_lt (by unfold encS; rw [List.length_map]; have := wi.len; omega)), ?_⟩⟩
      have h6 : H6 d = some (.dK (encS D)) := keep k6 (k5 _ _ h4) (by simpa using (nsd hS4 h4).symm)
      refine ⟨Ex.mut ((ex_hid _ k5).trans (ex_wide (by simp) k6)) (hid_at (by simp)), putS D [c] x, _, rfl, (hS6.other h6).1, by rw [upd_same, put_encS], wi.put (t := [c]) ⟨(show 1 ≤ 1 by decide), (show 1 ≤ 4 by decide)⟩ (fun y hy => by rw [List.mem_singleton.mp hy]; exact hcL) hx1 hx9, fun y hy => ?_⟩
      rw [List.take_add_one, hx] at hy
      rcases List.mem_append.mp hy with hy | hy
      · exact putS_keep _ _ (hk y hy)
      · have : y = c := by simpa using hy
        rw [this]
        exact putS_has _ _ _
    · rintro σ' H4 k4 ⟨D0, z3, rfl, hS4, h4, wi, hk⟩
      rw [List.take_length] at hk
      have hd0 : hid H [s] d = none := fresh_back kA hd
      have fr : ∀ a ∈ [s, d], hid H [s] a = none := fun a ha => by
        simp only [List.mem_cons, List.not_mem_nil, or_false] at ha
        rcases ha with rfl | rfl
        · exact hid_at (by simp)
        · exact hd0
      have kB4 : Ex (hid H [s]) H4 := (ex_base (kA.trans k3) fr).trans k4
      refine q_forCall ⟨_, rfl, s, 5, rfl, hS4, by decide, by decide, fun d2 H5 h20 h21 k5 hS5 => ?_⟩
      have h5 := keep k5 h4 (by simpa using (nsd hS4 h4).symm)
      refine q_for [s, d] (src_range1 (n := d2.toNat) (er_intN (er_int (i := d2)) (by omega)) (by omega)) (ntd hS5 h5) (fun i σ' H' => ∃ (D : Ds) (z3 z4 z5 z6 : Option V), σ' = [some (.ref s), some (.str (ss L)), some (.ref d), z3, z4, z5, z6] ∧ StrAt H' s ∧ H' d = some (.dK (encS D)) ∧ WI L D (3 + i) (3 * i) ∧ ∀ c ∈ L, [c] ∈ D.map (·.1))
        (fun H6 k6 => ⟨D0, _, _, _, _, rfl, hS5.mono k6, k6 _ _ h5, wi.mono (by omega) (Nat.zero_le _), hk⟩) ?_ ?_
      · rintro i x σ' H6 hx k6 ⟨D, z3, z4, z5, z6, rfl, hS6, h6, wi, hk⟩ v7 H7 k7 r7
        have hi := get_len hx
        rw [List.length_range] at hi
        refine g_1 ?_
        refine q_asgR (e := eStr) (x := []) (er_str (by decide +kernel)) fun v8 H8 k8 r8 => ?_
        cases r8
        have hS8 := (hS6.mono k7).mono k8
        have h8 := k8 _ _ (k7 _ _ h6)
        refine q_forCall2 ⟨_, rfl, s, 3, rfl, hS8, by decide, by decide, fun d3 H9 h30 h31 k9 hS9 => ?_⟩
        have h9 := keep k9 h8 (by simpa using (nsd hS8 h8).symm)
        refine q_for [s] (src_range1 (n := (2 + d3).toNat) (er_intN (er_add (er_int (i := 2)) (er_int (i := d3))) (by omega)) (by omega)) (hidden hS9.nt noA) (fun j σ' H' => ∃ (wd : Tx) (z6 : Option V), σ' = [some (.ref s), some (.str (ss L)), some (.ref d), z3, some v7, some (.str (ss wd)), z6] ∧ StrAt H' s ∧ wd.length = j ∧ ∀ c ∈ wd, c ∈ L)
          (fun H10 k10 => ⟨[], _, rfl, hS9.mono k10, rfl, fun c hc => by cases hc⟩) ?_ ?_
        · rintro j y σ' H10 hj k10 ⟨wd, z6, rfl, hS10, hwl, hwL⟩ v11 H11 k11 r11
          have hj2 := get_len hj
          rw [List.length_range] at hj2
          refine g_1 ?_
          have hLpos : 1 ≤ L.length := List.length_pos_iff.mpr hLn
          refine ⟨_, rfl, _, rfl, _, rfl, _, rfl, ss L, rfl, by rw [ss_len]; exact sz_of (by omega), s, _, rfl, hS10.mono k11, by rw [ss_len]; omega, by rw [ss_len]; omega, fun d4 H12 h40 h41 k12 hS12 => ?_⟩
          rw [ss_len] at h41
          have hd4 : d4.toNat < L.length := by omega
          have hat := atI_nat (xs := L) (j := d4.toNat) (List.getElem?_eq_getElem hd4)
          rw [Int.toNat_of_nonneg h40] at hat
          refine ⟨ss L, d4, L[d4.toNat], rfl, rfl, by rw [ss_len]; exact sz_of (by omega), by rw [ss_list]; exact hat, ss wd, ss [L[d4.toNat]], rfl, rfl, by rw [ss_len, ss_len]; exact sz_of (by simp; omega), ?_⟩
          refine ⟨(ex_hid _ k11).trans k12, wd ++ [L[d4.toNat]], some v11, by rw [← ss_app]; rfl, hS12, by rw [List.length_append, hwl]; rfl, fun c hc => ?_⟩
          rcases List.mem_append.mp hc with hc | hc
          · exact hwL c hc
          · rw [List.mem_singleton.mp hc]; exact List.getElem_mem hd4
        · rintro σ' H10 k10 ⟨wd, z6, rfl, hS10, hwl, hwL⟩
          rw [List.length_range] at hwl
          have h10 : H10 d = some (.dK (encS D)) := keep k10 h9 (by simpa using (nsd hS9 h9).symm)
          refine ⟨_, rfl, s, rfl, hS10, fun x H11 hx1 hx9 k11 hS11 => ⟨_, rfl, _, rfl, d, _, rfl, DPut.k (k := kS wd) (keep k11 h10 (by simpa using (nsd hS10 h10).symm)) (sz_lt (by unfold encS; rw [List.length_map]; have := wi.len; omega)), ?_⟩⟩
          have h11 : H11 d = some (.dK (encS D)) := keep k11 h10 (by simpa using (nsd hS10 h10).symm)
          refine ⟨Ex.mut ?_ (hid_at (by simp)), putS D wd x, _, _, _, _, rfl, (hS11.other h11).1, by rw [upd_same, put_encS], (wi.put ⟨by omega, by omega⟩ hwL hx1 hx9).mono (by omega) (by omega), fun y hy => putS_keep _ _ (hk y hy)⟩
          have ka : Ex (hid H6 [s, d]) H9 := (ex_hid _ (k7.trans k8)).trans (ex_wide (by simp) k9)
          have kb : Ex (hid H6 [s, d]) H10 := (ex_rehid ka).trans (ex_wide (by simp) k10)
          exact (ex_rehid kb).trans (ex_wide (by simp) k11)
      · rintro σ' H6 k6 ⟨D, z3, z4, z5, z6, rfl, hS6, h6, wi, hk⟩
        rw [List.length_range] at wi
        have wi2 : WI L D 8 12 := wi.mono (by omega) (by omega)
        have gd := good_of wi2 hLa hLn hk
        have kB5 : Ex (hid H [s]) H5 := (ex_rehid kB4).trans k5
        have kB6 : Ex (hid H [s]) H6 := (ex_base kB5 fr).trans k6
        have eD : (D.map (·.1)).map (fun t => (t, (lookS D t).getD 0)) = D := by
          rw [List.map_map]
          have : ∀ z ∈ D, ((fun t => (t, (lookS D t).getD 0)) ∘ fun z : Tx × Int => z.1) z = id z := fun z hz => by
            show (z.1, (lookS D z.1).getD 0) = z
            rw [mem_lookS wi.nd (p := z.1) (x := z.2) hz]
            rfl
          rw [List.map_congr_left this, List.map_id]
        refine s_retR (e := eWs) (x := sortBy pdW D) (er_tupleL (EvN.r (en_sortedL pdW (dp_W K) alike_W (fun x => ⟨_, _, rfl⟩) dep_W (by have := wi2.len; omega) (EvN.r (en_lock h6 trivial (fun _ q => nomatch q) fun H7 od k7 =>
          (en_lcA (e := eStr) (e' := e2 eStr eInt) (fun t => (t, (lookS D t).getD 0)) (src_keysS (ev_var rfl) upd_same) (by rw [List.length_map]; have := wi2.len; omega) fun t v8 H8 ht k8 r8 Q q => g_1 (q _ rfl (er_tup2 (er_var rfl r8) (er_dgetS (d := D) (er_var rfl ⟨d, rfl, .inr ⟨od, k8 _ _ upd_same⟩⟩) (er_var rfl r8) ?_)))).is eD))))) fun v7 H7 k7 r7 => q v7 H7 _ gd r7 (kB6.trans k7) (hS6.mono k7)
        obtain ⟨z, hz, rfl⟩ := List.mem_map.mp ht
        rw [mem_lookS wi.nd (p := z.1) (x := z.2) hz]
        rfl
-- slots: 0=_law_stream_here 1=_law_words_here 2=_law_most 3=_law_letters_here 4=_law_text_here 5=_law_k
abbrev st_law_text : Stmt := top 52
abbrev N_law_text : List Str := ["_law_stream_here", "_law_words_here", "_law_most", "_law_letters_here", "_law_text_here", "_law_k"]
theorem sc_law_text : FnScope N_law_text ["_law_stream_here", "_law_words_here", "_law_most"] (defScope st_law_text) := ⟨rfl, rfl, rfl, by decide +kernel, rfl, by decide +kernel, by decide +kernel⟩
def sp_ltext : Sp := fun vs H Q _ => ∃ (s : Addr) (va : V) (ws : Ws) (n : Nat), vs = [.ref s, va, .int (n : Int)] ∧ StrAt H s ∧ eWs.R H va ws ∧ Good ws ∧ n ≤ 100 ∧ ∀ t H', Over ws t → t.length ≤ n → Ex (hid H [s]) H' → StrAt H' s → Q (.str (ss t)) H'
theorem ok_ltext (B : Bl mg) (F : DefAt K mg "_law_text" st_law_text ["_law_stream_here", "_law_words_here", "_law_most"]) (c_law_next : Cal P w K mg base "_law_next" 1 ["_law_stream_here", "_law_many"] sp_next) (c_law_letters : Cal P w K mg base "_law_letters" 1 ["_law_words_here"] sp_lletters) :
    Cal P w K mg base "_law_text" 2 ["_law_stream_here", "_law_words_here", "_law_most"] sp_ltext := by
  refine F.cal sc_law_text (fun vs H Q E h => ?_) (fun f cdv A outer s H vs Q E hr h => ?_)
  · obtain ⟨_, _, _, _, rfl, _⟩ := h; rfl
  · obtain ⟨s, va, ws, n, rfl, hS, ra, gd, hn, q⟩ := h
    refine ⟨_, (pss_cons (ps_set (i := 3) sc_law_text.nd rfl (.inl rfl) (pe_cal c_law_letters hr (by decide) (by rfl) (pa_cons (pv 1) pa_nil)))
    (pss_cons (ps_set (i := 4) sc_law_text.nd rfl (.inl rfl) pe_str)
    (pss_cons (ps_for PassesOwn.never rfl (pi_range1 (by rfl) B.range (pa_cons (pe_cal c_law_next hr (by decide) (by rfl) (pa_cons (pv 0) (pa_cons (pe_op (op_add) (pv 2) pe_int) pa_nil))) pa_nil)) (pg_name (i := 5) sc_law_text.nd rfl (.inl rfl))
    (pss_one (ps_set (i := 4) sc_law_text.nd rfl (.inl rfl) (pe_op (op_add_str) (pv 4) (pe_ix (ix_listK K) (pv 3) (pe_cal c_law_next hr (by decide) (by rfl) (pa_cons (pv 0) (pa_cons (pe_callB (call_len_seqK K) (by rfl) B.len (by decide +kernel) (pa_cons (pv 3) pa_nil)) pa_nil))) (fun _ _ => rfl))))))
    (pss_one (ps_ret (pv 4)))))), ?_⟩
    refine q_asgN (e := eStr) (l := lets1 ws) (en_call1 (er_var rfl ra) gd) fun p H1 hp k1 r1 => ?_
    refine q_asgR (e := eStr) (x := []) (er_str (by decide +kernel)) fun v4 H2 k2 r2 => ?_
    cases r2
    have hS2 := (hS.mono k1).mono k2
    have r12 := r1.mono k2
    have nps : p ≠ s := fun z => by obtain ⟨o, ho, _⟩ := hS.nt; rw [z, ho] at hp; cases hp
    have hll : (lets1 ws).length ≤ 8 := by unfold lets1; rw [List.length_map]; exact lets_len gd
    have hlp : 1 ≤ (lets1 ws).length := by
      obtain ⟨e, he⟩ := List.exists_mem_of_ne_nil _ gd.ne
      have h1 := (gd.len e he).1
      obtain ⟨c, hc⟩ := List.exists_mem_of_ne_nil e.1 (by intro z; rw [z] at h1; simp at h1)
      have h2 := mem_lets.mpr (gd.ltr e he c hc)
      unfold lets1
      rw [List.length_map]
      exact List.length_pos_of_mem h2
    refine q_forCall ⟨_, rfl, _, rfl, _, _, rfl, rfl, s, _, rfl, hS2, by omega, by omega, fun d H3 h0 h1 k3 hS3 => ?_⟩
    have r3 : LsAt eStr H3 p (lets1 ws) := r12.keep k3 (by simpa using nps) (tex_h k3 fun a ha => by rw [List.mem_singleton.mp ha]; exact hS2.nt)
    refine q_for [s] (src_range1 (n := d.toNat) (er_intN (er_int (i := d)) (by omega)) (by omega)) (hidden hS3.nt noA) (fun i σ' H' => ∃ (t : Tx) (z5 : Option V), σ' = [some (.ref s), some va, some (.int (n : Int)), some (.ref p), some (.str (ss t)), z5] ∧ StrAt H' s ∧ Over ws t ∧ t.length = i)
      (fun H4 k4 => ⟨[], none, rfl, hS3.mono k4, Over.nil, rfl⟩) ?_ ?_
    · rintro i x σ' H4 hx k4 ⟨t, z5, rfl, hS4, hto, htl⟩ v5 H5 k5 r5
      have hi := get_len hx
      rw [List.length_range] at hi
      refine g_1 ?_
      have r4 : LsAt eStr H4 p (lets1 ws) := r3.keep k4 (by simpa using nps) (tex_h k4 fun a ha => by rw [List.mem_singleton.mp ha]; exact hS3.nt)
      have r5 := r4.mono k5
      obtain ⟨xs, hx1, hx2⟩ := id r5
      have hxl := paired_len hx2
      refine ⟨_, rfl, _, rfl, _, rfl, _, rfl, p, xs, rfl, .inl (SqL.of hx1), s, _, rfl, hS4.mono k5, by omega, by omega, fun d4 H6 h40 h41 k6 hS6 => ?_⟩
      have r6 : LsAt eStr H6 p (lets1 ws) := r5.keep k6 (by simpa using nps) (tex_h k6 fun a ha => by rw [List.mem_singleton.mp ha]; exact (hS4.mono k5).nt)
      have hd4 : d4.toNat < (lets1 ws).length := by omega
      have hat := atI_nat (xs := lets1 ws) (j := d4.toNat) (List.getElem?_eq_getElem hd4)
      rw [Int.toNat_of_nonneg h40] at hat
      have hmem := List.getElem_mem hd4
      generalize (lets1 ws)[d4.toNat] = u at *
      unfold lets1 at hmem
      obtain ⟨c, hc, rfl⟩ := List.mem_map.mp hmem
      obtain ⟨ys, hy1, hy2⟩ := r6
      obtain ⟨u, hu, ru⟩ := atI_paired hy2 hat
      have ru : u = .str (ss [c]) := ru
      subst ru
      refine ⟨p, ys, d4, _, rfl, rfl, SqL.of hy1, hu, ss t, ss [c], rfl, rfl, by rw [ss_len, ss_len]; exact sz_of (by simp; omega), ?_⟩
      exact ⟨(ex_hid _ k5).trans k6, t ++ [c], some v5, by rw [← ss_app]; rfl, hS6, hto.append (over_one hc), by rw [List.length_append, htl]; rfl⟩
    · rintro σ' H4 k4 ⟨t, z5, rfl, hS4, hto, htl⟩
      rw [List.length_range] at htl
      refine s_retR (e := eStr) (x := t) (er_var rfl rfl) fun v H5 k5 r5 => ?_
      cases r5
      refine q t H5 hto (by omega) ?_ (hS4.mono k5)
      exact (ex_rehid (((ex_hid _ (k1.trans k2)).trans k3))).trans (k4.trans k5)
end
end K61

/-! K61L8: the law. -/
namespace K61
open PySem PySem.Spec PyProof.Rows L2 Evl
theorem StrAt.tex {H H' : Hp} {s : Addr} (h : StrAt H s) (k : Ex (hid H [s]) H') : TEx H H' := tex_h k fun a ha => by rw [List.mem_singleton.mp ha]; exact h.nt
theorem StrAt.ne {α : Type} {e : Enc α} {H : Hp} {s p : Addr} {l : List α} (h : StrAt H s) (hl : LsAt e H p l) (hx : ∀ scr x ys, H scr = some (.lst ys) → e.R H (.ref scr) x → False) : p ≠ s := fun z => by
  obtain ⟨scr, ns, cell, k, h1, h2, _⟩ := h
  obtain ⟨xs, g1, g2⟩ := hl
  obtain ⟨ys, f1, f2⟩ := h1
  obtain ⟨zs, e1, _⟩ := h2
  rw [z, f1] at g1
  cases g1
  cases f2 with
  | cons r t =>
    have r : _ = V.ref scr := r
    subst r
    cases g2 with
    | cons r2 t2 => exact hx scr _ _ e1 r2
/-- the rest, by the dict -/
theorem rest_of {ws : Ws} {b m : Int} {st : GSt} {hs : Hs} {D : Dc} (gi : GI ws st) (dh : DH st hs D) (h : MaxR ws b D m) : IsRest ws b st hs m := by
  have key : ∀ {p x}, (p, x) ∈ D ↔ In st hs p x := fun {p x} => by
    constructor
    · intro hp
      have h1 := mem_look dh.nd hp
      have h2 := dh.sub p (List.mem_map.mpr ⟨_, hp, rfl⟩)
      obtain ⟨i, hi⟩ := List.getElem?_of_mem h2
      exact ⟨i, hi, (dh.look i p hi).symm.trans h1⟩
    · rintro ⟨i, hi, hx⟩
      exact look_mem ((dh.look i p hi).trans hx)
  obtain ⟨⟨h0, x, h1, h2⟩, h3⟩ := h
  exact ⟨⟨h0, x, key.mp h1, h2⟩, fun h x hx => h3 h x (key.mpr hx)⟩
theorem rest_ex {ws : Ws} {a b : Int} {st : GSt} {hs : Hs} {ls : Ls} (gr : Gr ws st) (c : CI a b st.1.length st.2 hs ls) (f : Feas a b st.2 hs) : ∃ m, IsRest ws b st hs m := by
  obtain ⟨x0, hx0, _⟩ := in_start gr c
  have hne : (((tbl st hs).filter (fun z => decide (z.2.1 = []))).map (fun z => -(z.2.2 + b * mcost ws z.1))) ≠ [] :=
    List.ne_nil_of_mem (List.mem_map.mpr ⟨([], [], x0), List.mem_filter.mpr ⟨(mem_tbl gr c f).mpr hx0, decide_eq_true rfl⟩, rfl⟩)
  obtain ⟨m', hm', hmin⟩ := min_ex hne
  obtain ⟨z, hz, rfl⟩ := List.mem_map.mp hm'
  have hz2 := List.mem_filter.mp hz
  have ht : z.2.1 = [] := of_decide_eq_true hz2.2
  have hi := (mem_tbl gr c f).mp hz2.1
  rw [ht] at hi
  refine ⟨z.2.2 + b * mcost ws z.1, ⟨z.1, z.2.2, hi, rfl⟩, fun h x hx => ?_⟩
  have := hmin _ (List.mem_map.mpr ⟨(h, [], x), List.mem_filter.mpr ⟨(mem_tbl gr c f).mpr hx, decide_eq_true rfl⟩, rfl⟩)
  have h2 : -(z.2.2 + b * mcost ws z.1) ≤ -(x + b * mcost ws h) := this
  omega
section
variable {K : PySem.W.Frag} {σ : L2.St} {H : Hp} {ta tb tc tl tw tt : TE} {D : Ends} {tu tz : L2.TS} {g : TG} {sp sp1 sp2 : Sp} {E E1 E2 : XK} {t t1 t2 : TA}
theorem q_ifCall {r : R2} {c : V} (h : t σ H fun vs H1 => sp (vs ++ []) H1 (fun v H2 => tSeq (tIfS (tTest (tOp r (tC v) (tC c))) tu tNext) tz D σ H2) E) : tSeq (tIfS (tTest (tOp r (tCall sp [] E t) (tC c))) tu tNext) tz D σ H := h
theorem q_forTexts (h : t1 σ H fun vs H1 => sp1 (vs ++ []) H1 (fun v1 H2 => t2 σ H2 fun ws H3 => sp2 (ws ++ []) H3 (fun v2 H4 => tSeq (tFor (iList K (tOp rCat (tC v1) (tLst (tCons (tC v2) tNil)))) g tu) tz D σ H4) E2) E1) :
    tSeq (tFor (iList K (tOp rCat (tCall sp1 [] E1 t1) (tLst (tCons (tCall sp2 [] E2 t2) tNil)))) g tu) tz D σ H := h
theorem q_asgC (h : t σ H fun vs H1 => sp (vs ++ []) H1 (fun v H2 => tSeq (tAsg (tC v) g) tz D σ H2) E) : tSeq (tAsg (tCall sp [] E t) g) tz D σ H := h
theorem q_asgV {i : Nat} {v : V} (h : tz D (σ.set i (some v)) H) : tSeq (tAsg (tC v) (gName i)) tz D σ H := h
theorem q_asgCr {r : R2} {c : V} (h : t σ H fun vs H1 => sp (vs ++ []) H1 (fun v H2 => tSeq (tAsg (tOp r (tC c) (tC v)) g) tz D σ H2) E) : tSeq (tAsg (tOp r (tC c) (tCall sp [] E t)) g) tz D σ H := h
theorem q_asgVr {r : R2} {i : Nat} {u : V} (hi : σ[i]? = some (some u)) (h : t σ H fun vs H1 => sp (vs ++ []) H1 (fun v H2 => tSeq (tAsg (tOp r (tC u) (tC v)) g) tz D σ H2) E) : tSeq (tAsg (tOp r (tVar i) (tCall sp [] E t)) g) tz D σ H := ⟨u, hi, h⟩
theorem s_asgCl {r : R2} (h : t σ H fun vs H1 => sp (vs ++ []) H1 (fun v H2 => tAsg (tOp r (tC v) tb) g D σ H2) E) : tAsg (tOp r (tCall sp [] E t) tb) g D σ H := h
theorem q_asgMax {f : List V → Hp → VK → Prop} {c : V} {r r2 : R2} {tl : TE} (h : t1 σ H fun vs H1 => sp1 (vs ++ []) H1 (fun v1 H2 => tl σ H2 fun l H3 => t2 σ H3 fun ws H4 => sp2 (ws ++ []) H4 (fun v2 H5 => tSeq (tAsg (tCB f (tCons (tC c) (tCons (tOp r (tC v1) (tOp r2 (tC l) (tC v2))) tNil))) g) tz D σ H5) E2) E1) :
    tSeq (tAsg (tCB f (tCons (tC c) (tCons (tOp r (tCall sp1 [] E1 t1) (tOp r2 tl (tCall sp2 [] E2 t2))) tNil))) g) tz D σ H := h
theorem er_c {α : Type} {e : Enc α} {v : V} {x : α} (r : e.R H v x) : EvR e (tC v) σ H x := fun H1 k _ q => q v H1 (Ex.refl _) (e.mono k r)
theorem s_ifLeast {ws : Ws} {x : Tx} {l a c : Int} (hl : EvR eInt tl σ H l) (ha : EvR eInt ta σ H a) (hw : EvR eWs tw σ H ws) (ht : EvR eStr tt σ H x) (hc : EvR eInt tc σ H c) (gd : Good ws) (ho : Over ws x) (hx : x.length ≤ 1000) (hab : CMul a a → True) (ham : -1000 ≤ a ∧ a ≤ 1000)
    (hle : ∀ k, Reach ws x k → l ≤ a * k + c) (k : ∀ H1, Ex H H1 → D.nx σ H1) :
    tIfS (tTest (tOp (rI0 fun i j => .bl (decide (j < i))) tl (tOp (rI0 fun i j => .int (i + j)) (tOp (rI CMul fun i j => .int (i * j)) ta (tCall sp_least [] E (tCons tw (tCons tt tNil)))) tc))) tu tNext D σ H := by
  refine hl H (Ex.refl _) _ fun v1 H1 k1 r1 => ha H1 k1 _ fun v2 H2 k2 r2 => hw H2 (k1.trans k2) _ fun v3 H3 k3 r3 => ht H3 ((k1.trans k2).trans k3) _ fun v4 H4 k4 r4 => ⟨v3, v4, ws, x, rfl, eWs.mono k4 r3, r4, gd, ho, hx, fun v5 H5 n k5 hR r5 => ?_⟩
  have k15 := (((k1.trans k2).trans k3).trans k4).trans k5
  cases r1; cases r2; cases r5
  refine ⟨a, n, rfl, rfl, cmulL ham, hc H5 k15 _ fun v6 H6 k6 r6 => ?_⟩
  cases r6
  refine ⟨_, _, rfl, rfl, ⟨_, _, rfl, rfl, ⟨_, rfl, ?_⟩⟩⟩
  have h1 := hle n hR
  rw [decide_eq_false (by omega)]
  exact iteF (k H6 (k15.trans k6))
end
section
variable {P : Program} {w : World} {K : PySem.W.Frag} {mg : Str → Option Value} {base : Heap}
-- slots: 0=_law_script 1=_law_stream_here 2=_law_words_here 3=_law_pairs 4=_law_edges 5=_law_b 6=_law_a 7=_law_heights 8=_law_c 9=_law_due 10=_law_table 11=_law_text_here
abbrev st_law : Stmt := top 63
abbrev N_law : List Str := ["_law_script", "_law_stream_here", "_law_words_here", "_law_pairs", "_law_edges", "_law_b", "_law_a", "_law_heights", "_law_c", "_law_due", "_law_table", "_law_text_here"]
theorem sc_law : FnScope N_law ["_law_script"] (defScope st_law) := ⟨rfl, rfl, rfl, by decide +kernel, rfl, by decide +kernel, by decide +kernel⟩
def sp_law (K : PySem.W.Frag) : Sp := fun vs H Q _ => ∃ (a : Addr) (ns : List Int), vs = [.ref a] ∧ SqL K H a (ns.map V.int) ∧ ns.length ≤ 63 ∧ ∀ H', Q (.bl true) H'
theorem ok_law (B : Bl mg) {fa : Addr} {fd : FuncData} (F : Fun K "law" "law" st_law fa fd)
    (c_law_stream : Cal P w K mg base "_law_stream" 1 ["_law_script"] (sp_stream K)) (c_law_words : Cal P w K mg base "_law_words" 3 ["_law_stream_here"] sp_lwords) (c_law_graph : Cal P w K mg base "_law_graph" 4 ["_law_words_here"] sp_lgraph)
    (c_law_next : Cal P w K mg base "_law_next" 1 ["_law_stream_here", "_law_many"] sp_next) (c_law_climb : Cal P w K mg base "_law_climb" 1 ["_law_pairs", "_law_edges", "_law_a", "_law_b"] sp_lclimb) (c_law_rest : Cal P w K mg base "_law_rest" 2 ["_law_words_here", "_law_b", "_law_heights"] sp_lrest)
    (c_potentials_for : Cal P w K mg base "potentials_for" 9 ["words", "a", "b", "c"] sp_pot) (c_is_bound : Cal P w K mg base "is_bound" 10 ["words", "a", "b", "c"] sp_isb) (c_law_equal : Cal P w K mg base "_law_equal" 2 ["_law_actual", "_law_due"] sp_lequal)
    (c_are_right : Cal P w K mg base "are_right" 8 ["words", "a", "b", "c", "value"] sp_right) (c_law_all_texts : Cal P w K mg base "_law_all_texts" 2 ["_law_words_here", "_law_most"] sp_all) (c_law_text : Cal P w K mg base "_law_text" 2 ["_law_stream_here", "_law_words_here", "_law_most"] sp_ltext)
    (c_law_sum : Cal P w K mg base "_law_sum" 1 ["_law_words_here", "_law_row"] sp_rowc) (c_law_match : Cal P w K mg base "_law_match" 1 ["_law_words_here", "_law_text_here"] sp_match) (c_law_least : Cal P w K mg base "_law_least" 1 ["_law_words_here", "_law_text_here"] sp_least) :
    FnOk P w K mg base CX0 11 fa fd ["_law_script"] (sp_law K) := by
  refine F.ok sc_law (fun vs H Q E h => ?_) (fun cdv A outer s H vs Q E hr h => ?_)
  · obtain ⟨_, _, rfl, _⟩ := h; rfl
  · obtain ⟨a0, ns, rfl, hscr, _, q⟩ := h
    refine ⟨_, (pss_cons (ps_set (i := 1) sc_law.nd rfl (.inl rfl) (pe_cal c_law_stream hr (by decide) (by rfl) (pa_cons (pv 0) pa_nil)))
    (pss_cons (ps_set (i := 2) sc_law.nd rfl (.inl rfl) (pe_cal c_law_words hr (by decide) (by rfl) (pa_cons (pv 1) pa_nil)))
    (pss_cons (ps_asg (pe_cal c_law_graph hr (by decide) (by rfl) (pa_cons (pv 2) pa_nil)) (pg_tupK K (n := 2) rfl (pgs_cons (pg_name (i := 3) sc_law.nd rfl (.inl rfl)) (pgs_cons (pg_name (i := 4) sc_law.nd rfl (.inl rfl)) pgs_nil))))
    (pss_cons (ps_set (i := 5) sc_law.nd rfl (.inl rfl) (pe_op (op_add) pe_int (pe_cal c_law_next hr (by decide) (by rfl) (pa_cons (pv 1) (pa_cons pe_int pa_nil)))))
    (pss_cons (ps_set (i := 6) sc_law.nd rfl (.inl rfl) (pe_op (op_add) (pv 5) (pe_cal c_law_next hr (by decide) (by rfl) (pa_cons (pv 1) (pa_cons (pe_op (op_add) (pe_op (op_mul) pe_int (pv 5)) pe_int) pa_nil)))))
    (pss_cons (ps_if (pt_cmpR op_eq (pe_cal c_law_next hr (by decide) (by rfl) (pa_cons (pv 1) (pa_cons pe_int pa_nil))) pe_int (nomark _)) (pss_one (ps_set (i := 6) sc_law.nd rfl (.inl rfl) (pe_op (op_mul) pe_int (pv 5)))) pss_nil)
    (pss_cons (ps_set (i := 7) sc_law.nd rfl (.inl rfl) (pe_cal c_law_climb hr (by decide) (by rfl) (pa_cons (pv 3) (pa_cons (pv 4) (pa_cons (pv 6) (pa_cons (pv 5) pa_nil))))))
    (pss_cons (ps_set (i := 8) sc_law.nd rfl (.inl rfl) (pe_cal c_law_next hr (by decide) (by rfl) (pa_cons (pv 1) (pa_cons pe_int pa_nil))))
    (pss_cons (ps_set (i := 9) sc_law.nd rfl (.inl rfl) pe_bl)
    (pss_cons (ps_if (pt_cmpR op_notN (pv 7) pe_non (nomark _)) (pss_cons (ps_set (i := 8) sc_law.nd rfl (.inl rfl) (pe_callB (call_max2 rfl) (by rfl) B.max (by decide +kernel) (pa_cons pe_int (pa_cons (pe_op (op_add) (pe_cal c_law_rest hr (by decide) (by rfl) (pa_cons (pv 2) (pa_cons (pv 5) (pa_cons (pv 7) pa_nil)))) (pe_ix (ix_listK K) (pe_lst (pa_cons pe_int (pa_cons pe_int (pa_cons (pe_un un_neg pe_int) (pa_cons pe_int pa_nil))))) (pe_cal c_law_next hr (by decide) (by rfl) (pa_cons (pv 1) (pa_cons pe_int pa_nil))) (fun _ _ => rfl))) pa_nil))))
    (pss_one (ps_set (i := 9) sc_law.nd rfl (.inl rfl) (pe_cmpR op_le (pe_cal c_law_rest hr (by decide) (by rfl) (pa_cons (pv 2) (pa_cons (pv 5) (pa_cons (pv 7) pa_nil)))) (pv 8) (nomark _))))) pss_nil)
    (pss_cons (ps_set (i := 10) sc_law.nd rfl (.inl rfl) (pe_cal c_potentials_for hr (by decide) (by rfl) (pa_cons (pv 2) (pa_cons (pv 6) (pa_cons (pv 5) (pa_cons (pv 8) pa_nil))))))
    (pss_cons (ps_if (PW.pt (pw_or (pt_not (pt_val (pe_cal c_law_equal hr (by decide) (by rfl) (pa_cons (pe_cal c_is_bound hr (by decide) (by rfl) (pa_cons (pv 2) (pa_cons (pv 6) (pa_cons (pv 5) (pa_cons (pv 8) pa_nil))))) (pa_cons (pv 9) pa_nil))))) (pw_or1 (pt_cmpR op_ne (pe_cmpR op_notN (pv 10) pe_non (nomark _)) (pv 9) (nomark _))))) (pss_one (ps_ret pe_bl)) pss_nil)
    (pss_cons (ps_if (pt_not (pt_val (pv 9))) (pss_one (ps_ret pe_bl)) pss_nil)
    (pss_cons (ps_if (PW.pt (pw_or (pt_cmpR op_notBl (pe_cal c_are_right hr (by decide) (by rfl) (pa_cons (pv 2) (pa_cons (pv 6) (pa_cons (pv 5) (pa_cons (pv 8) (pa_cons (pv 10) pa_nil)))))) pe_bl (nomark _)) (pw_or1 (pt_cmpR (op_neDK K hr.units) (pe_callTy (call_list_ofK K) (by rfl) B.list (by decide +kernel) (pa_cons (pv 10) pa_nil)) (pe_callB (cr_sortedDK K hr) (by rfl) B.sorted (by decide +kernel) (pa_cons (pv 10) pa_nil)) (nomark _))))) (pss_one (ps_ret pe_bl)) pss_nil)
    (pss_cons (ps_for PassesOwn.never rfl (pi_listK K (pe_op (op_cat) (pe_cal c_law_all_texts hr (by decide) (by rfl) (pa_cons (pv 2) (pa_cons pe_int pa_nil))) (pe_lst (pa_cons (pe_cal c_law_text hr (by decide) (by rfl) (pa_cons (pv 1) (pa_cons (pv 2) (pa_cons pe_int pa_nil)))) pa_nil)))) (pg_name (i := 11) sc_law.nd rfl (.inl rfl))
    (pss_one (ps_if (pt_cmpR op_gt (pe_op (op_mul) (pv 5) (pe_cal c_law_sum hr (by decide) (by rfl) (pa_cons (pv 2) (pa_cons (pe_cal c_law_match hr (by decide) (by rfl) (pa_cons (pv 2) (pa_cons (pv 11) pa_nil))) pa_nil)))) (pe_op (op_add) (pe_op (op_mul) (pv 6) (pe_cal c_law_least hr (by decide) (by rfl) (pa_cons (pv 2) (pa_cons (pv 11) pa_nil)))) (pv 8)) (nomark _)) (pss_one (ps_ret pe_bl)) pss_nil)))
    (pss_one (ps_ret pe_bl))))))))))))))))), ?_⟩
    -- the stream, the words, the graph
    refine q_asgC ⟨_, rfl, a0, ns, rfl, hscr, fun s H1 _ k1 hS1 => q_asgV ?_⟩
    refine q_asgC ⟨_, rfl, s, rfl, hS1, fun v2 H2 ws gd r2 k2 hS2 => q_asgV ?_⟩
    refine q_asgG (er_call1 (er_var rfl r2) gd) fun v3 H3 k3 r3 => g_2 r3 fun x3 x4 r3 r4 => ?_
    have gr := graph_ok gd
    have gi := gr.gi
    have hfew := gi.few gd
    obtain ⟨pp, xs3, rfl, hx3, hy3⟩ := r3
    obtain ⟨pe, xs4, rfl, hx4, hy4⟩ := r4
    have hP3 : LsAt ePr H3 pp (graph ws).1 := ⟨xs3, hx3, hy3⟩
    have hE3 : LsAt eLed H3 pe (graph ws).2 := ⟨xs4, hx4, hy4⟩
    have hS3 := hS2.mono k3
    have w3 := eWs.mono k3 r2
    have nps : pp ≠ s := hS3.ne hP3 fun scr x ys hy hx => by obtain ⟨b, _, _, h1, h2, _⟩ := hx; cases h1; rw [hy] at h2; cases h2
    have nes : pe ≠ s := hS3.ne hE3 fun scr x ys hy hx => by obtain ⟨b, _, _, _, _, h1, h2, _⟩ := hx; cases h1; rw [hy] at h2; cases h2
    -- b, a
    refine q_asgCr ⟨_, rfl, s, 3, rfl, hS3, by decide, by decide, fun d1 H4 h10 h11 k4 hS4 => ?_⟩
    have hb : ∃ b, b = 1 + d1 := ⟨_, rfl⟩
    obtain ⟨b, hb⟩ := hb
    refine q_asgR (e := eInt) (x := b) ((er_add er_int er_int).is hb.symm) fun v5 H4' k4' r5 => ?_
    cases r5
    have hP4 := (hP3.keep k4 (by simpa using nps) (hS3.tex k4)).mono k4'
    have hE4 := (hE3.keep k4 (by simpa using nes) (hS3.tex k4)).mono k4'
    have w4 := eWs.mono k4' (Imm.imm (e := eWs) (hS3.tex k4) w3)
    have hS4 := hS4.mono k4'
    refine q_asgVr rfl ⟨_, rfl, _, rfl, _, _, rfl, rfl, .inl ⟨by decide, by decide⟩, _, _, rfl, rfl, s, _, rfl, hS4, by omega, by omega, fun d2 H5 h20 h21 k5 hS5 => ?_⟩
    refine q_asgR (e := eInt) (x := b + d2) (er_add er_int er_int) fun v6 H5' k5' r6 => ?_
    cases r6
    have hP5 := (hP4.keep k5 (by simpa using nps) (hS4.tex k5)).mono k5'
    have hE5 := (hE4.keep k5 (by simpa using nes) (hS4.tex k5)).mono k5'
    have w5 := eWs.mono k5' (Imm.imm (e := eWs) (hS4.tex k5) w4)
    have hS5 := hS5.mono k5'
    refine q_ifCall ⟨_, rfl, s, 4, rfl, hS5, by decide, by decide, fun d3 H6 h30 h31 k6 hS6 => ?_⟩
    have hP6 := hP5.keep k6 (by simpa using nps) (hS5.tex k6)
    have hE6 := hE5.keep k6 (by simpa using nes) (hS5.tex k6)
    have w6 := Imm.imm (e := eWs) (hS5.tex k6) w5
    refine q_whenJ (et_r (er_eqI er_int er_int)) (fun σ' H' => ∃ a : Int, σ' = [some (.ref a0), some (.ref s), some v2, some (.ref pp), some (.ref pe), some (.int b), some (.int a), none, none, none, none, none] ∧ Ex H6 H' ∧ 0 ≤ a ∧ a ≤ 27) ?_ ?_ ?_
    rotate_left
    · intro _ H7 k7 D' hJ
      refine s_asgR (e := eInt) (x := 9 * b) (er_mul er_int (er_var rfl rfl) (.inl ⟨by decide, by decide⟩)) fun v8 H8 k8 r8 => ?_
      cases r8
      exact hJ _ _ ⟨9 * b, rfl, k7.trans k8, by omega, by omega⟩
    · intro _ H7 k7
      exact ⟨b + d2, rfl, k7, by omega, by omega⟩
    rintro σ' H7 ⟨a, rfl, k7, ha0, ha27⟩
    -- the heights
    have ba : -1000 ≤ a ∧ a ≤ 1000 := ⟨by omega, by omega⟩
    have bb : -1000 ≤ b ∧ b ≤ 1000 := ⟨by omega, by omega⟩
    refine q_asgC ⟨_, rfl, _, rfl, _, rfl, _, rfl, .ref pp, .ref pe, ws, graph ws, a, b, rfl, (hP6.mono k7).r, (hE6.mono k7).r, gd, gr, ba, bb, fun v7 H8 k8 hcf hct => q_asgV ?_⟩
    have cok := climb_ok (a := a) (b := b) gr
    have ci := cok.1
    have hS8 := (hS6.mono k7).mono k8
    have w8 := eWs.mono (k7.trans k8) w6
    have ho : ∃ o : Option Dc, (eOpt eDc).R H8 v7 o ∧ (!o.isNone) = (climb a b (graph ws)).1 ∧ ∀ D, o = some D → DH (graph ws) (climb a b (graph ws)).2.1 D := by
      cases hcv : (climb a b (graph ws)).1 with
      | false => exact ⟨none, hcf hcv, rfl, fun D z => nomatch z⟩
      | true =>
        obtain ⟨D, h1, h2⟩ := hct hcv
        obtain ⟨d, rfl, h3⟩ := h1
        exact ⟨some D, ⟨(fun z => nomatch z), d, rfl, h3⟩, rfl, fun D' z => by cases z; exact h2⟩
    obtain ⟨o, hoR, hob, hoD⟩ := ho
    refine q_asgC ⟨_, rfl, s, 12, rfl, hS8, by decide, by decide, fun d4 H9 h40 h41 k9 hS9 => q_asgV ?_⟩
    have w9 := Imm.imm (e := eWs) (hS8.tex k9) w8
    have hoR9 : (eOpt eDc).R H9 v7 o := by
      cases o with
      | none => exact hoR
      | some D =>
        obtain ⟨hn, d, rfl, hd⟩ := hoR
        refine ⟨(fun z => nomatch z), d, rfl, keep k9 hd ?_⟩
        intro hm
        obtain ⟨_, _, _, _, ⟨xs, hx, _⟩, _⟩ := hS8
        rw [List.mem_singleton.mp hm, hx] at hd
        cases hd
    refine q_asgR (e := eBl) (x := false) er_bl fun v10 H10 k10 r10 => ?_
    cases r10
    have hS10 := hS9.mono k10
    have w10 := eWs.mono k10 w9
    have hoR10 := (eOpt eDc).mono k10 hoR9
    refine q_whenJ (et_r (er_notN (er_var (e := eOpt eDc) rfl hoR10))) (fun σ' H' => ∃ (c : Int) (due : Bool), σ' = [some (.ref a0), some (.ref s), some v2, some (.ref pp), some (.ref pe), some (.int b), some (.int a), some v7, some (.int c), some (.bl due), none, none] ∧ StrAt H' s ∧ eWs.R H' v2 ws ∧ 0 ≤ c ∧ c ≤ 100000 ∧ (potOut ws a b c).isSome = due) ?_ ?_ ?_
    rotate_left
    · intro hb1 H11 k11 D' hJ
      cases o with
      | none => exact absurd hb1 (by simp)
      | some D =>
        have hcv : (climb a b (graph ws)).1 = true := hob.symm
        have fe := cok.2.1 hcv
        have dh := hoD D rfl
        have hov : ∀ p ∈ D.map (·.1), Over ws p.1 ∧ p.1.length ≤ 1000 := fun p hp => by
          have := gi.held p (dh.sub p hp)
          exact ⟨held_over gd this.1, Nat.le_trans (held_len gd this.1) (by decide)⟩
        have hex : ∃ h x, ((h, []), x) ∈ D := by
          obtain ⟨x, ⟨i, hi, hx⟩, _⟩ := in_start gr ci
          exact ⟨[], x, look_mem ((dh.look i _ hi).trans hx)⟩
        have dl := dh.len
        have w11 := eWs.mono k11 w10
        have hS11 := hS10.mono k11
        obtain ⟨_, hoR11⟩ := (eOpt eDc).mono k11 hoR10
        refine q_asgMax ⟨_, rfl, _, rfl, _, rfl, v2, v7, ws, b, D, rfl, w11, hoR11, gd, bb, dh.nd, hov, by omega, hex, fun v12 H12 m k12 hM r12 => ?_⟩
        cases r12
        have hR := rest_of (b := b) gi dh hM
        have hrange := hR.range gd gr ha0 (by omega) (by omega) ci fe
        refine ⟨_, rfl, (show 4 ≤ sizeLine by decide), fun p hp => ?_⟩
        have hS12 := hS11.mono k12
        have kp := Ex.new (H := H12) (p := p) (o := .lst [.int 0, .int 0, .int (-1), .int 3]) hp
        have npS : p ≠ s := fun z => by obtain ⟨o, ho, _⟩ := hS12.nt; rw [z, ho] at hp; cases hp
        refine ⟨_, rfl, s, 4, rfl, hS12.mono kp, by decide, by decide, fun d5 H13 h50 h51 k13 hS13 => ?_⟩
        have hl13 : LsAt eInt H13 p [0, 0, -1, 3] := LsAt.keep (H := upd H12 p (.lst [.int 0, .int 0, .int (-1), .int 3])) ⟨_, upd_same, .cons rfl (.cons rfl (.cons rfl (.cons rfl .nil)))⟩ k13 (by simpa using npS) ((hS12.mono kp).tex k13)
        have tN : TEx H11 H13 := ((ex_tex k12).trans (ex_tex kp)).trans ((hS12.mono kp).tex k13)
        have w13 := Imm.imm (e := eWs) tN w11
        have hoR13 : eDc.R H13 v7 D := by
          obtain ⟨d, rfl, hd⟩ := eDc.mono (k12.trans kp) hoR11
          refine ⟨d, rfl, keep k13 hd ?_⟩
          intro hm
          obtain ⟨_, _, _, _, ⟨xs, hx, _⟩, _⟩ := hS12.mono kp
          rw [List.mem_singleton.mp hm, hx] at hd
          cases hd
        have hx : ∃ x : Int, atI [(0 : Int), 0, -1, 3] d5 = some x ∧ x ≤ 3 := by
          have h4 : d5 = 0 ∨ d5 = 1 ∨ d5 = 2 ∨ d5 = 3 := by omega
          rcases h4 with rfl | rfl | rfl | rfl
          · exact ⟨0, atI_nat (j := 0) rfl, by decide⟩
          · exact ⟨0, atI_nat (j := 1) rfl, by decide⟩
          · exact ⟨-1, atI_nat (j := 2) rfl, by decide⟩
          · exact ⟨3, atI_nat (j := 3) rfl, by decide⟩
        obtain ⟨x, hx, hx3⟩ := hx
        have hc : ∃ c : Int, c = max 0 (m + x) := ⟨_, rfl⟩
        obtain ⟨c, hc⟩ := hc
        refine q_asgR (e := eInt) (x := c) ((er_max2 er_int (er_add er_int (er_ixLs (er_c hl13.r) er_int hx))).is hc.symm) fun v13 H13' k13' r13 => ?_
        cases r13
        have hc0 : 0 ≤ c := by omega
        have hc1 : c ≤ 18228 := by omega
        refine s_asgCl ⟨_, rfl, _, rfl, _, rfl, v2, v7, ws, b, D, rfl, eWs.mono k13' w13, eDc.mono k13' hoR13, gd, bb, dh.nd, hov, by omega, hex, fun v14 H14 m2 k14 hM2 r14 => ?_⟩
        cases r14
        have hR2 := rest_of (b := b) gi dh hM2
        have hmm := hR.uniq hR2
        subst hmm
        refine s_asgR (e := eBl) (x := decide (m ≤ c)) (er_le er_int (er_var (e := eInt) (x := c) rfl rfl)) fun v15 H15 k15 r15 => ?_
        cases r15
        have k135 := (k13'.trans k14).trans k15
        refine hJ _ _ ⟨c, decide (m ≤ c), rfl, hS13.mono k135, eWs.mono k135 w13, hc0, by omega, ?_⟩
        unfold potOut
        rw [if_pos hcv, all_map_id, all_ends gr ci fe hR]
        cases decide (m ≤ c) <;> rfl
    · intro hb1 H11 k11
      refine ⟨d4, false, rfl, hS10.mono k11, eWs.mono k11 w10, h40, by omega, ?_⟩
      unfold potOut
      rw [← hob, hb1, if_neg (by decide)]
      rfl
    rintro σ' H11 ⟨c, due, rfl, hS11, w11, hc0, hc1, hdue⟩
    have preB : PreB ws a b c := ⟨gd, ⟨ha0, by omega⟩, ⟨by omega, by omega⟩, ⟨hc0, hc1⟩⟩
    -- the table and the two answers
    refine q_asgR (e := eOpt (eTL eTr)) (x := potOut ws a b c) (er_call4 (er_var rfl w11) (er_var (e := eInt) (x := a) rfl rfl) (er_var (e := eInt) (x := b) rfl rfl) (er_var (e := eInt) (x := c) rfl rfl) preB) fun v12 H12 k12 r12 => ?_
    have w12 := eWs.mono k12 w11
    have e1 : (!(potOut ws a b c).isNone) = due := by rw [← hdue]; cases potOut ws a b c <;> rfl
    refine q_when (et_or (et_not (et_rB (er_call2 (er_call4 (er_var rfl w12) (er_var (e := eInt) (x := a) rfl rfl) (er_var (e := eInt) (x := b) rfl rfl) (er_var (e := eInt) (x := c) rfl rfl) preB) (er_var (e := eBl) (x := due) rfl rfl) trivial))) fun _ => et_r (er_neB (er_notN (er_var rfl r12)) (er_var (e := eBl) (x := due) rfl rfl))) (fun hb1 => ?_) fun _ H13 k13 => ?_
    · exfalso
      rw [hdue, e1] at hb1
      simp at hb1
    refine q_when (et_not (et_rB (er_var (e := eBl) (x := due) rfl rfl))) (fun hb1 H14 k14 => s_retR er_bl fun v H15 k15 r => by cases r; exact q H15) fun hb1 H14 k14 => ?_
    have hd : due = true := by simpa using hb1
    subst hd
    -- converged, and the table is right
    have hcv : (climb a b (graph ws)).1 = true := by
      cases hq : (climb a b (graph ws)).1 with
      | true => rfl
      | false => unfold potOut at hdue; rw [hq, if_neg (by decide)] at hdue; exact absurd hdue (by decide)
    have fe := cok.2.1 hcv
    have hall : (tbl (graph ws) (climb a b (graph ws)).2.1).all (endsWell ws b c) = true := by
      cases hq : (tbl (graph ws) (climb a b (graph ws)).2.1).all (endsWell ws b c) with
      | true => rfl
      | false => unfold potOut at hdue; rw [if_pos hcv, all_map_id, hq, if_neg (by decide)] at hdue; exact absurd hdue (by decide)
    have hpot : potOut ws a b c = some (sortBy pdT (tbl (graph ws) (climb a b (graph ws)).2.1)) := by
      unfold potOut
      rw [if_pos hcv, all_map_id, hall, if_pos rfl]
    rw [hpot] at r12
    have hperm := sortBy_perm pdT (tbl (graph ws) (climb a b (graph ws)).2.1)
    have hasc : (sortBy pdT (tbl (graph ws) (climb a b (graph ws)).2.1)).Pairwise (fun x y => lt2 (x.1, x.2.1) (y.1, y.2.1)) := sortT_asc (by rw [tbl_keys ci]; exact gi.nd)
    have hRt := right_of gd gr ci fe (k := c) hperm hasc hall
    have hself := sortBy_self pdT (tbl (graph ws) (climb a b (graph ws)).2.1)
    generalize hT : sortBy pdT (tbl (graph ws) (climb a b (graph ws)).2.1) = T at *
    have k1214 := k13.trans k14
    have w14 := eWs.mono k1214 w12
    have rT : (eTL eTr).R H14 v12 T := (eTL eTr).mono k1214 r12.2
    have habc : ∀ z ∈ T, Abc z.1 ∧ Abc z.2.1 := fun z hz => ⟨over_abc gd (hRt.over z hz).left, over_abc gd (hRt.over z hz).right⟩
    refine q_when (et_or (et_r (er_notB (er_call5 (er_var rfl w14) (er_var (e := eInt) (x := a) rfl rfl) (er_var (e := eInt) (x := b) rfl rfl) (er_var (e := eInt) (x := c) rfl rfl) (er_var rfl rT) ⟨preB, hRt⟩) er_bl)) fun _ =>
      et_r (er_neT (l := T) (EvN.r (en_listT (er_var rfl rT))) ((EvN.r (en_sortedT pdT (dp_T K) alike_T (fun x => ⟨_, _, rfl⟩) dep_T (by have := hRt.few; omega) (er_var rfl rT))).is hself) habc)) (fun hb2 => absurd hb2 (by decide)) fun _ H15 k15 => ?_
    -- the rest of the law: every text
    have hS15 := ((hS11.mono k12).mono k1214).mono k15
    have w15 := eWs.mono k15 w14
    have hm : ∃ m, IsRest ws b (graph ws) (climb a b (graph ws)).2.1 m ∧ m ≤ c := by
      obtain ⟨m, hm⟩ := rest_ex (b := b) gr ci fe
      refine ⟨m, hm, ?_⟩
      rw [all_ends gr ci fe hm] at hall
      exact of_decide_eq_true hall
    obtain ⟨m, hm, hmc⟩ := hm
    refine q_forTexts ⟨_, rfl, _, _, ws, 4, rfl, w15, rfl, ⟨gd, by decide⟩, fun v16 H16 k16 r16 => ?_⟩
    obtain ⟨pa, xsa, rfl, ha1, ha2⟩ := r16
    have hA16 : LsAt eStr H16 pa (foundT ws 4) := ⟨xsa, ha1, ha2⟩
    have hS16 := hS15.mono k16
    have nas : pa ≠ s := hS16.ne hA16 fun scr x ys hy hx => by cases hx
    have w16 := eWs.mono k16 w15
    refine ⟨_, rfl, _, rfl, s, v2, ws, 30, rfl, hS16, w16, gd, by decide, fun tx H17 htx htl k17 hS17 => ?_⟩
    have hA17 := hA16.keep k17 (by simpa using nas) (hS16.tex k17)
    have w17 := Imm.imm (e := eWs) (hS16.tex k17) w16
    have hfo := foundT_ok gd 4 (by decide)
    refine q_for [] (src_new (en_cat (er_c hA17.r) (EvN.r (en_one (er_c (e := eStr) (x := tx) rfl))) (by rw [List.length_singleton]; omega))) (fun x hx => by cases hx) (fun i σ' H' => ∃ z, σ' = [some (.ref a0), some (.ref s), some v2, some (.ref pp), some (.ref pe), some (.int b), some (.int a), some v7, some (.int c), some (.bl true), some v12, z])
      (fun H18 k18 => ⟨none, rfl⟩) ?_ ?_
    · rintro i t σ' H18 hx k18 ⟨z, rfl⟩ v19 H19 k19 r19
      rw [hid_nil] at k18
      have htm := List.mem_of_getElem? hx
      have hto : Over ws t ∧ t.length ≤ 1000 := by
        rcases List.mem_append.mp htm with h | h
        · have := hfo.2 t h
          exact ⟨this.1, by omega⟩
        · rw [List.mem_singleton.mp h]
          exact ⟨htx, by omega⟩
      refine g_1 ?_
      have w19 := eWs.mono (k18.trans k19) w17
      have hw := mt_words gd _ t (Nat.le_refl _) hto.1
      refine s_ifLeast (l := b * mcost ws t) (a := a) (c := c) (er_mul (er_var (e := eInt) (x := b) rfl rfl) (er_call2 (er_var rfl w19) (er_call2 (er_var rfl w19) (er_var rfl r19) ⟨gd, hto.2, hto.1⟩) ⟨gd, hw.1, by omega⟩) (cmulL bb)) (er_var (e := eInt) (x := a) rfl rfl) (er_var rfl w19) (er_var rfl r19) (er_var (e := eInt) (x := c) rfl rfl) gd hto.1 hto.2 (fun _ => trivial) ba
        (fun k hk => law_bound gd gr ci fe hm hmc hk) fun H20 k20 => ⟨by rw [hid_nil]; exact k19.trans k20, _, rfl⟩
    · rintro σ' H18 k18 ⟨z, rfl⟩
      exact s_retR er_bl fun v H19 k19 r => by cases r; exact q H19
end
end K61

/-! K61Z: what the top has written: every def kept, the law kept. -/
namespace K61
open PySem PySem.Spec PyProof.Rows L2 Evl
def DF (K : PySem.W.Frag) (x : Str) (st : Stmt) : Prop := ∃ (f : Addr) (oc : Value) (od : Option Addr) (kV dc pm : Value) (an : Option Addr) (cd ct : Value) (sl : Array (Option Value)), PySem.W.nsIn K mainGlobals x = some (some (.ref f)) ∧
  K.lookup f = some ⟨oc, od, .func (PySem.W.fnOf x x (defArgs st) (defBody st) (defScope st) .none kV dc pm an cd ct), sl⟩ ∧ PySem.W.codeIn K cd x = true ∧ PySem.W.keepIn K (.ref f) = true
theorem df_mk {K : PySem.W.Frag} {x : Str} {st : Stmt} {f : Addr} {oc kV dc pm cd ct : Value} {od an : Option Addr} {sl : Array (Option Value)} (a : PySem.W.nsIn K mainGlobals x = some (some (.ref f)))
  (l : K.lookup f = some ⟨oc, od, .func (PySem.W.fnOf x x (defArgs st) (defBody st) (defScope st) .none kV dc pm an cd ct), sl⟩) (c : PySem.W.codeIn K cd x = true) (k : PySem.W.keepIn K (.ref f) = true) : DF K x st := ⟨f, oc, od, kV, dc, pm, an, cd, ct, sl, a, l, c, k⟩
def MF (K : PySem.W.Frag) (C : Addr) (m q : Str) (st : Stmt) : Prop := ∃ (f : Addr) (oc : Value) (od : Option Addr) (kV dc pm : Value) (an : Option Addr) (cd ct : Value) (sl : Array (Option Value)), PySem.W.findIn K (.ref C) m = some (some (.ref f)) ∧ PySem.W.isFn K (.ref f) = true ∧
  K.lookup f = some ⟨oc, od, .func (PySem.W.fnOf m q (defArgs st) (defBody st) (defScope st) .none kV dc pm an cd ct), sl⟩ ∧ PySem.W.codeIn K cd q = true ∧ PySem.W.keepIn K (.ref f) = true
theorem mf_mk {K : PySem.W.Frag} {C : Addr} {m q : Str} {st : Stmt} {f : Addr} {oc kV dc pm cd ct : Value} {od an : Option Addr} {sl : Array (Option Value)} (a : PySem.W.findIn K (.ref C) m = some (some (.ref f))) (i : PySem.W.isFn K (.ref f) = true)
  (l : K.lookup f = some ⟨oc, od, .func (PySem.W.fnOf m q (defArgs st) (defBody st) (defScope st) .none kV dc pm an cd ct), sl⟩) (c : PySem.W.codeIn K cd q = true) (k : PySem.W.keepIn K (.ref f) = true) : MF K C m q st := ⟨f, oc, od, kV, dc, pm, an, cd, ct, sl, a, i, l, c, k⟩
structure KF (K : PySem.W.Frag) (C : Addr) : Prop where
  pg : PySem.W.plainGet K C Str.empty = true
  hd : PySem.W.hasDictIn K C = true
  po : PySem.W.plainOver K C = true
  sa : PySem.W.findIn K (.ref C) "__setattr__" = some (some (.builtin "object.__setattr__"))
  mks : PySem.W.makesIn K C = true
  kc : PySem.W.keepIn K (.ref C) = true
theorem KF.cls {K : PySem.W.Frag} {C : Addr} (h : KF K C) : Cls K C := ⟨h.pg, h.hd, h.po, h.sa⟩
def CnF (K : PySem.W.Frag) (x : Str) (v : V) : Prop := ∃ u, PySem.W.nsIn K mainGlobals x = some (some u) ∧ RelV v u
theorem cn_mk {K : PySem.W.Frag} {x : Str} {v : V} {u : Value} (a : PySem.W.nsIn K mainGlobals x = some (some u)) (r : RelV v u) : CnF K x v := ⟨u, a, r⟩
section
variable {K : PySem.W.Frag} {h : Heap} {mg : Str → Option Value}
theorem CnF.at {x : Str} {v : V} (c : CnF K x v) (X : K.In h) (G : h.Ns mainGlobals mg) : ∃ u, mg x = some u ∧ RelV v u := let ⟨u, a, r⟩ := c; ⟨u, PySem.W.mg_of X G a, r⟩

theorem at_is_between (X : K.In h) (G : h.Ns mainGlobals mg) (d : DF K "is_between" st_is_between) : DefAt K mg "is_between" st_is_between ["value", "low", "high"] := by
  obtain ⟨f, oc, od, kV, dc, pm, an, cd, ct, sl, a, l, c, k⟩ := d
  have F := fun_mk (st := st_is_between) l c k
  exact ⟨f, _, F, PySem.W.mg_of X G a, F.binds (ps := ["value", "low", "high"]) fun _ _ _ _ _ _ us hl => match us, hl with | [_, _, _], _ => rfl⟩
theorem at_is_word (X : K.In h) (G : h.Ns mainGlobals mg) (d : DF K "is_word" st_is_word) : DefAt K mg "is_word" st_is_word ["value"] := by
  obtain ⟨f, oc, od, kV, dc, pm, an, cd, ct, sl, a, l, c, k⟩ := d
  have F := fun_mk (st := st_is_word) l c k
  exact ⟨f, _, F, PySem.W.mg_of X G a, F.binds (ps := ["value"]) fun _ _ _ _ _ _ us hl => match us, hl with | [_], _ => rfl⟩
theorem at_is_entry (X : K.In h) (G : h.Ns mainGlobals mg) (d : DF K "is_entry" st_is_entry) : DefAt K mg "is_entry" st_is_entry ["value"] := by
  obtain ⟨f, oc, od, kV, dc, pm, an, cd, ct, sl, a, l, c, k⟩ := d
  have F := fun_mk (st := st_is_entry) l c k
  exact ⟨f, _, F, PySem.W.mg_of X G a, F.binds (ps := ["value"]) fun _ _ _ _ _ _ us hl => match us, hl with | [_], _ => rfl⟩
theorem at_is_list (X : K.In h) (G : h.Ns mainGlobals mg) (d : DF K "is_list" st_is_list) : DefAt K mg "is_list" st_is_list ["value"] := by
  obtain ⟨f, oc, od, kV, dc, pm, an, cd, ct, sl, a, l, c, k⟩ := d
  have F := fun_mk (st := st_is_list) l c k
  exact ⟨f, _, F, PySem.W.mg_of X G a, F.binds (ps := ["value"]) fun _ _ _ _ _ _ us hl => match us, hl with | [_], _ => rfl⟩
theorem at_letters_in (X : K.In h) (G : h.Ns mainGlobals mg) (d : DF K "letters_in" st_letters_in) : DefAt K mg "letters_in" st_letters_in ["words"] := by
  obtain ⟨f, oc, od, kV, dc, pm, an, cd, ct, sl, a, l, c, k⟩ := d
  have F := fun_mk (st := st_letters_in) l c k
  exact ⟨f, _, F, PySem.W.mg_of X G a, F.binds (ps := ["words"]) fun _ _ _ _ _ _ us hl => match us, hl with | [_], _ => rfl⟩
theorem at_names_in (X : K.In h) (G : h.Ns mainGlobals mg) (d : DF K "names_in" st_names_in) : DefAt K mg "names_in" st_names_in ["words"] := by
  obtain ⟨f, oc, od, kV, dc, pm, an, cd, ct, sl, a, l, c, k⟩ := d
  have F := fun_mk (st := st_names_in) l c k
  exact ⟨f, _, F, PySem.W.mg_of X G a, F.binds (ps := ["words"]) fun _ _ _ _ _ _ us hl => match us, hl with | [_], _ => rfl⟩
theorem at_cost_in (X : K.In h) (G : h.Ns mainGlobals mg) (d : DF K "cost_in" st_cost_in) : DefAt K mg "cost_in" st_cost_in ["words", "word"] := by
  obtain ⟨f, oc, od, kV, dc, pm, an, cd, ct, sl, a, l, c, k⟩ := d
  have F := fun_mk (st := st_cost_in) l c k
  exact ⟨f, _, F, PySem.W.mg_of X G a, F.binds (ps := ["words", "word"]) fun _ _ _ _ _ _ us hl => match us, hl with | [_, _], _ => rfl⟩
theorem at_has_word (X : K.In h) (G : h.Ns mainGlobals mg) (d : DF K "has_word" st_has_word) : DefAt K mg "has_word" st_has_word ["words", "word"] := by
  obtain ⟨f, oc, od, kV, dc, pm, an, cd, ct, sl, a, l, c, k⟩ := d
  have F := fun_mk (st := st_has_word) l c k
  exact ⟨f, _, F, PySem.W.mg_of X G a, F.binds (ps := ["words", "word"]) fun _ _ _ _ _ _ us hl => match us, hl with | [_, _], _ => rfl⟩
theorem at_words_from (X : K.In h) (G : h.Ns mainGlobals mg) (d : DF K "words_from" st_words_from) : DefAt K mg "words_from" st_words_from ["words", "text", "index"] := by
  obtain ⟨f, oc, od, kV, dc, pm, an, cd, ct, sl, a, l, c, k⟩ := d
  have F := fun_mk (st := st_words_from) l c k
  exact ⟨f, _, F, PySem.W.mg_of X G a, F.binds (ps := ["words", "text", "index"]) fun _ _ _ _ _ _ us hl => match us, hl with | [_, _, _], _ => rfl⟩
theorem at_longest_from (X : K.In h) (G : h.Ns mainGlobals mg) (d : DF K "longest_from" st_longest_from) : DefAt K mg "longest_from" st_longest_from ["words", "text", "index"] := by
  obtain ⟨f, oc, od, kV, dc, pm, an, cd, ct, sl, a, l, c, k⟩ := d
  have F := fun_mk (st := st_longest_from) l c k
  exact ⟨f, _, F, PySem.W.mg_of X G a, F.binds (ps := ["words", "text", "index"]) fun _ _ _ _ _ _ us hl => match us, hl with | [_, _, _], _ => rfl⟩
theorem at_is_integer (X : K.In h) (G : h.Ns mainGlobals mg) (d : DF K "is_integer" st_is_integer) : DefAt K mg "is_integer" st_is_integer ["value"] := by
  obtain ⟨f, oc, od, kV, dc, pm, an, cd, ct, sl, a, l, c, k⟩ := d
  have F := fun_mk (st := st_is_integer) l c k
  exact ⟨f, _, F, PySem.W.mg_of X G a, F.binds (ps := ["value"]) fun _ _ _ _ _ _ us hl => match us, hl with | [_], _ => rfl⟩
theorem at_check_words (X : K.In h) (G : h.Ns mainGlobals mg) (d : DF K "check_words" st_check_words) : DefAt K mg "check_words" st_check_words ["words"] := by
  obtain ⟨f, oc, od, kV, dc, pm, an, cd, ct, sl, a, l, c, k⟩ := d
  have F := fun_mk (st := st_check_words) l c k
  exact ⟨f, _, F, PySem.W.mg_of X G a, F.binds (ps := ["words"]) fun _ _ _ _ _ _ us hl => match us, hl with | [_], _ => rfl⟩
theorem at_match_of (X : K.In h) (G : h.Ns mainGlobals mg) (d : DF K "match_of" st_match_of) : DefAt K mg "match_of" st_match_of ["words", "text"] := by
  obtain ⟨f, oc, od, kV, dc, pm, an, cd, ct, sl, a, l, c, k⟩ := d
  have F := fun_mk (st := st_match_of) l c k
  exact ⟨f, _, F, PySem.W.mg_of X G a, F.binds (ps := ["words", "text"]) fun _ _ _ _ _ _ us hl => match us, hl with | [_, _], _ => rfl⟩
theorem at_cost_of_row (X : K.In h) (G : h.Ns mainGlobals mg) (d : DF K "cost_of_row" st_cost_of_row) : DefAt K mg "cost_of_row" st_cost_of_row ["words", "row"] := by
  obtain ⟨f, oc, od, kV, dc, pm, an, cd, ct, sl, a, l, c, k⟩ := d
  have F := fun_mk (st := st_cost_of_row) l c k
  exact ⟨f, _, F, PySem.W.mg_of X G a, F.binds (ps := ["words", "row"]) fun _ _ _ _ _ _ us hl => match us, hl with | [_, _], _ => rfl⟩
theorem at_can_grow (X : K.In h) (G : h.Ns mainGlobals mg) (d : DF K "can_grow" st_can_grow) : DefAt K mg "can_grow" st_can_grow ["words", "text"] := by
  obtain ⟨f, oc, od, kV, dc, pm, an, cd, ct, sl, a, l, c, k⟩ := d
  have F := fun_mk (st := st_can_grow) l c k
  exact ⟨f, _, F, PySem.W.mg_of X G a, F.binds (ps := ["words", "text"]) fun _ _ _ _ _ _ us hl => match us, hl with | [_, _], _ => rfl⟩
theorem at_read_on (X : K.In h) (G : h.Ns mainGlobals mg) (d : DF K "read_on" st_read_on) : DefAt K mg "read_on" st_read_on ["words", "held", "letter"] := by
  obtain ⟨f, oc, od, kV, dc, pm, an, cd, ct, sl, a, l, c, k⟩ := d
  have F := fun_mk (st := st_read_on) l c k
  exact ⟨f, _, F, PySem.W.mg_of X G a, F.binds (ps := ["words", "held", "letter"]) fun _ _ _ _ _ _ us hl => match us, hl with | [_, _, _], _ => rfl⟩
theorem at_steps_of (X : K.In h) (G : h.Ns mainGlobals mg) (d : DF K "steps_of" st_steps_of) : DefAt K mg "steps_of" st_steps_of ["words", "held", "tail", "letter"] := by
  obtain ⟨f, oc, od, kV, dc, pm, an, cd, ct, sl, a, l, c, k⟩ := d
  have F := fun_mk (st := st_steps_of) l c k
  exact ⟨f, _, F, PySem.W.mg_of X G a, F.binds (ps := ["words", "held", "tail", "letter"]) fun _ _ _ _ _ _ us hl => match us, hl with | [_, _, _, _], _ => rfl⟩
theorem at_Graph_init (X : K.In h) (G : h.Ns mainGlobals mg) {C : Addr} (hC : PySem.W.nsIn K mainGlobals "Graph" = some (some (.ref C))) (kf : KF K C) (d : MF K C "__init__" "Graph.__init__" st_Graph_init) : InitAt K mg "Graph" C "Graph.__init__" st_Graph_init ["self", "words"] := by
  obtain ⟨f, oc, od, kV, dc, pm, an, cd, ct, sl, a, i, l, c, k⟩ := d
  have F := fun_mk (st := st_Graph_init) l c k
  exact ⟨f, _, F, ⟨kf.mks, a, i, kf.kc⟩, PySem.W.mg_of X G hC, F.binds (ps := ["self", "words"]) fun _ _ _ _ _ _ us hl => match us, hl with | [_, _], _ => rfl⟩
theorem at_Graph_add_steps {C : Addr} (d : MF K C "add_steps" "Graph.add_steps" st_Graph_add_steps) : MethAt K C "add_steps" "Graph.add_steps" st_Graph_add_steps ["self", "place", "letter"] := by
  obtain ⟨f, oc, od, kV, dc, pm, an, cd, ct, sl, a, i, l, c, k⟩ := d
  have F := fun_mk (st := st_Graph_add_steps) l c k
  exact ⟨f, _, F, ⟨a, i, k⟩, F.binds (ps := ["self", "place", "letter"]) fun _ _ _ _ _ _ us hl => match us, hl with | [_, _, _], _ => rfl⟩
theorem at_check_bound (X : K.In h) (G : h.Ns mainGlobals mg) (d : DF K "check_bound" st_check_bound) : DefAt K mg "check_bound" st_check_bound ["words", "a", "b", "c"] := by
  obtain ⟨f, oc, od, kV, dc, pm, an, cd, ct, sl, a, l, c, k⟩ := d
  have F := fun_mk (st := st_check_bound) l c k
  exact ⟨f, _, F, PySem.W.mg_of X G a, F.binds (ps := ["words", "a", "b", "c"]) fun _ _ _ _ _ _ us hl => match us, hl with | [_, _, _, _], _ => rfl⟩
theorem at_is_triple (X : K.In h) (G : h.Ns mainGlobals mg) (d : DF K "is_triple" st_is_triple) : DefAt K mg "is_triple" st_is_triple ["value"] := by
  obtain ⟨f, oc, od, kV, dc, pm, an, cd, ct, sl, a, l, c, k⟩ := d
  have F := fun_mk (st := st_is_triple) l c k
  exact ⟨f, _, F, PySem.W.mg_of X G a, F.binds (ps := ["value"]) fun _ _ _ _ _ _ us hl => match us, hl with | [_], _ => rfl⟩
theorem at_is_table (X : K.In h) (G : h.Ns mainGlobals mg) (d : DF K "is_table" st_is_table) : DefAt K mg "is_table" st_is_table ["value"] := by
  obtain ⟨f, oc, od, kV, dc, pm, an, cd, ct, sl, a, l, c, k⟩ := d
  have F := fun_mk (st := st_is_table) l c k
  exact ⟨f, _, F, PySem.W.mg_of X G a, F.binds (ps := ["value"]) fun _ _ _ _ _ _ us hl => match us, hl with | [_], _ => rfl⟩
theorem at_ends_well (X : K.In h) (G : h.Ns mainGlobals mg) (d : DF K "ends_well" st_ends_well) : DefAt K mg "ends_well" st_ends_well ["words", "b", "c", "triple"] := by
  obtain ⟨f, oc, od, kV, dc, pm, an, cd, ct, sl, a, l, c, k⟩ := d
  have F := fun_mk (st := st_ends_well) l c k
  exact ⟨f, _, F, PySem.W.mg_of X G a, F.binds (ps := ["words", "b", "c", "triple"]) fun _ _ _ _ _ _ us hl => match us, hl with | [_, _, _, _], _ => rfl⟩
theorem at_goes_well (X : K.In h) (G : h.Ns mainGlobals mg) (d : DF K "goes_well" st_goes_well) : DefAt K mg "goes_well" st_goes_well ["words", "a", "b", "table", "triple"] := by
  obtain ⟨f, oc, od, kV, dc, pm, an, cd, ct, sl, a, l, c, k⟩ := d
  have F := fun_mk (st := st_goes_well) l c k
  exact ⟨f, _, F, PySem.W.mg_of X G a, F.binds (ps := ["words", "a", "b", "table", "triple"]) fun _ _ _ _ _ _ us hl => match us, hl with | [_, _, _, _, _], _ => rfl⟩
theorem at_is_over (X : K.In h) (G : h.Ns mainGlobals mg) (d : DF K "is_over" st_is_over) : DefAt K mg "is_over" st_is_over ["words", "text"] := by
  obtain ⟨f, oc, od, kV, dc, pm, an, cd, ct, sl, a, l, c, k⟩ := d
  have F := fun_mk (st := st_is_over) l c k
  exact ⟨f, _, F, PySem.W.mg_of X G a, F.binds (ps := ["words", "text"]) fun _ _ _ _ _ _ us hl => match us, hl with | [_, _], _ => rfl⟩
theorem at_fit (X : K.In h) (G : h.Ns mainGlobals mg) (d : DF K "fit" st_fit) : DefAt K mg "fit" st_fit ["words", "a", "b", "c", "value"] := by
  obtain ⟨f, oc, od, kV, dc, pm, an, cd, ct, sl, a, l, c, k⟩ := d
  have F := fun_mk (st := st_fit) l c k
  exact ⟨f, _, F, PySem.W.mg_of X G a, F.binds (ps := ["words", "a", "b", "c", "value"]) fun _ _ _ _ _ _ us hl => match us, hl with | [_, _, _, _, _], _ => rfl⟩
theorem at_are_right (X : K.In h) (G : h.Ns mainGlobals mg) (d : DF K "are_right" st_are_right) : DefAt K mg "are_right" st_are_right ["words", "a", "b", "c", "value"] := by
  obtain ⟨f, oc, od, kV, dc, pm, an, cd, ct, sl, a, l, c, k⟩ := d
  have F := fun_mk (st := st_are_right) l c k
  exact ⟨f, _, F, PySem.W.mg_of X G a, F.binds (ps := ["words", "a", "b", "c", "value"]) fun _ _ _ _ _ _ us hl => match us, hl with | [_, _, _, _, _], _ => rfl⟩
theorem at_Climb_init (X : K.In h) (G : h.Ns mainGlobals mg) {C : Addr} (hC : PySem.W.nsIn K mainGlobals "Climb" = some (some (.ref C))) (kf : KF K C) (d : MF K C "__init__" "Climb.__init__" st_Climb_init) : InitAt K mg "Climb" C "Climb.__init__" st_Climb_init ["self", "graph", "a", "b"] := by
  obtain ⟨f, oc, od, kV, dc, pm, an, cd, ct, sl, a, i, l, c, k⟩ := d
  have F := fun_mk (st := st_Climb_init) l c k
  exact ⟨f, _, F, ⟨kf.mks, a, i, kf.kc⟩, PySem.W.mg_of X G hC, F.binds (ps := ["self", "graph", "a", "b"]) fun _ _ _ _ _ _ us hl => match us, hl with | [_, _, _, _], _ => rfl⟩
theorem at_Climb_rise {C : Addr} (d : MF K C "rise" "Climb.rise" st_Climb_rise) : MethAt K C "rise" "Climb.rise" st_Climb_rise ["self"] := by
  obtain ⟨f, oc, od, kV, dc, pm, an, cd, ct, sl, a, i, l, c, k⟩ := d
  have F := fun_mk (st := st_Climb_rise) l c k
  exact ⟨f, _, F, ⟨a, i, k⟩, F.binds (ps := ["self"]) fun _ _ _ _ _ _ us hl => match us, hl with | [_], _ => rfl⟩
theorem at_Climb_circle {C : Addr} (d : MF K C "circle" "Climb.circle" st_Climb_circle) : MethAt K C "circle" "Climb.circle" st_Climb_circle ["self"] := by
  obtain ⟨f, oc, od, kV, dc, pm, an, cd, ct, sl, a, i, l, c, k⟩ := d
  have F := fun_mk (st := st_Climb_circle) l c k
  exact ⟨f, _, F, ⟨a, i, k⟩, F.binds (ps := ["self"]) fun _ _ _ _ _ _ us hl => match us, hl with | [_], _ => rfl⟩
theorem at_potentials_for (X : K.In h) (G : h.Ns mainGlobals mg) (d : DF K "potentials_for" st_potentials_for) : DefAt K mg "potentials_for" st_potentials_for ["words", "a", "b", "c"] := by
  obtain ⟨f, oc, od, kV, dc, pm, an, cd, ct, sl, a, l, c, k⟩ := d
  have F := fun_mk (st := st_potentials_for) l c k
  exact ⟨f, _, F, PySem.W.mg_of X G a, F.binds (ps := ["words", "a", "b", "c"]) fun _ _ _ _ _ _ us hl => match us, hl with | [_, _, _, _], _ => rfl⟩
theorem at_is_bound (X : K.In h) (G : h.Ns mainGlobals mg) (d : DF K "is_bound" st_is_bound) : DefAt K mg "is_bound" st_is_bound ["words", "a", "b", "c"] := by
  obtain ⟨f, oc, od, kV, dc, pm, an, cd, ct, sl, a, l, c, k⟩ := d
  have F := fun_mk (st := st_is_bound) l c k
  exact ⟨f, _, F, PySem.W.mg_of X G a, F.binds (ps := ["words", "a", "b", "c"]) fun _ _ _ _ _ _ us hl => match us, hl with | [_, _, _, _], _ => rfl⟩
theorem at_law_stream (X : K.In h) (G : h.Ns mainGlobals mg) (d : DF K "_law_stream" st_law_stream) : DefAt K mg "_law_stream" st_law_stream ["_law_script"] := by
  obtain ⟨f, oc, od, kV, dc, pm, an, cd, ct, sl, a, l, c, k⟩ := d
  have F := fun_mk (st := st_law_stream) l c k
  exact ⟨f, _, F, PySem.W.mg_of X G a, F.binds (ps := ["_law_script"]) fun _ _ _ _ _ _ us hl => match us, hl with | [_], _ => rfl⟩
theorem at_law_next (X : K.In h) (G : h.Ns mainGlobals mg) (d : DF K "_law_next" st_law_next) : DefAt K mg "_law_next" st_law_next ["_law_stream_here", "_law_many"] := by
  obtain ⟨f, oc, od, kV, dc, pm, an, cd, ct, sl, a, l, c, k⟩ := d
  have F := fun_mk (st := st_law_next) l c k
  exact ⟨f, _, F, PySem.W.mg_of X G a, F.binds (ps := ["_law_stream_here", "_law_many"]) fun _ _ _ _ _ _ us hl => match us, hl with | [_, _], _ => rfl⟩
theorem at_law_is_integer (X : K.In h) (G : h.Ns mainGlobals mg) (d : DF K "_law_is_integer" st_law_is_integer) : DefAt K mg "_law_is_integer" st_law_is_integer ["_law_actual"] := by
  obtain ⟨f, oc, od, kV, dc, pm, an, cd, ct, sl, a, l, c, k⟩ := d
  have F := fun_mk (st := st_law_is_integer) l c k
  exact ⟨f, _, F, PySem.W.mg_of X G a, F.binds (ps := ["_law_actual"]) fun _ _ _ _ _ _ us hl => match us, hl with | [_], _ => rfl⟩
theorem at_law_equal (X : K.In h) (G : h.Ns mainGlobals mg) (d : DF K "_law_equal" st_law_equal) : DefAt K mg "_law_equal" st_law_equal ["_law_actual", "_law_due"] := by
  obtain ⟨f, oc, od, kV, dc, pm, an, cd, ct, sl, a, l, c, k⟩ := d
  have F := fun_mk (st := st_law_equal) l c k
  exact ⟨f, _, F, PySem.W.mg_of X G a, F.binds (ps := ["_law_actual", "_law_due"]) fun _ _ _ _ _ _ us hl => match us, hl with | [_, _], _ => rfl⟩
theorem at_law_cost (X : K.In h) (G : h.Ns mainGlobals mg) (d : DF K "_law_cost" st_law_cost) : DefAt K mg "_law_cost" st_law_cost ["_law_stream_here"] := by
  obtain ⟨f, oc, od, kV, dc, pm, an, cd, ct, sl, a, l, c, k⟩ := d
  have F := fun_mk (st := st_law_cost) l c k
  exact ⟨f, _, F, PySem.W.mg_of X G a, F.binds (ps := ["_law_stream_here"]) fun _ _ _ _ _ _ us hl => match us, hl with | [_], _ => rfl⟩
theorem at_law_words (X : K.In h) (G : h.Ns mainGlobals mg) (d : DF K "_law_words" st_law_words) : DefAt K mg "_law_words" st_law_words ["_law_stream_here"] := by
  obtain ⟨f, oc, od, kV, dc, pm, an, cd, ct, sl, a, l, c, k⟩ := d
  have F := fun_mk (st := st_law_words) l c k
  exact ⟨f, _, F, PySem.W.mg_of X G a, F.binds (ps := ["_law_stream_here"]) fun _ _ _ _ _ _ us hl => match us, hl with | [_], _ => rfl⟩
theorem at_law_letters (X : K.In h) (G : h.Ns mainGlobals mg) (d : DF K "_law_letters" st_law_letters) : DefAt K mg "_law_letters" st_law_letters ["_law_words_here"] := by
  obtain ⟨f, oc, od, kV, dc, pm, an, cd, ct, sl, a, l, c, k⟩ := d
  have F := fun_mk (st := st_law_letters) l c k
  exact ⟨f, _, F, PySem.W.mg_of X G a, F.binds (ps := ["_law_words_here"]) fun _ _ _ _ _ _ us hl => match us, hl with | [_], _ => rfl⟩
theorem at_law_text (X : K.In h) (G : h.Ns mainGlobals mg) (d : DF K "_law_text" st_law_text) : DefAt K mg "_law_text" st_law_text ["_law_stream_here", "_law_words_here", "_law_most"] := by
  obtain ⟨f, oc, od, kV, dc, pm, an, cd, ct, sl, a, l, c, k⟩ := d
  have F := fun_mk (st := st_law_text) l c k
  exact ⟨f, _, F, PySem.W.mg_of X G a, F.binds (ps := ["_law_stream_here", "_law_words_here", "_law_most"]) fun _ _ _ _ _ _ us hl => match us, hl with | [_, _, _], _ => rfl⟩
theorem at_law_match (X : K.In h) (G : h.Ns mainGlobals mg) (d : DF K "_law_match" st_law_match) : DefAt K mg "_law_match" st_law_match ["_law_words_here", "_law_text_here"] := by
  obtain ⟨f, oc, od, kV, dc, pm, an, cd, ct, sl, a, l, c, k⟩ := d
  have F := fun_mk (st := st_law_match) l c k
  exact ⟨f, _, F, PySem.W.mg_of X G a, F.binds (ps := ["_law_words_here", "_law_text_here"]) fun _ _ _ _ _ _ us hl => match us, hl with | [_, _], _ => rfl⟩
theorem at_law_sum (X : K.In h) (G : h.Ns mainGlobals mg) (d : DF K "_law_sum" st_law_sum) : DefAt K mg "_law_sum" st_law_sum ["_law_words_here", "_law_row"] := by
  obtain ⟨f, oc, od, kV, dc, pm, an, cd, ct, sl, a, l, c, k⟩ := d
  have F := fun_mk (st := st_law_sum) l c k
  exact ⟨f, _, F, PySem.W.mg_of X G a, F.binds (ps := ["_law_words_here", "_law_row"]) fun _ _ _ _ _ _ us hl => match us, hl with | [_, _], _ => rfl⟩
theorem at_law_all_texts (X : K.In h) (G : h.Ns mainGlobals mg) (d : DF K "_law_all_texts" st_law_all_texts) : DefAt K mg "_law_all_texts" st_law_all_texts ["_law_words_here", "_law_most"] := by
  obtain ⟨f, oc, od, kV, dc, pm, an, cd, ct, sl, a, l, c, k⟩ := d
  have F := fun_mk (st := st_law_all_texts) l c k
  exact ⟨f, _, F, PySem.W.mg_of X G a, F.binds (ps := ["_law_words_here", "_law_most"]) fun _ _ _ _ _ _ us hl => match us, hl with | [_, _], _ => rfl⟩
theorem at_law_least (X : K.In h) (G : h.Ns mainGlobals mg) (d : DF K "_law_least" st_law_least) : DefAt K mg "_law_least" st_law_least ["_law_words_here", "_law_text_here"] := by
  obtain ⟨f, oc, od, kV, dc, pm, an, cd, ct, sl, a, l, c, k⟩ := d
  have F := fun_mk (st := st_law_least) l c k
  exact ⟨f, _, F, PySem.W.mg_of X G a, F.binds (ps := ["_law_words_here", "_law_text_here"]) fun _ _ _ _ _ _ us hl => match us, hl with | [_, _], _ => rfl⟩
theorem at_law_grows (X : K.In h) (G : h.Ns mainGlobals mg) (d : DF K "_law_grows" st_law_grows) : DefAt K mg "_law_grows" st_law_grows ["_law_words_here", "_law_text_here"] := by
  obtain ⟨f, oc, od, kV, dc, pm, an, cd, ct, sl, a, l, c, k⟩ := d
  have F := fun_mk (st := st_law_grows) l c k
  exact ⟨f, _, F, PySem.W.mg_of X G a, F.binds (ps := ["_law_words_here", "_law_text_here"]) fun _ _ _ _ _ _ us hl => match us, hl with | [_, _], _ => rfl⟩
theorem at_law_read (X : K.In h) (G : h.Ns mainGlobals mg) (d : DF K "_law_read" st_law_read) : DefAt K mg "_law_read" st_law_read ["_law_words_here", "_law_held", "_law_letter"] := by
  obtain ⟨f, oc, od, kV, dc, pm, an, cd, ct, sl, a, l, c, k⟩ := d
  have F := fun_mk (st := st_law_read) l c k
  exact ⟨f, _, F, PySem.W.mg_of X G a, F.binds (ps := ["_law_words_here", "_law_held", "_law_letter"]) fun _ _ _ _ _ _ us hl => match us, hl with | [_, _, _], _ => rfl⟩
theorem at_law_steps (X : K.In h) (G : h.Ns mainGlobals mg) (d : DF K "_law_steps" st_law_steps) : DefAt K mg "_law_steps" st_law_steps ["_law_words_here", "_law_held", "_law_tail", "_law_letter"] := by
  obtain ⟨f, oc, od, kV, dc, pm, an, cd, ct, sl, a, l, c, k⟩ := d
  have F := fun_mk (st := st_law_steps) l c k
  exact ⟨f, _, F, PySem.W.mg_of X G a, F.binds (ps := ["_law_words_here", "_law_held", "_law_tail", "_law_letter"]) fun _ _ _ _ _ _ us hl => match us, hl with | [_, _, _, _], _ => rfl⟩
theorem at_law_graph (X : K.In h) (G : h.Ns mainGlobals mg) (d : DF K "_law_graph" st_law_graph) : DefAt K mg "_law_graph" st_law_graph ["_law_words_here"] := by
  obtain ⟨f, oc, od, kV, dc, pm, an, cd, ct, sl, a, l, c, k⟩ := d
  have F := fun_mk (st := st_law_graph) l c k
  exact ⟨f, _, F, PySem.W.mg_of X G a, F.binds (ps := ["_law_words_here"]) fun _ _ _ _ _ _ us hl => match us, hl with | [_], _ => rfl⟩
theorem at_law_climb (X : K.In h) (G : h.Ns mainGlobals mg) (d : DF K "_law_climb" st_law_climb) : DefAt K mg "_law_climb" st_law_climb ["_law_pairs", "_law_edges", "_law_a", "_law_b"] := by
  obtain ⟨f, oc, od, kV, dc, pm, an, cd, ct, sl, a, l, c, k⟩ := d
  have F := fun_mk (st := st_law_climb) l c k
  exact ⟨f, _, F, PySem.W.mg_of X G a, F.binds (ps := ["_law_pairs", "_law_edges", "_law_a", "_law_b"]) fun _ _ _ _ _ _ us hl => match us, hl with | [_, _, _, _], _ => rfl⟩
theorem at_law_rest (X : K.In h) (G : h.Ns mainGlobals mg) (d : DF K "_law_rest" st_law_rest) : DefAt K mg "_law_rest" st_law_rest ["_law_words_here", "_law_b", "_law_heights"] := by
  obtain ⟨f, oc, od, kV, dc, pm, an, cd, ct, sl, a, l, c, k⟩ := d
  have F := fun_mk (st := st_law_rest) l c k
  exact ⟨f, _, F, PySem.W.mg_of X G a, F.binds (ps := ["_law_words_here", "_law_b", "_law_heights"]) fun _ _ _ _ _ _ us hl => match us, hl with | [_, _, _], _ => rfl⟩
end
theorem all_mk {l : PySem.W.OpenLaw} {w : World} {K : PySem.W.Frag} {h : Heap} {mg : Str → Option Value} {fa CG CC f0 : Addr} {oc kV dc pm cd ct : Value} {od an : Option Addr} {sl : Array (Option Value)} (X : K.In h) (G : h.Ns mainGlobals mg) (hfa : mg "law" = some (.ref fa))
    (aG : PySem.W.nsIn K mainGlobals "Graph" = some (some (.ref CG)))
    (aC : PySem.W.nsIn K mainGlobals "Climb" = some (some (.ref CC)))
    (law1 : PySem.W.nsIn K mainGlobals "law" = some (some (.ref f0)))
    (law2 : K.lookup f0 = some ⟨oc, od, .func (PySem.W.fnOf "law" "law" (defArgs st_law) (defBody st_law) (defScope st_law) .none kV dc pm an cd ct), sl⟩)
    (law3 : PySem.W.codeIn K cd "law" = true)
    (law4 : PySem.W.keepIn K (.ref f0) = true)
    (kG : KF K CG)
    (kC : KF K CC)
    (nG0 : PySem.W.findIn K (.ref CG) "words" = some none)
    (nG1 : PySem.W.findIn K (.ref CG) "pairs" = some none)
    (nG2 : PySem.W.findIn K (.ref CG) "places" = some none)
    (nG3 : PySem.W.findIn K (.ref CG) "edges" = some none)
    (nC0 : PySem.W.findIn K (.ref CC) "graph" = some none)
    (nC1 : PySem.W.findIn K (.ref CC) "heights" = some none)
    (nC2 : PySem.W.findIn K (.ref CC) "last" = some none)
    (nC3 : PySem.W.findIn K (.ref CC) "weights" = some none)
    (z_len : PySem.W.nsIn K mainGlobals "len" = some none)
    (z_all : PySem.W.nsIn K mainGlobals "all" = some none)
    (z_any : PySem.W.nsIn K mainGlobals "any" = some none)
    (z_sum : PySem.W.nsIn K mainGlobals "sum" = some none)
    (z_min : PySem.W.nsIn K mainGlobals "min" = some none)
    (z_max : PySem.W.nsIn K mainGlobals "max" = some none)
    (z_range : PySem.W.nsIn K mainGlobals "range" = some none)
    (z_zip : PySem.W.nsIn K mainGlobals "zip" = some none)
    (z_enumerate : PySem.W.nsIn K mainGlobals "enumerate" = some none)
    (z_tuple : PySem.W.nsIn K mainGlobals "tuple" = some none)
    (z_list : PySem.W.nsIn K mainGlobals "list" = some none)
    (z_int : PySem.W.nsIn K mainGlobals "int" = some none)
    (z_str : PySem.W.nsIn K mainGlobals "str" = some none)
    (z_bool : PySem.W.nsIn K mainGlobals "bool" = some none)
    (z_abs : PySem.W.nsIn K mainGlobals "abs" = some none)
    (z_sorted : PySem.W.nsIn K mainGlobals "sorted" = some none)
    (z_isinstance : PySem.W.nsIn K mainGlobals "isinstance" = some none)
    (c_ALPHABET : CnF K "ALPHABET" (.str "abcdefghijklmnopqrstuvwxyz"))
    (c_LONGEST : CnF K "LONGEST" (.int 4))
    (c_MOST_WORDS : CnF K "MOST_WORDS" (.int 8))
    (c_MOST_COST : CnF K "MOST_COST" (.int 9))
    (c_MOST_FACTOR : CnF K "MOST_FACTOR" (.int 1000))
    (c_MOST_REST : CnF K "MOST_REST" (.int 100000))
    (d_is_between : DF K "is_between" st_is_between)
    (d_is_word : DF K "is_word" st_is_word)
    (d_is_entry : DF K "is_entry" st_is_entry)
    (d_is_list : DF K "is_list" st_is_list)
    (d_letters_in : DF K "letters_in" st_letters_in)
    (d_names_in : DF K "names_in" st_names_in)
    (d_cost_in : DF K "cost_in" st_cost_in)
    (d_has_word : DF K "has_word" st_has_word)
    (d_words_from : DF K "words_from" st_words_from)
    (d_longest_from : DF K "longest_from" st_longest_from)
    (d_is_integer : DF K "is_integer" st_is_integer)
    (d_check_words : DF K "check_words" st_check_words)
    (d_match_of : DF K "match_of" st_match_of)
    (d_cost_of_row : DF K "cost_of_row" st_cost_of_row)
    (d_can_grow : DF K "can_grow" st_can_grow)
    (d_read_on : DF K "read_on" st_read_on)
    (d_steps_of : DF K "steps_of" st_steps_of)
    (d_Graph_init : MF K CG "__init__" "Graph.__init__" st_Graph_init)
    (d_Graph_add_steps : MF K CG "add_steps" "Graph.add_steps" st_Graph_add_steps)
    (d_check_bound : DF K "check_bound" st_check_bound)
    (d_is_triple : DF K "is_triple" st_is_triple)
    (d_is_table : DF K "is_table" st_is_table)
    (d_ends_well : DF K "ends_well" st_ends_well)
    (d_goes_well : DF K "goes_well" st_goes_well)
    (d_is_over : DF K "is_over" st_is_over)
    (d_fit : DF K "fit" st_fit)
    (d_are_right : DF K "are_right" st_are_right)
    (d_Climb_init : MF K CC "__init__" "Climb.__init__" st_Climb_init)
    (d_Climb_rise : MF K CC "rise" "Climb.rise" st_Climb_rise)
    (d_Climb_circle : MF K CC "circle" "Climb.circle" st_Climb_circle)
    (d_potentials_for : DF K "potentials_for" st_potentials_for)
    (d_is_bound : DF K "is_bound" st_is_bound)
    (d_law_stream : DF K "_law_stream" st_law_stream)
    (d_law_next : DF K "_law_next" st_law_next)
    (d_law_is_integer : DF K "_law_is_integer" st_law_is_integer)
    (d_law_equal : DF K "_law_equal" st_law_equal)
    (d_law_cost : DF K "_law_cost" st_law_cost)
    (d_law_words : DF K "_law_words" st_law_words)
    (d_law_letters : DF K "_law_letters" st_law_letters)
    (d_law_text : DF K "_law_text" st_law_text)
    (d_law_match : DF K "_law_match" st_law_match)
    (d_law_sum : DF K "_law_sum" st_law_sum)
    (d_law_all_texts : DF K "_law_all_texts" st_law_all_texts)
    (d_law_least : DF K "_law_least" st_law_least)
    (d_law_grows : DF K "_law_grows" st_law_grows)
    (d_law_read : DF K "_law_read" st_law_read)
    (d_law_steps : DF K "_law_steps" st_law_steps)
    (d_law_graph : DF K "_law_graph" st_law_graph)
    (d_law_climb : DF K "_law_climb" st_law_climb)
    (d_law_rest : DF K "_law_rest" st_law_rest) :
    ∃ fd : FuncData, (∀ (s : Shared) (v : Value), BindsTo s fd ⟨[v], []⟩ [("_law_script", v)]) ∧ ∀ base : Heap, K.In base → base.Ns mainGlobals mg → FnOk l.prog w K mg base CX0 11 fa fd ["_law_script"] (sp_law K) := by
  have e := hfa.symm.trans (PySem.W.mg_of X G law1)
  cases e
  refine ⟨PySem.W.fnOf "law" "law" (defArgs st_law) (defBody st_law) (defScope st_law) .none kV dc pm an cd ct, fun s v => .of_eq rfl, fun base _ _ => ?_⟩
  have B : Bl mg := ⟨PySem.W.mg_none_of X G z_len, PySem.W.mg_none_of X G z_all, PySem.W.mg_none_of X G z_any, PySem.W.mg_none_of X G z_sum, PySem.W.mg_none_of X G z_min, PySem.W.mg_none_of X G z_max, PySem.W.mg_none_of X G z_range, PySem.W.mg_none_of X G z_zip, PySem.W.mg_none_of X G z_enumerate, PySem.W.mg_none_of X G z_tuple, PySem.W.mg_none_of X G z_list, PySem.W.mg_none_of X G z_int, PySem.W.mg_none_of X G z_str, PySem.W.mg_none_of X G z_bool, PySem.W.mg_none_of X G z_abs, PySem.W.mg_none_of X G z_sorted, PySem.W.mg_none_of X G z_isinstance⟩
  have D : Cst mg := ⟨c_ALPHABET.at X G, c_LONGEST.at X G, c_MOST_WORDS.at X G, c_MOST_COST.at X G, c_MOST_FACTOR.at X G, c_MOST_REST.at X G⟩
  have TG : GF K CG := ⟨kG.cls, nG0, nG1, nG2, nG3⟩
  have TC : CF K CC := ⟨kC.cls, nC0, nC1, nC2, nC3⟩
  have q_is_between := ok_between (P := l.prog) (w := w) (base := base) B D (at_is_between X G d_is_between) 
  have q_is_integer := ok_integer (P := l.prog) (w := w) (base := base) B D (at_is_integer X G d_is_integer) 
  have q_is_word := ok_word (P := l.prog) (w := w) (base := base) B D (at_is_word X G d_is_word) 
  have q_is_entry := ok_entry (P := l.prog) (w := w) (base := base) B D (at_is_entry X G d_is_entry) q_is_word q_is_between
  have q_is_list := ok_list (P := l.prog) (w := w) (base := base) B D (at_is_list X G d_is_list) q_is_entry
  have q_letters_in := ok_letters (P := l.prog) (w := w) (base := base) B D (at_letters_in X G d_letters_in) 
  have q_names_in := ok_names (P := l.prog) (w := w) (base := base) B D (at_names_in X G d_names_in) 
  have q_cost_in := ok_cost (P := l.prog) (w := w) (base := base) B D (at_cost_in X G d_cost_in) 
  have q_has_word := ok_has (P := l.prog) (w := w) (base := base) B D (at_has_word X G d_has_word) q_names_in
  have q_words_from := ok_wfrom (P := l.prog) (w := w) (base := base) B D (at_words_from X G d_words_from) q_names_in
  have q_longest_from := ok_lfrom (P := l.prog) (w := w) (base := base) B D (at_longest_from X G d_longest_from) q_words_from
  have q_check_words := ok_check (P := l.prog) (w := w) (base := base) B D (at_check_words X G d_check_words) q_is_list
  have q_match_of := ok_match (P := l.prog) (w := w) (base := base) B D (at_match_of X G d_match_of) q_longest_from
  have q_cost_of_row := ok_rowc (P := l.prog) (w := w) (base := base) B D (at_cost_of_row X G d_cost_of_row) q_cost_in
  have q_can_grow := ok_grow (P := l.prog) (w := w) (base := base) B D (at_can_grow X G d_can_grow) 
  have q_read_on := ok_read (P := l.prog) (w := w) (base := base) B D (at_read_on X G d_read_on) q_longest_from q_can_grow
  have q_steps_of := ok_steps (P := l.prog) (w := w) (base := base) B D (at_steps_of X G d_steps_of) q_read_on q_cost_of_row q_has_word q_cost_in q_can_grow
  have q_check_bound := ok_checkb (P := l.prog) (w := w) (base := base) B D (at_check_bound X G d_check_bound) q_check_words q_is_integer
  have q_Graph_add_steps := ok_add (P := l.prog) (w := w) (base := base) B TG (at_Graph_add_steps d_Graph_add_steps) q_steps_of
  have q_Graph_init := ok_Graph (P := l.prog) (w := w) (base := base) B TG (at_Graph_init X G aG kG d_Graph_init) q_letters_in q_Graph_add_steps
  have q_Climb_rise := ok_rise (P := l.prog) (w := w) (base := base) B TG TC (at_Climb_rise d_Climb_rise) 
  have q_Climb_circle := ok_circle (P := l.prog) (w := w) (base := base) B TG TC (at_Climb_circle d_Climb_circle) q_Climb_rise
  have q_Climb_init := ok_Climb (P := l.prog) (w := w) (base := base) B TG TC (at_Climb_init X G aC kC d_Climb_init) 
  have q_ends_well := ok_ends (P := l.prog) (w := w) (base := base) B D (at_ends_well X G d_ends_well) q_cost_of_row q_match_of
  have q_potentials_for := ok_pot (P := l.prog) (w := w) (base := base) B D TG TC (at_potentials_for X G d_potentials_for) q_check_bound q_Graph_init q_Climb_init q_Climb_circle q_ends_well
  have q_is_bound := ok_isb (P := l.prog) (w := w) (base := base) B D (at_is_bound X G d_is_bound) q_potentials_for
  have q_is_triple := ok_triple (P := l.prog) (w := w) (base := base) B (at_is_triple X G d_is_triple) q_is_integer
  have q_is_table := ok_table (P := l.prog) (w := w) (base := base) B (at_is_table X G d_is_table) q_is_triple
  have q_is_over := ok_over (P := l.prog) (w := w) (base := base) B (at_is_over X G d_is_over) q_letters_in
  have q_goes_well := ok_goes (P := l.prog) (w := w) (base := base) B (at_goes_well X G d_goes_well) q_letters_in q_steps_of
  have q_fit := ok_fit (P := l.prog) (w := w) (base := base) B (at_fit X G d_fit) q_is_table q_is_over q_ends_well q_goes_well
  have q_are_right := ok_right (P := l.prog) (w := w) (base := base) B (at_are_right X G d_are_right) q_check_bound q_fit
  have q_law_letters := ok_lletters (P := l.prog) (w := w) (base := base) B (at_law_letters X G d_law_letters) 
  have q_law_grows := ok_lgrow (P := l.prog) (w := w) (base := base) B (at_law_grows X G d_law_grows) 
  have q_law_sum := ok_lsum (P := l.prog) (w := w) (base := base) B (at_law_sum X G d_law_sum) 
  have q_law_match := ok_lmatch (P := l.prog) (w := w) (base := base) B (at_law_match X G d_law_match) 
  have q_law_read := ok_lread (P := l.prog) (w := w) (base := base) B (at_law_read X G d_law_read) q_law_grows q_law_match q_law_sum
  have q_law_steps := ok_lsteps (P := l.prog) (w := w) (base := base) B (at_law_steps X G d_law_steps) q_law_read q_law_grows
  have q_law_graph := ok_lgraph (P := l.prog) (w := w) (base := base) B (at_law_graph X G d_law_graph) q_law_letters q_law_steps
  have q_law_all_texts := ok_lall (P := l.prog) (w := w) (base := base) B (at_law_all_texts X G d_law_all_texts) q_law_letters
  have q_law_least := ok_least (P := l.prog) (w := w) (base := base) B (at_law_least X G d_law_least) 
  have q_law_climb := ok_lclimb (P := l.prog) (w := w) (base := base) B (at_law_climb X G d_law_climb) 
  have q_law_rest := ok_lrest (P := l.prog) (w := w) (base := base) B (at_law_rest X G d_law_rest) q_law_sum q_law_match
  have q_law_stream := ok_lstream (P := l.prog) (w := w) (base := base) B (at_law_stream X G d_law_stream) 
  have q_law_next := ok_lnext (P := l.prog) (w := w) (base := base) B (at_law_next X G d_law_next) 
  have q_law_is_integer := ok_lint (P := l.prog) (w := w) (base := base) B (at_law_is_integer X G d_law_is_integer) 
  have q_law_equal0 := ok_lequal0 (P := l.prog) (w := w) (base := base) (at_law_equal X G d_law_equal)
  have q_law_equal := ok_lequal (P := l.prog) (w := w) (base := base) B (at_law_equal X G d_law_equal) q_law_is_integer q_law_equal0
  have q_law_cost := ok_lcost (P := l.prog) (w := w) (base := base) B (at_law_cost X G d_law_cost) q_law_next
  have q_law_words := ok_lwords (P := l.prog) (w := w) (base := base) B (at_law_words X G d_law_words) q_law_next q_law_cost
  have q_law_text := ok_ltext (P := l.prog) (w := w) (base := base) B (at_law_text X G d_law_text) q_law_next q_law_letters
  exact ok_law B (fun_mk (st := st_law) law2 law3 law4) q_law_stream q_law_words q_law_graph q_law_next q_law_climb q_law_rest q_potentials_for q_is_bound q_law_equal q_are_right q_law_all_texts q_law_text q_law_sum q_law_match q_law_least
theorem walk {l : PySem.W.OpenLaw} {q : Program} {loose : List Str} {XP : (Str → Option Value) → Heap → Prop} {YP : World → Heap → Prop} {d : DefRec} {K : Params → PySem.W.Frag} (hn : l.most = some 63) (hdf : d.params.defaults = [])
    (hY : ∀ (w : World) (h : Heap), YP w h → (K w.params).In h)
    (F : ∀ (w : World) (mg : Str → Option Value) (fa : Addr) (h : Heap), (K w.params).In h → h.Ns mainGlobals mg → mg d.name = some (.ref fa) →
      ∃ fd : FuncData, (∀ (s : Shared) (u : Value), BindsTo s fd ⟨[u], []⟩ [("_law_script", u)]) ∧ ∀ base : Heap, (K w.params).In base → base.Ns mainGlobals mg → FnOk l.prog w (K w.params) mg base CX0 11 fa fd ["_law_script"] (sp_law (K w.params))) :
    PySem.W.WalkO q loose XP YP l.row.toRowW d [] (fun f vs => PySem.call f vs) :=
  L2.walk_of (n := 63) (k := 11) (x := "_law_script") (CX := fun _ => CX0) (sp := fun w => sp_law (K w.params)) hn (by decide) hdf ⟨rfl, by decide, by decide⟩ hY F (fun _ _ a ns hl _ hS => ⟨a, ns, rfl, hS, hl, fun _ => rfl⟩) fun _ _ _ _ _ z => z
end K61

open PySem PySem.W PyProof.Rows in
set_option maxRecDepth 100000 in
set_option maxHeartbeats 0 in
theorem PySem.Challenge.cw_greedycuts_k61_whole_bounds_for_all_text_holds : PySem.Challenge.rw_greedycuts_k61_whole_bounds_for_all_text.Holds := by
  w_on; o_law; k_head; (case hw => w_witness2)
  k_fill
  refine K61.walk (l := PySem.Challenge.rw_greedycuts_k61_whole_bounds_for_all_text) rfl rfl (fun w h Y => PySem.W.kIn_of Y) ?F
  case F =>
    intro w mg fa h KX G hmg
    refine' K61.all_mk KX G hmg ?aG ?aC ?law1 ?law2 ?law3 ?law4 ?kG ?kC ?nG0 ?nG1 ?nG2 ?nG3 ?nC0 ?nC1 ?nC2 ?nC3 ?z_len ?z_all ?z_any ?z_sum ?z_min ?z_max ?z_range ?z_zip ?z_enumerate ?z_tuple ?z_list ?z_int ?z_str ?z_bool ?z_abs ?z_sorted ?z_isinstance ?c_ALPHABET ?c_LONGEST ?c_MOST_WORDS ?c_MOST_COST ?c_MOST_FACTOR ?c_MOST_REST ?d_is_between ?d_is_word ?d_is_entry ?d_is_list ?d_letters_in ?d_names_in ?d_cost_in ?d_has_word ?d_words_from ?d_longest_from ?d_is_integer ?d_check_words ?d_match_of ?d_cost_of_row ?d_can_grow ?d_read_on ?d_steps_of ?d_Graph_init ?d_Graph_add_steps ?d_check_bound ?d_is_triple ?d_is_table ?d_ends_well ?d_goes_well ?d_is_over ?d_fit ?d_are_right ?d_Climb_init ?d_Climb_rise ?d_Climb_circle ?d_potentials_for ?d_is_bound ?d_law_stream ?d_law_next ?d_law_is_integer ?d_law_equal ?d_law_cost ?d_law_words ?d_law_letters ?d_law_text ?d_law_match ?d_law_sum ?d_law_all_texts ?d_law_least ?d_law_grows ?d_law_read ?d_law_steps ?d_law_graph ?d_law_climb ?d_law_rest
    (case aG => k_is)
    (case aC => k_is)
    (case law1 => k_is)
    (case law2 => k_is)
    (case law3 => k_is)
    (case law4 => k_is)
    (case kG => refine' K61.KF.mk ?pg ?hd ?po ?sa ?mks ?kc; (case pg => k_is); (case hd => k_is); (case po => k_is); (case sa => k_is); (case mks => k_is); (case kc => k_is))
    (case kC => refine' K61.KF.mk ?pg ?hd ?po ?sa ?mks ?kc; (case pg => k_is); (case hd => k_is); (case po => k_is); (case sa => k_is); (case mks => k_is); (case kc => k_is))
    (case nG0 => k_is)
    (case nG1 => k_is)
    (case nG2 => k_is)
    (case nG3 => k_is)
    (case nC0 => k_is)
    (case nC1 => k_is)
    (case nC2 => k_is)
    (case nC3 => k_is)
    (case z_len => k_is)
    (case z_all => k_is)
    (case z_any => k_is)
    (case z_sum => k_is)
    (case z_min => k_is)
    (case z_max => k_is)
    (case z_range => k_is)
    (case z_zip => k_is)
    (case z_enumerate => k_is)
    (case z_tuple => k_is)
    (case z_list => k_is)
    (case z_int => k_is)
    (case z_str => k_is)
    (case z_bool => k_is)
    (case z_abs => k_is)
    (case z_sorted => k_is)
    (case z_isinstance => k_is)
    (case c_ALPHABET => refine' K61.cn_mk ?a ?r; (case a => k_is); (case r => exact ⟨_, rfl⟩))
    (case c_LONGEST => refine' K61.cn_mk ?a ?r; (case a => k_is); (case r => exact ⟨_, rfl⟩))
    (case c_MOST_WORDS => refine' K61.cn_mk ?a ?r; (case a => k_is); (case r => exact ⟨_, rfl⟩))
    (case c_MOST_COST => refine' K61.cn_mk ?a ?r; (case a => k_is); (case r => exact ⟨_, rfl⟩))
    (case c_MOST_FACTOR => refine' K61.cn_mk ?a ?r; (case a => k_is); (case r => exact ⟨_, rfl⟩))
    (case c_MOST_REST => refine' K61.cn_mk ?a ?r; (case a => k_is); (case r => exact ⟨_, rfl⟩))
    (case d_is_between => refine' K61.df_mk ?a ?l ?c ?k; (case a => k_is); (case l => k_is); (case c => k_is); (case k => k_is))
    (case d_is_word => refine' K61.df_mk ?a ?l ?c ?k; (case a => k_is); (case l => k_is); (case c => k_is); (case k => k_is))
    (case d_is_entry => refine' K61.df_mk ?a ?l ?c ?k; (case a => k_is); (case l => k_is); (case c => k_is); (case k => k_is))
    (case d_is_list => refine' K61.df_mk ?a ?l ?c ?k; (case a => k_is); (case l => k_is); (case c => k_is); (case k => k_is))
    (case d_letters_in => refine' K61.df_mk ?a ?l ?c ?k; (case a => k_is); (case l => k_is); (case c => k_is); (case k => k_is))
    (case d_names_in => refine' K61.df_mk ?a ?l ?c ?k; (case a => k_is); (case l => k_is); (case c => k_is); (case k => k_is))
    (case d_cost_in => refine' K61.df_mk ?a ?l ?c ?k; (case a => k_is); (case l => k_is); (case c => k_is); (case k => k_is))
    (case d_has_word => refine' K61.df_mk ?a ?l ?c ?k; (case a => k_is); (case l => k_is); (case c => k_is); (case k => k_is))
    (case d_words_from => refine' K61.df_mk ?a ?l ?c ?k; (case a => k_is); (case l => k_is); (case c => k_is); (case k => k_is))
    (case d_longest_from => refine' K61.df_mk ?a ?l ?c ?k; (case a => k_is); (case l => k_is); (case c => k_is); (case k => k_is))
    (case d_is_integer => refine' K61.df_mk ?a ?l ?c ?k; (case a => k_is); (case l => k_is); (case c => k_is); (case k => k_is))
    (case d_check_words => refine' K61.df_mk ?a ?l ?c ?k; (case a => k_is); (case l => k_is); (case c => k_is); (case k => k_is))
    (case d_match_of => refine' K61.df_mk ?a ?l ?c ?k; (case a => k_is); (case l => k_is); (case c => k_is); (case k => k_is))
    (case d_cost_of_row => refine' K61.df_mk ?a ?l ?c ?k; (case a => k_is); (case l => k_is); (case c => k_is); (case k => k_is))
    (case d_can_grow => refine' K61.df_mk ?a ?l ?c ?k; (case a => k_is); (case l => k_is); (case c => k_is); (case k => k_is))
    (case d_read_on => refine' K61.df_mk ?a ?l ?c ?k; (case a => k_is); (case l => k_is); (case c => k_is); (case k => k_is))
    (case d_steps_of => refine' K61.df_mk ?a ?l ?c ?k; (case a => k_is); (case l => k_is); (case c => k_is); (case k => k_is))
    (case d_Graph_init => refine' K61.mf_mk ?a ?i ?l ?c ?k; (case a => k_is); (case i => k_is); (case l => k_is); (case c => k_is); (case k => k_is))
    (case d_Graph_add_steps => refine' K61.mf_mk ?a ?i ?l ?c ?k; (case a => k_is); (case i => k_is); (case l => k_is); (case c => k_is); (case k => k_is))
    (case d_check_bound => refine' K61.df_mk ?a ?l ?c ?k; (case a => k_is); (case l => k_is); (case c => k_is); (case k => k_is))
    (case d_is_triple => refine' K61.df_mk ?a ?l ?c ?k; (case a => k_is); (case l => k_is); (case c => k_is); (case k => k_is))
    (case d_is_table => refine' K61.df_mk ?a ?l ?c ?k; (case a => k_is); (case l => k_is); (case c => k_is); (case k => k_is))
    (case d_ends_well => refine' K61.df_mk ?a ?l ?c ?k; (case a => k_is); (case l => k_is); (case c => k_is); (case k => k_is))
    (case d_goes_well => refine' K61.df_mk ?a ?l ?c ?k; (case a => k_is); (case l => k_is); (case c => k_is); (case k => k_is))
    (case d_is_over => refine' K61.df_mk ?a ?l ?c ?k; (case a => k_is); (case l => k_is); (case c => k_is); (case k => k_is))
    (case d_fit => refine' K61.df_mk ?a ?l ?c ?k; (case a => k_is); (case l => k_is); (case c => k_is); (case k => k_is))
    (case d_are_right => refine' K61.df_mk ?a ?l ?c ?k; (case a => k_is); (case l => k_is); (case c => k_is); (case k => k_is))
    (case d_Climb_init => refine' K61.mf_mk ?a ?i ?l ?c ?k; (case a => k_is); (case i => k_is); (case l => k_is); (case c => k_is); (case k => k_is))
    (case d_Climb_rise => refine' K61.mf_mk ?a ?i ?l ?c ?k; (case a => k_is); (case i => k_is); (case l => k_is); (case c => k_is); (case k => k_is))
    (case d_Climb_circle => refine' K61.mf_mk ?a ?i ?l ?c ?k; (case a => k_is); (case i => k_is); (case l => k_is); (case c => k_is); (case k => k_is))
    (case d_potentials_for => refine' K61.df_mk ?a ?l ?c ?k; (case a => k_is); (case l => k_is); (case c => k_is); (case k => k_is))
    (case d_is_bound => refine' K61.df_mk ?a ?l ?c ?k; (case a => k_is); (case l => k_is); (case c => k_is); (case k => k_is))
    (case d_law_stream => refine' K61.df_mk ?a ?l ?c ?k; (case a => k_is); (case l => k_is); (case c => k_is); (case k => k_is))
    (case d_law_next => refine' K61.df_mk ?a ?l ?c ?k; (case a => k_is); (case l => k_is); (case c => k_is); (case k => k_is))
    (case d_law_is_integer => refine' K61.df_mk ?a ?l ?c ?k; (case a => k_is); (case l => k_is); (case c => k_is); (case k => k_is))
    (case d_law_equal => refine' K61.df_mk ?a ?l ?c ?k; (case a => k_is); (case l => k_is); (case c => k_is); (case k => k_is))
    (case d_law_cost => refine' K61.df_mk ?a ?l ?c ?k; (case a => k_is); (case l => k_is); (case c => k_is); (case k => k_is))
    (case d_law_words => refine' K61.df_mk ?a ?l ?c ?k; (case a => k_is); (case l => k_is); (case c => k_is); (case k => k_is))
    (case d_law_letters => refine' K61.df_mk ?a ?l ?c ?k; (case a => k_is); (case l => k_is); (case c => k_is); (case k => k_is))
    (case d_law_text => refine' K61.df_mk ?a ?l ?c ?k; (case a => k_is); (case l => k_is); (case c => k_is); (case k => k_is))
    (case d_law_match => refine' K61.df_mk ?a ?l ?c ?k; (case a => k_is); (case l => k_is); (case c => k_is); (case k => k_is))
    (case d_law_sum => refine' K61.df_mk ?a ?l ?c ?k; (case a => k_is); (case l => k_is); (case c => k_is); (case k => k_is))
    (case d_law_all_texts => refine' K61.df_mk ?a ?l ?c ?k; (case a => k_is); (case l => k_is); (case c => k_is); (case k => k_is))
    (case d_law_least => refine' K61.df_mk ?a ?l ?c ?k; (case a => k_is); (case l => k_is); (case c => k_is); (case k => k_is))
    (case d_law_grows => refine' K61.df_mk ?a ?l ?c ?k; (case a => k_is); (case l => k_is); (case c => k_is); (case k => k_is))
    (case d_law_read => refine' K61.df_mk ?a ?l ?c ?k; (case a => k_is); (case l => k_is); (case c => k_is); (case k => k_is))
    (case d_law_steps => refine' K61.df_mk ?a ?l ?c ?k; (case a => k_is); (case l => k_is); (case c => k_is); (case k => k_is))
    (case d_law_graph => refine' K61.df_mk ?a ?l ?c ?k; (case a => k_is); (case l => k_is); (case c => k_is); (case k => k_is))
    (case d_law_climb => refine' K61.df_mk ?a ?l ?c ?k; (case a => k_is); (case l => k_is); (case c => k_is); (case k => k_is))
    (case d_law_rest => refine' K61.df_mk ?a ?l ?c ?k; (case a => k_is); (case l => k_is); (case c => k_is); (case k => k_is))
