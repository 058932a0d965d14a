import PyProof.Rows.All
import Wide.All
import OpenK.AllK
import Wide.FinOn
import HandS.ForMost
import HandS.IsInst
import HandS.SetKeys
import HandS.TupAny
import HandS.Conv
import HandS.Defaults
import HandS.Wide
import HandS.Style
import HandS.DictComp
import HandS.NoneIn
import HandS.Walk
import HandS.SortInts
import HandS.More
import HandS.Flow
import HandS.TupSets
import HandS.DictTup
import KE.SortData
import KE.DataMinMax
import KE.GoesEnum
import KE.GoesSet
import KE.GoesDict
import KE.KeyNested
import PySem.Challenge.RW_likewebs_k26_whole_leaves_of_the_least_w
import PyProof.SeqIndex
import HandS.MakeKwOnly
import KE.KStateDown
import HandS.Ends
import HandS.Words
import HandS.WordsExc
import HandS.Head0
import HandS.Head1
import HandS.Head2
import HandS.HeadEnd
import HandS.HeadHook1
import HandS.HeadHook2
import Lean
/-! The plain mathematics of leaves: no program in sight. -/
set_option autoImplicit false
set_option synthInstance.maxSize 1000
set_option linter.all false
namespace LW

inductive All2 {α β : Type} (R : α → β → Prop) : List α → List β → Prop
  | nil : All2 R [] []
  | cons {a : α} {b : β} {as : List α} {bs : List β} : R a b → All2 R as bs → All2 R (a :: as) (b :: bs)

section all2
variable {α β γ δ : Type} {R : α → β → Prop}
theorem All2.len : ∀ {as : List α} {bs : List β}, All2 R as bs → as.length = bs.length
  | _, _, .nil => rfl
  | _, _, .cons _ t => congrArg (· + 1) t.len
theorem All2.get : ∀ {as : List α} {bs : List β}, All2 R as bs → ∀ {i : Nat} {a : α}, as[i]? = some a → ∃ b, bs[i]? = some b ∧ R a b
  | _, _, .nil, i, a, h => by simp at h
  | _, _, .cons r t, 0, a, h => by
    simp only [List.getElem?_cons_zero, Option.some.injEq] at h
    subst h
    exact ⟨_, rfl, r⟩
  | _, _, .cons r t, i + 1, a, h => by
    simp only [List.getElem?_cons_succ] at h ⊢
    exact t.get h
theorem All2.get' : ∀ {as : List α} {bs : List β}, All2 R as bs → ∀ {i : Nat} {b : β}, bs[i]? = some b → ∃ a, as[i]? = some a ∧ R a b
  | _, _, .nil, i, a, h => by simp at h
  | _, _, .cons r t, 0, a, h => by
    simp only [List.getElem?_cons_zero, Option.some.injEq] at h
    subst h
    exact ⟨_, rfl, r⟩
  | _, _, .cons r t, i + 1, a, h => by
    simp only [List.getElem?_cons_succ] at h ⊢
    exact t.get' h
theorem All2.append {as as' : List α} {bs bs' : List β} : All2 R as bs → All2 R as' bs' → All2 R (as ++ as') (bs ++ bs')
  | .nil, h => h
  | .cons r t, h => .cons r (t.append h)
theorem All2.imp {S : α → β → Prop} (h : ∀ a b, R a b → S a b) : ∀ {as : List α} {bs : List β}, All2 R as bs → All2 S as bs
  | _, _, .nil => .nil
  | _, _, .cons r t => .cons (h _ _ r) (t.imp h)
theorem All2.impMem {S : α → β → Prop} : ∀ {as : List α} {bs : List β}, (∀ a b, a ∈ as → b ∈ bs → R a b → S a b) → All2 R as bs → All2 S as bs
  | _, _, _, .nil => .nil
  | _, _, h, .cons r t => .cons (h _ _ List.mem_cons_self List.mem_cons_self r) (t.impMem fun a b ha hb => h a b (List.mem_cons_of_mem _ ha) (List.mem_cons_of_mem _ hb))
theorem All2.map {f : α → γ} {g : β → δ} {S : γ → δ → Prop} (h : ∀ a b, R a b → S (f a) (g b)) : ∀ {as : List α} {bs : List β}, All2 R as bs → All2 S (as.map f) (bs.map g)
  | _, _, .nil => .nil
  | _, _, .cons r t => .cons (h _ _ r) (t.map h)
theorem All2.flatMap {f : α → List γ} {g : β → List δ} {S : γ → δ → Prop} : ∀ {as : List α} {bs : List β}, (∀ a b, a ∈ as → b ∈ bs → R a b → All2 S (f a) (g b)) → All2 R as bs → All2 S (as.flatMap f) (bs.flatMap g)
  | _, _, _, .nil => .nil
  | _, _, h, .cons r t => by
    simp only [List.flatMap_cons]
    exact (h _ _ List.mem_cons_self List.mem_cons_self r).append (t.flatMap fun a b ha hb => h a b (List.mem_cons_of_mem _ ha) (List.mem_cons_of_mem _ hb))
theorem All2.take : ∀ {as : List α} {bs : List β} (n : Nat), All2 R as bs → All2 R (as.take n) (bs.take n)
  | _, _, 0, _ => by simpa using All2.nil
  | _, _, n + 1, .nil => by simpa using All2.nil
  | _, _, n + 1, .cons r t => by simpa using All2.cons r (t.take n)
theorem All2.drop : ∀ {as : List α} {bs : List β} (n : Nat), All2 R as bs → All2 R (as.drop n) (bs.drop n)
  | _, _, 0, h => by simpa using h
  | _, _, n + 1, .nil => by simpa using All2.nil
  | _, _, n + 1, .cons r t => by simpa using t.drop n
theorem All2.findIdx {p : α → Bool} {q : β → Bool} : ∀ {as : List α} {bs : List β}, (∀ a b, a ∈ as → b ∈ bs → R a b → p a = q b) → All2 R as bs → as.findIdx p = bs.findIdx q
  | _, _, _, .nil => rfl
  | _, _, h, .cons r t => by
    rw [List.findIdx_cons, List.findIdx_cons, h _ _ List.mem_cons_self List.mem_cons_self r, t.findIdx fun a b ha hb => h a b (List.mem_cons_of_mem _ ha) (List.mem_cons_of_mem _ hb)]
theorem All2.mapEq {f : α → γ} {g : β → γ} : ∀ {as : List α} {bs : List β}, (∀ a b, a ∈ as → b ∈ bs → R a b → f a = g b) → All2 R as bs → as.map f = bs.map g
  | _, _, _, .nil => rfl
  | _, _, h, .cons r t => by
    simp only [List.map_cons]
    rw [h _ _ List.mem_cons_self List.mem_cons_self r, t.mapEq fun a b ha hb => h a b (List.mem_cons_of_mem _ ha) (List.mem_cons_of_mem _ hb)]
theorem All2.ofMap {f : γ → α} {g : γ → β} : ∀ {l : List γ}, (∀ x, x ∈ l → R (f x) (g x)) → All2 R (l.map f) (l.map g)
  | [], _ => .nil
  | x :: l, h => .cons (h x List.mem_cons_self) (All2.ofMap fun y hy => h y (List.mem_cons_of_mem _ hy))
end all2

abbrev Pr := Int × Int
abbrev Look := List (List Pr)
abbrev TC := Int × Nat × Look
abbrev Tl := List TC
abbrev TR := Tl × List Nat
abbrev Wo := List TR
abbrev Stand := List (List Nat)

/-- what the program's sorting and picking does, by what is true of it -/
structure Ops where
  srtI : List Int → List Int
  srtP : List Pr → List Pr
  srtL : List Look → List Look
  minI : List Int → Int
  minL : List Look → Look
  minT : List TR → TR
  minW : List Wo → Wo
  srtI_mem : ∀ l x, x ∈ srtI l ↔ x ∈ l
  srtI_nd : ∀ l, (srtI l).Nodup
  srtP_perm : ∀ l, (srtP l).Perm l
  srtP_ext : ∀ l l', l.Perm l' → srtP l = srtP l'
  srtL_mem : ∀ l x, x ∈ srtL l ↔ x ∈ l
  srtL_nd : ∀ l, (srtL l).Nodup
  srtL_ext : ∀ l l', (∀ x, x ∈ l ↔ x ∈ l') → srtL l = srtL l'
  minI_mem : ∀ l, l ≠ [] → minI l ∈ l
  minI_ext : ∀ l l', l ≠ [] → (∀ x, x ∈ l ↔ x ∈ l') → minI l = minI l'
  minL_mem : ∀ l, l ≠ [] → minL l ∈ l
  minL_ext : ∀ l l', l ≠ [] → (∀ x, x ∈ l ↔ x ∈ l') → minL l = minL l'
  minT_mem : ∀ l, l ≠ [] → minT l ∈ l
  minT_ext : ∀ l l', l ≠ [] → (∀ x, x ∈ l ↔ x ∈ l') → minT l = minT l'
  minW_mem : ∀ l, l ≠ [] → minW l ∈ l

structure Web where
  cs : List Int
  mrk : Nat → Nat → Int
def Web.n (W : Web) : Nat := W.cs.length
def Web.col (W : Web) (c : Nat) : Int := W.cs.getD c 0

section mirror
variable (O : Ops) (W : Web)
def pair (c o : Nat) : Pr := (W.mrk c o, W.mrk o c)
def cellLook (c : Nat) (cell : List Nat) : List Pr := O.srtP ((cell.filter fun o => o != c).map (pair W c))
def look (s : Stand) (c : Nat) : Look := s.map (cellLook O W c)
def groups (s : Stand) (cell : List Nat) : List (List Nat) := (O.srtL (cell.map (look O W s))).map fun l => cell.filter fun c => decide (look O W s c = l)
def next (s : Stand) : Stand := s.flatMap (groups O W s)
def refF : Nat → Stand → Stand
  | 0, s => s
  | f + 1, s => if s.length < (next O W s).length then refF f (next O W s) else s
def refined (s : Stand) : Stand := refF O W W.n s
def byColours : Stand := (O.srtI W.cs).map fun k => (List.range W.n).filter fun c => decide (W.col c = k)
def root : Stand := refined O W (byColours O W)
def cellOf (s : Stand) (c : Nat) : Nat := s.findIdx fun cell => decide (c ∈ cell)
def split (s : Stand) (c : Nat) : Stand :=
  if 1 < (s.getD (cellOf s c) []).length then s.take (cellOf s c) ++ [c] :: ((s.getD (cellOf s c) []).filter fun m => m != c) :: s.drop (cellOf s c + 1) else s
def singled (s : Stand) (c : Nat) : Stand := refined O W (split s c)
def rowStand (row : List Nat) : Stand := row.foldl (singled O W) (root O W)
def toldCell (s : Stand) (cell : List Nat) : TC := (O.minI (cell.map W.col), cell.length, O.minL (cell.map (look O W s)))
def telling (s : Stand) : Tl := s.map (toldCell O W s)
def toldRow (s : Stand) (row : List Nat) : TR := (telling O W s, row.map (cellOf s))
def target (s : Stand) : Nat := s.findIdx fun cell => decide (1 < cell.length)
def kidTold (s : Stand) (row : List Nat) (c : Nat) : TR := toldRow O W (singled O W s c) (row ++ [c])
def kids (s : Stand) (row : List Nat) : List Nat :=
  (s.getD (target s) []).filter fun c => decide (kidTold O W s row c = O.minT ((s.getD (target s) []).map (kidTold O W s row)))
def worth (row : List Nat) : Wo := (List.range (row.length + 1)).map fun k => toldRow O W (rowStand O W (row.take k)) (row.take k)
def leavesF : Nat → List Nat → Stand → List (List Nat)
  | 0, _, _ => []
  | f + 1, row, s => if target s = s.length then [row] else (kids O W s row).flatMap fun c => leavesF f (row ++ [c]) (singled O W s c)
def leaves : List (List Nat) := leavesF O W (W.n + 1) [] (root O W)
end mirror

/-! ### partitions -/
structure Part (n : Nat) (s : Stand) : Prop where
  ne : ∀ cell, cell ∈ s → cell ≠ []
  perm : s.flatten.Perm (List.range n)

section part
variable {n : Nat} {s : Stand}
theorem Part.lt (h : Part n s) {cell : List Nat} (hc : cell ∈ s) {x : Nat} (hx : x ∈ cell) : x < n :=
  List.mem_range.mp (h.perm.mem_iff.mp (List.mem_flatten.mpr ⟨cell, hc, hx⟩))
theorem Part.has (h : Part n s) {x : Nat} (hx : x < n) : ∃ cell, cell ∈ s ∧ x ∈ cell :=
  List.mem_flatten.mp (h.perm.mem_iff.mpr (List.mem_range.mpr hx))
theorem Part.nd (h : Part n s) : s.flatten.Nodup := h.perm.nodup_iff.mpr List.nodup_range
theorem flat_len : ∀ {s : Stand}, (∀ cell, cell ∈ s → cell ≠ []) → s.length ≤ s.flatten.length
  | [], _ => Nat.le_refl _
  | c :: s, h => by
    have h1 := flat_len (s := s) fun x hx => h x (List.mem_cons_of_mem _ hx)
    have h2 : 0 < c.length := List.length_pos_iff.mpr (h c List.mem_cons_self)
    simp only [List.length_cons, List.flatten_cons, List.length_append]
    omega
theorem Part.len (h : Part n s) : s.length ≤ n := by
  have h1 := flat_len h.ne
  have h2 := h.perm.length_eq
  rw [List.length_range] at h2
  omega
/-- room for a cell: its size and the number of the others -/
theorem cell_room : ∀ {s : Stand}, (∀ cell, cell ∈ s → cell ≠ []) → ∀ cell, cell ∈ s → cell.length + s.length ≤ s.flatten.length + 1
  | [], _, _, hc => by cases hc
  | c :: s, h, cell, hc => by
    have hs : ∀ x, x ∈ s → x ≠ [] := fun x hx => h x (List.mem_cons_of_mem _ hx)
    have h2 : 0 < c.length := List.length_pos_iff.mpr (h c List.mem_cons_self)
    simp only [List.length_cons, List.flatten_cons, List.length_append]
    rcases List.mem_cons.mp hc with rfl | hc
    · have := flat_len hs
      omega
    · have := cell_room hs cell hc
      omega
theorem Part.room (h : Part n s) {cell : List Nat} (hc : cell ∈ s) : cell.length + s.length ≤ n + 1 := by
  have h1 := cell_room h.ne cell hc
  have h2 := h.perm.length_eq
  rw [List.length_range] at h2
  omega
/-- a corner stands in one cell -/
theorem nd_one : ∀ {s : Stand}, s.flatten.Nodup → ∀ {i j : Nat} {u v : List Nat} {x : Nat}, s[i]? = some u → s[j]? = some v → x ∈ u → x ∈ v → i = j
  | [], _, i, j, u, v, x, h1, _, _, _ => by simp at h1
  | c :: s, nd, i, j, u, v, x, h1, h2, hu, hv => by
    rw [List.flatten_cons, List.nodup_append] at nd
    obtain ⟨_, nd2, dj⟩ := nd
    have no : ∀ {k : Nat} {w : List Nat}, s[k]? = some w → x ∈ w → x ∈ c → False := fun {k w} e hw hc =>
      dj x hc x (List.mem_flatten.mpr ⟨w, List.mem_of_getElem? e, hw⟩) rfl
    cases i with
    | zero =>
      cases j with
      | zero => rfl
      | succ j =>
        simp only [List.getElem?_cons_zero, Option.some.injEq] at h1
        simp only [List.getElem?_cons_succ] at h2
        subst h1
        exact (no h2 hv hu).elim
    | succ i =>
      cases j with
      | zero =>
        simp only [List.getElem?_cons_zero, Option.some.injEq] at h2
        simp only [List.getElem?_cons_succ] at h1
        subst h2
        exact (no h1 hu hv).elim
      | succ j =>
        simp only [List.getElem?_cons_succ] at h1 h2
        rw [nd_one nd2 h1 h2 hu hv]
theorem Part.one (h : Part n s) {i j : Nat} {u v : List Nat} {x : Nat} (h1 : s[i]? = some u) (h2 : s[j]? = some v) (hu : x ∈ u) (hv : x ∈ v) : i = j := nd_one h.nd h1 h2 hu hv
theorem Part.cellNd (h : Part n s) {cell : List Nat} (hc : cell ∈ s) : cell.Nodup := by
  have h1 : s.flatten.Nodup := h.nd
  unfold List.Nodup at h1
  rw [List.pairwise_flatten] at h1
  exact h1.1 cell hc
/-- where a corner stands -/
theorem Part.cellOf (h : Part n s) {x : Nat} (hx : x < n) : ∃ cell, s[cellOf s x]? = some cell ∧ x ∈ cell ∧ cellOf s x < s.length := by
  obtain ⟨cell, hc, hm⟩ := h.has hx
  have h1 : LW.cellOf s x < s.length := List.findIdx_lt_length_of_exists ⟨cell, hc, by simpa using hm⟩
  refine ⟨s[LW.cellOf s x], List.getElem?_eq_getElem h1, ?_, h1⟩
  have h2 := List.findIdx_getElem (w := h1)
  exact of_decide_eq_true h2
theorem Part.cellOf_eq (h : Part n s) {i : Nat} {cell : List Nat} {x : Nat} (hi : s[i]? = some cell) (hx : x ∈ cell) : LW.cellOf s x = i := by
  obtain ⟨c, h1, h2, _⟩ := h.cellOf (h.lt (List.mem_of_getElem? hi) hx)
  exact h.one h1 hi h2 hx
end part
end LW
set_option autoImplicit false
set_option synthInstance.maxSize 1000
set_option linter.all false
namespace LW
/-! ### refining keeps partitions -/
theorem filter_labels {α β : Type} [DecidableEq β] (f : α → β) (cell : List α) : ∀ (ls : List β), ls.Nodup → (ls.map fun l => cell.filter fun c => decide (f c = l)).flatten.Perm (cell.filter fun c => decide (f c ∈ ls))
  | [], _ => by simp
  | l :: ls, nd => by
    have nd2 := List.nodup_cons.mp nd
    have ih := filter_labels f cell ls nd2.2
    simp only [List.map_cons, List.flatten_cons]
    have h1 : cell.filter (fun c => decide (f c = l)) = (cell.filter fun c => decide (f c ∈ l :: ls)).filter fun c => decide (f c = l) := by
      rw [List.filter_filter]
      refine List.filter_congr fun x _ => ?_
      by_cases e : f x = l
      · simp [e]
      · simp [e]
    have h2 : cell.filter (fun c => decide (f c ∈ ls)) = (cell.filter fun c => decide (f c ∈ l :: ls)).filter fun c => !decide (f c = l) := by
      rw [List.filter_filter]
      refine List.filter_congr fun x _ => ?_
      by_cases e : f x = l
      · simp [e, nd2.1]
      · simp [e]
    rw [h1]
    refine (List.Perm.append_left _ (ih.trans (by rw [h2]))).trans ?_
    exact List.filter_append_perm _ _

section
variable (O : Ops) (W : Web)
theorem groups_perm (s : Stand) (cell : List Nat) : (groups O W s cell).flatten.Perm cell := by
  unfold groups
  refine (filter_labels (look O W s) cell _ (O.srtL_nd _)).trans (List.Perm.of_eq ?_)
  refine List.filter_eq_self.mpr fun x hx => ?_
  have q : look O W s x ∈ O.srtL (cell.map (look O W s)) := (O.srtL_mem _ _).mpr (List.mem_map.mpr ⟨x, hx, rfl⟩)
  simp only [q, decide_true]
theorem groups_ne (s : Stand) (cell : List Nat) : ∀ g, g ∈ groups O W s cell → g ≠ [] := by
  intro g hg
  unfold groups at hg
  obtain ⟨l, hl, rfl⟩ := List.mem_map.mp hg
  obtain ⟨x, hx, e⟩ := List.mem_map.mp ((O.srtL_mem _ _).mp hl)
  intro q
  have h1 : x ∈ cell.filter fun c => decide (look O W s c = l) := List.mem_filter.mpr ⟨hx, by simpa using e⟩
  rw [q] at h1
  cases h1
theorem flat_groups (s : Stand) : ∀ t : Stand, (t.flatMap (groups O W s)).flatten.Perm t.flatten
  | [] => by simp
  | c :: t => by
    simp only [List.flatMap_cons, List.flatten_append, List.flatten_cons]
    exact (groups_perm O W s c).append (flat_groups s t)
variable {n : Nat} {s : Stand}
theorem part_next (h : Part n s) : Part n (next O W s) := by
  refine ⟨fun cell hc => ?_, (flat_groups O W s s).trans h.perm⟩
  obtain ⟨c, _, h2⟩ := List.mem_flatMap.mp hc
  exact groups_ne O W s c cell h2
theorem groups_len (s : Stand) {cell : List Nat} (h : cell ≠ []) : 1 ≤ (groups O W s cell).length := by
  have h1 := groups_perm O W s cell
  cases e : groups O W s cell with
  | nil =>
    rw [e] at h1
    exact absurd (List.Perm.nil_eq h1).symm h
  | cons a b =>
    simp only [List.length_cons]
    omega
theorem next_len0 (s : Stand) : ∀ t : Stand, (∀ cell, cell ∈ t → cell ≠ []) → t.length ≤ (t.flatMap (groups O W s)).length
  | [], _ => Nat.le_refl _
  | c :: t, h => by
    have h1 := next_len0 s t fun x hx => h x (List.mem_cons_of_mem _ hx)
    have h2 := groups_len O W s (h c List.mem_cons_self)
    simp only [List.flatMap_cons, List.length_append, List.length_cons]
    omega
theorem next_len (h : Part n s) : s.length ≤ (next O W s).length := next_len0 O W s s h.ne
theorem part_refF : ∀ (f : Nat) {s : Stand}, Part n s → Part n (refF O W f s)
  | 0, _, h => h
  | f + 1, s, h => by
    unfold refF
    split
    · exact part_refF f (part_next O W h)
    · exact h
theorem part_refined (h : Part n s) : Part n (refined O W s) := part_refF O W _ h
theorem refF_len : ∀ (f : Nat) {s : Stand}, Part n s → s.length ≤ (refF O W f s).length
  | 0, _, _ => Nat.le_refl _
  | f + 1, s, h => by
    unfold refF
    split
    · rename_i hl
      exact Nat.le_trans (Nat.le_of_lt hl) (refF_len f (part_next O W h))
    · omega
theorem refined_len (h : Part n s) : s.length ≤ (refined O W s).length := refF_len O W _ h
/-- more fuel changes nothing -/
theorem refF_more : ∀ (f : Nat) {s : Stand}, Part n s → n ≤ f + s.length → ∀ g, f ≤ g → refF O W g s = refF O W f s
  | 0, s, h, hf, g, _ => by
    cases g with
    | zero => rfl
    | succ g =>
      have h1 := (part_next O W h).len
      unfold refF
      rw [if_neg (by omega)]
  | f + 1, s, h, hf, g, hg => by
    cases g with
    | zero => omega
    | succ g =>
      unfold refF
      split
      · rename_i hl
        exact refF_more f (part_next O W h) (by omega) g (by omega)
      · rfl
/-- the loop's step -/
theorem refined_step (h : Part W.n s) : refined O W s = if s.length < (next O W s).length then refined O W (next O W s) else s := by
  unfold refined
  cases e : W.n with
  | zero =>
    have h1 := (part_next O W h).len
    rw [if_neg (by omega)]
    rfl
  | succ k =>
    show (if s.length < (next O W s).length then refF O W k (next O W s) else s) = _
    split
    · rename_i hl
      rw [refF_more O W k (n := W.n) (part_next O W h) (by omega) (k + 1) (by omega)]
    · rfl
/-- a single cell stays -/
theorem single_next {x : Nat} (h : [x] ∈ s) : [x] ∈ next O W s := by
  refine List.mem_flatMap.mpr ⟨[x], h, ?_⟩
  unfold groups
  refine List.mem_map.mpr ⟨look O W s x, (O.srtL_mem _ _).mpr (by simp), by simp⟩
theorem single_refF {x : Nat} : ∀ (f : Nat) {s : Stand}, [x] ∈ s → [x] ∈ refF O W f s
  | 0, _, h => h
  | f + 1, s, h => by
    unfold refF
    split
    · exact single_refF f (single_next O W h)
    · exact h
theorem single_refined {x : Nat} (h : [x] ∈ s) : [x] ∈ refined O W s := single_refF O W _ h

/-! ### splitting -/
theorem split_flat {c : Nat} {i : Nat} {cell : List Nat} (hi : s[i]? = some cell) (hc : c ∈ cell) (nd : cell.Nodup) : (s.take i ++ [c] :: (cell.filter fun m => m != c) :: s.drop (i + 1)).flatten.Perm s.flatten := by
  have h1 : s = s.take i ++ cell :: s.drop (i + 1) := by
    obtain ⟨hlt, e⟩ := List.getElem?_eq_some_iff.mp hi
    rw [← e, ← List.drop_eq_getElem_cons, List.take_append_drop]
  have h2 : s.flatten = (s.take i).flatten ++ (cell ++ (s.drop (i + 1)).flatten) := by
    have := congrArg List.flatten h1
    rw [this]
    simp only [List.flatten_append, List.flatten_cons]
  rw [h2]
  simp only [List.flatten_append, List.flatten_cons]
  refine List.Perm.append_left _ ?_
  rw [← List.append_assoc]
  refine List.Perm.append_right _ ?_
  have h3 : (cell.filter fun m => m != c) = cell.erase c := by
    rw [nd.erase_eq_filter]
  rw [h3]
  exact (List.perm_cons_erase hc).symm
theorem part_split {c : Nat} (h : Part n s) (hc : c < n) : Part n (split s c) := by
  obtain ⟨cell, h1, h2, h3⟩ := h.cellOf hc
  unfold split
  have e : s.getD (cellOf s c) [] = cell := by rw [List.getD_eq_getElem?_getD, h1]; rfl
  rw [e]
  split
  · rename_i hl
    refine ⟨fun x hx => ?_, (split_flat h1 h2 (h.cellNd (List.mem_of_getElem? h1))).trans h.perm⟩
    rcases List.mem_append.mp hx with hx | hx
    · exact h.ne x (List.mem_of_mem_take hx)
    · rcases List.mem_cons.mp hx with rfl | hx
      · simp
      · rcases List.mem_cons.mp hx with rfl | hx
        · intro q
          have nd := h.cellNd (List.mem_of_getElem? h1)
          have h4 : (cell.filter fun m => m != c) = cell.erase c := by rw [nd.erase_eq_filter]
          rw [h4] at q
          have h5 := List.length_erase_of_mem h2
          rw [q] at h5
          simp at h5
          omega
        · exact h.ne x (List.mem_of_mem_drop hx)
  · exact h
theorem part_singled {c : Nat} (h : Part n s) (hc : c < n) : Part n (singled O W s c) := part_refined O W (part_split h hc)
theorem split_len {c : Nat} (h : Part n s) (hc : c < n) : s.length ≤ (split s c).length ∧ (1 < (s.getD (cellOf s c) []).length → s.length < (split s c).length) := by
  obtain ⟨cell, h1, h2, h3⟩ := h.cellOf hc
  unfold split
  split
  · simp only [List.length_append, List.length_cons, List.length_take, List.length_drop]
    omega
  · exact ⟨Nat.le_refl _, fun q => absurd q ‹_›⟩
theorem singled_len {c : Nat} (h : Part n s) (hc : c < n) : s.length ≤ (singled O W s c).length ∧ (1 < (s.getD (cellOf s c) []).length → s.length < (singled O W s c).length) := by
  have h1 := split_len h hc
  have h2 := refined_len O W (part_split h hc)
  unfold singled
  exact ⟨by omega, fun q => by have := h1.2 q; omega⟩
theorem single_split {x c : Nat} (hx : [x] ∈ s) (h : Part n s) (hc : c < n) : [x] ∈ split s c := by
  obtain ⟨cell, h1, h2, h3⟩ := h.cellOf hc
  unfold split
  have e : s.getD (cellOf s c) [] = cell := by rw [List.getD_eq_getElem?_getD, h1]; rfl
  rw [e]
  split
  · rename_i hl
    have hs : s = s.take (cellOf s c) ++ cell :: s.drop (cellOf s c + 1) := by
      obtain ⟨hlt, e⟩ := List.getElem?_eq_some_iff.mp h1
      rw [← e, ← List.drop_eq_getElem_cons, List.take_append_drop]
    have h4 : [x] ∈ s.take (cellOf s c) ++ cell :: s.drop (cellOf s c + 1) := by rw [← hs]; exact hx
    rcases List.mem_append.mp h4 with q | q
    · exact List.mem_append_left _ q
    · rcases List.mem_cons.mp q with q | q
      · rw [← q] at hl
        simp at hl
      · exact List.mem_append_right _ (List.mem_cons_of_mem _ (List.mem_cons_of_mem _ q))
  · exact hx
theorem single_self {c : Nat} (h : Part n s) (hc : c < n) : [c] ∈ split s c := by
  obtain ⟨cell, h1, h2, h3⟩ := h.cellOf hc
  unfold split
  have e : s.getD (cellOf s c) [] = cell := by rw [List.getD_eq_getElem?_getD, h1]; rfl
  rw [e]
  split
  · exact List.mem_append_right _ List.mem_cons_self
  · rename_i hl
    have : cell = [c] := by
      match cell, h2, hl with
      | [y], h2, _ => simp at h2; rw [h2]
      | y :: z :: r, _, hl => simp at hl
    rw [← this]
    exact List.mem_of_getElem? h1
theorem single_singled {x c : Nat} (h : Part n s) (hc : c < n) (hx : [x] ∈ s ∨ x = c) : [x] ∈ singled O W s c := by
  refine single_refined O W ?_
  rcases hx with hx | rfl
  · exact single_split hx h hc
  · exact single_self h hc

/-! ### the root -/
theorem part_byColours : Part W.n (byColours O W) := by
  refine ⟨fun cell hc => ?_, ?_⟩
  · obtain ⟨k, hk, rfl⟩ := List.mem_map.mp hc
    have hk := (O.srtI_mem _ _).mp hk
    obtain ⟨i, hi, e⟩ := List.mem_iff_getElem.mp hk
    intro q
    have h1 : i ∈ (List.range W.n).filter fun c => decide (W.col c = k) := by
      refine List.mem_filter.mpr ⟨List.mem_range.mpr hi, ?_⟩
      refine decide_eq_true ?_
      unfold Web.col
      rw [List.getD_eq_getElem?_getD, List.getElem?_eq_getElem hi]
      exact e
    rw [q] at h1
    cases h1
  · unfold byColours
    refine (filter_labels W.col (List.range W.n) _ (O.srtI_nd _)).trans ?_
    have e : ((List.range W.n).filter fun c => decide (W.col c ∈ O.srtI W.cs)) = List.range W.n := by
      refine List.filter_eq_self.mpr fun x hx => ?_
      simp only [decide_eq_true_eq]
      refine (O.srtI_mem _ _).mpr ?_
      have hl : x < W.cs.length := List.mem_range.mp hx
      unfold Web.col
      rw [List.getD_eq_getElem?_getD, List.getElem?_eq_getElem hl]
      exact List.getElem_mem hl
    rw [e]
theorem part_root : Part W.n (root O W) := part_refined O W (part_byColours O W)
theorem part_fold : ∀ (row : List Nat) {s : Stand}, Part W.n s → (∀ x, x ∈ row → x < W.n) → Part W.n (row.foldl (singled O W) s)
  | [], _, h, _ => h
  | c :: row, s, h, hr => part_fold row (part_singled O W h (hr c List.mem_cons_self)) fun x hx => hr x (List.mem_cons_of_mem _ hx)
theorem part_rowStand {row : List Nat} (hr : ∀ x, x ∈ row → x < W.n) : Part W.n (rowStand O W row) := part_fold O W row (part_root O W) hr
theorem rowStand_snoc (row : List Nat) (c : Nat) : rowStand O W (row ++ [c]) = singled O W (rowStand O W row) c := by
  unfold rowStand
  rw [List.foldl_append]
  rfl
end
end LW
set_option autoImplicit false
set_option synthInstance.maxSize 1000
set_option linter.all false
namespace LW
theorem perm_of_sub {α : Type} [DecidableEq α] : ∀ (l1 l2 : List α), l1.Nodup → (∀ x, x ∈ l1 → x ∈ l2) → l2.length ≤ l1.length → l1.Perm l2
  | [], l2, _, _, h => by
    have : l2 = [] := List.length_eq_zero_iff.mp (Nat.le_zero.mp h)
    rw [this]
  | a :: l, l2, nd, sub, h => by
    obtain ⟨n1, n2⟩ := List.nodup_cons.mp nd
    have ha := sub a List.mem_cons_self
    refine List.Perm.trans ?_ (List.perm_cons_erase ha).symm
    refine List.Perm.cons a (perm_of_sub l (l2.erase a) n2 (fun x hx => ?_) ?_)
    · have hne : x ≠ a := fun e => n1 (e ▸ hx)
      exact (List.mem_erase_of_ne hne).mpr (sub x (List.mem_cons_of_mem _ hx))
    · rw [List.length_erase_of_mem ha]
      simp only [List.length_cons] at h
      omega
/-! ### a naming that keeps the web -/
structure Aut (W : Web) (σ : Nat → Nat) : Prop where
  lt : ∀ a, a < W.n → σ a < W.n
  inj : ∀ a b, a < W.n → b < W.n → σ a = σ b → a = b
  col : ∀ a, a < W.n → W.col (σ a) = W.col a
  keep : ∀ a b, a < W.n → b < W.n → W.mrk (σ a) (σ b) = W.mrk a b
/-- cell to cell -/
abbrev Eqs (σ : Nat → Nat) : Stand → Stand → Prop := All2 fun u v => (u.map σ).Perm v

section
variable (O : Ops) {W : Web} {σ : Nat → Nat}
theorem Aut.mem (A : Aut W σ) {u v : List Nat} (hu : ∀ x, x ∈ u → x < W.n) (h : (u.map σ).Perm v) {c : Nat} (hc : c < W.n) : c ∈ u ↔ σ c ∈ v := by
  refine ⟨fun q => h.mem_iff.mp (List.mem_map.mpr ⟨c, q, rfl⟩), fun q => ?_⟩
  obtain ⟨x, hx, e⟩ := List.mem_map.mp (h.mem_iff.mpr q)
  rw [← A.inj _ _ (hu x hx) hc e]
  exact hx
theorem Aut.flt (A : Aut W σ) {u v : List Nat} (hu : ∀ x, x ∈ u → x < W.n) (h : (u.map σ).Perm v) {c : Nat} (hc : c < W.n) : ((u.filter fun o => o != c).map σ).Perm (v.filter fun o => o != σ c) := by
  refine List.Perm.trans (List.Perm.of_eq ?_) (h.filter _)
  rw [List.filter_map]
  congr 1
  refine List.filter_congr fun x hx => ?_
  simp only [Function.comp_apply, bne]
  congr 1
  rw [Bool.eq_iff_iff]
  simp only [beq_iff_eq]
  exact ⟨fun e => by rw [e], fun e => A.inj _ _ (hu x hx) hc e⟩
theorem Aut.cellLook (A : Aut W σ) {u v : List Nat} (hu : ∀ x, x ∈ u → x < W.n) (h : (u.map σ).Perm v) {c : Nat} (hc : c < W.n) : cellLook O W (σ c) v = cellLook O W c u := by
  unfold LW.cellLook
  refine (O.srtP_ext _ _ ?_).symm
  refine List.Perm.trans (List.Perm.of_eq ?_) ((A.flt hu h hc).map (pair W (σ c)))
  rw [List.map_map]
  refine List.map_congr_left fun x hx => ?_
  have hx' := hu x (List.mem_filter.mp hx).1
  simp only [Function.comp_apply, pair]
  rw [A.keep c x hc hx', A.keep x c hx' hc]
variable {s t : Stand}
theorem Aut.look (A : Aut W σ) (P : Part W.n s) (h : Eqs σ s t) {c : Nat} (hc : c < W.n) : look O W t (σ c) = look O W s c := by
  have e : s.map (LW.cellLook O W c) = t.map (LW.cellLook O W (σ c)) := All2.mapEq (R := fun u v => (u.map σ).Perm v) (fun u v hu _ r => (A.cellLook O (fun x hx => P.lt hu hx) r hc).symm) h
  exact e.symm
theorem All2.fromMap {α β : Type} {R : α → β → Prop} {γ : Type} {f : γ → α} {g : γ → β} : ∀ (l : List γ), (∀ x, x ∈ l → R (f x) (g x)) → All2 R (l.map f) (l.map g) := fun l h => All2.ofMap h
theorem Aut.groups (A : Aut W σ) (P : Part W.n s) (h : Eqs σ s t) {u v : List Nat} (hu : ∀ x, x ∈ u → x < W.n) (r : (u.map σ).Perm v) : Eqs σ (groups O W s u) (groups O W t v) := by
  unfold LW.groups
  have e : O.srtL (v.map (LW.look O W t)) = O.srtL (u.map (LW.look O W s)) := by
    refine O.srtL_ext _ _ fun l => ?_
    have hm : ∀ x, x ∈ v ↔ ∃ y, y ∈ u ∧ σ y = x := fun x => by
      rw [← r.mem_iff, List.mem_map]
    simp only [List.mem_map]
    constructor
    · rintro ⟨x, hx, rfl⟩
      obtain ⟨y, hy, rfl⟩ := (hm x).mp hx
      exact ⟨y, hy, (A.look O P h (hu y hy)).symm⟩
    · rintro ⟨y, hy, rfl⟩
      exact ⟨σ y, (hm _).mpr ⟨y, hy, rfl⟩, A.look O P h (hu y hy)⟩
  rw [e]
  refine All2.ofMap fun l _ => ?_
  refine List.Perm.trans (List.Perm.of_eq ?_) (r.filter _)
  rw [List.filter_map]
  congr 1
  refine List.filter_congr fun x hx => ?_
  simp only [Function.comp_apply]
  rw [A.look O P h (hu x hx)]
theorem Aut.next (A : Aut W σ) (P : Part W.n s) (h : Eqs σ s t) : Eqs σ (next O W s) (next O W t) :=
  h.flatMap fun u v hu _ r => A.groups O P h (fun x hx => P.lt hu hx) r
theorem Aut.refF (A : Aut W σ) : ∀ (f : Nat) {s t : Stand}, Part W.n s → Eqs σ s t → Eqs σ (refF O W f s) (refF O W f t)
  | 0, _, _, _, h => h
  | f + 1, s, t, P, h => by
    unfold LW.refF
    have h1 := A.next O P h
    rw [h.len, h1.len]
    split
    · exact A.refF f (part_next O W P) h1
    · exact h
theorem Aut.refined (A : Aut W σ) (P : Part W.n s) (h : Eqs σ s t) : Eqs σ (refined O W s) (refined O W t) := A.refF O _ P h
theorem Aut.cellOf (A : Aut W σ) (P : Part W.n s) (h : Eqs σ s t) {c : Nat} (hc : c < W.n) : cellOf t (σ c) = cellOf s c := by
  have e : (s.findIdx fun u => decide (c ∈ u)) = t.findIdx fun v => decide (σ c ∈ v) := All2.findIdx (R := fun u v => (u.map σ).Perm v) (fun u v hu _ r => decide_eq_decide.mpr (A.mem (fun x hx => P.lt hu hx) r hc)) h
  exact e.symm
theorem All2.getD {α β : Type} {R : α → β → Prop} {a : α} {b : β} (h0 : R a b) {as : List α} {bs : List β} (h : All2 R as bs) (i : Nat) : R (as.getD i a) (bs.getD i b) := by
  rw [List.getD_eq_getElem?_getD, List.getD_eq_getElem?_getD]
  cases e : as[i]? with
  | none =>
    have : bs[i]? = none := by
      rw [List.getElem?_eq_none_iff] at e ⊢
      rw [← h.len]
      exact e
    rw [this]
    exact h0
  | some x =>
    obtain ⟨y, h1, h2⟩ := h.get e
    rw [h1]
    exact h2
theorem Aut.split (A : Aut W σ) (P : Part W.n s) (h : Eqs σ s t) {c : Nat} (hc : c < W.n) : Eqs σ (split s c) (split t (σ c)) := by
  have e := A.cellOf P h hc
  have r : ((s.getD (LW.cellOf s c) []).map σ).Perm (t.getD (LW.cellOf s c) []) := h.getD (by simp) _
  unfold LW.split
  rw [e]
  have hl := r.length_eq
  rw [List.length_map] at hl
  rw [← hl]
  obtain ⟨cell, h1, h2, h3⟩ := P.cellOf hc
  have e2 : s.getD (LW.cellOf s c) [] = cell := by rw [List.getD_eq_getElem?_getD, h1]; rfl
  have hu : ∀ x, x ∈ s.getD (LW.cellOf s c) [] → x < W.n := fun x hx => by
    rw [e2] at hx
    exact P.lt (List.mem_of_getElem? h1) hx
  split
  · exact (h.take _).append (.cons (by simp) (.cons (A.flt hu r hc) (h.drop _)))
  · exact h
theorem Aut.singled (A : Aut W σ) (P : Part W.n s) (h : Eqs σ s t) {c : Nat} (hc : c < W.n) : Eqs σ (singled O W s c) (singled O W t (σ c)) :=
  A.refined O (part_split P hc) (A.split P h hc)
theorem Aut.byColours (A : Aut W σ) : Eqs σ (byColours O W) (byColours O W) := by
  unfold LW.byColours
  refine All2.ofMap fun k _ => ?_
  have nd : (((List.range W.n).filter fun c => decide (W.col c = k)).map σ).Nodup := by
    unfold List.Nodup
    rw [List.pairwise_map]
    refine List.Pairwise.imp_of_mem ?_ ((List.nodup_range (n := W.n)).filter _)
    intro a b ha hb hne q
    exact hne (A.inj _ _ (List.mem_range.mp (List.mem_filter.mp ha).1) (List.mem_range.mp (List.mem_filter.mp hb).1) q)
  -- a subset of the same size
  have sub : ∀ x, x ∈ ((List.range W.n).filter fun c => decide (W.col c = k)).map σ → x ∈ (List.range W.n).filter fun c => decide (W.col c = k) := by
    intro x hx
    obtain ⟨y, hy, rfl⟩ := List.mem_map.mp hx
    obtain ⟨h1, h2⟩ := List.mem_filter.mp hy
    have hy' := List.mem_range.mp h1
    refine List.mem_filter.mpr ⟨List.mem_range.mpr (A.lt y hy'), ?_⟩
    rw [A.col y hy']
    exact h2
  exact perm_of_sub _ _ nd sub (by rw [List.length_map]; exact Nat.le_refl _)
theorem Aut.root (A : Aut W σ) : Eqs σ (root O W) (root O W) := A.refined O (part_byColours O W) (A.byColours O)
end
end LW
set_option autoImplicit false
set_option synthInstance.maxSize 1000
set_option linter.all false
namespace LW
section
variable (O : Ops) {W : Web} {σ : Nat → Nat} {s t : Stand}
theorem mem_ext_map {α β : Type} {f : α → β} {g : α → β} {σ : α → α} {u v : List α} (r : (u.map σ).Perm v) (e : ∀ x, x ∈ u → g (σ x) = f x) : ∀ y, y ∈ v.map g ↔ y ∈ u.map f := by
  intro y
  simp only [List.mem_map]
  constructor
  · rintro ⟨x, hx, rfl⟩
    obtain ⟨z, hz, rfl⟩ := List.mem_map.mp (r.mem_iff.mpr hx)
    exact ⟨z, hz, (e z hz).symm⟩
  · rintro ⟨z, hz, rfl⟩
    exact ⟨σ z, r.mem_iff.mp (List.mem_map.mpr ⟨z, hz, rfl⟩), e z hz⟩
theorem Aut.toldCell (A : Aut W σ) (P : Part W.n s) (h : Eqs σ s t) {u v : List Nat} (hu : u ∈ s) (r : (u.map σ).Perm v) : toldCell O W t v = toldCell O W s u := by
  unfold LW.toldCell
  have hlt : ∀ x, x ∈ u → x < W.n := fun x hx => P.lt hu hx
  have une : u ≠ [] := P.ne u hu
  have vne : v ≠ [] := fun q => by
    rw [q] at r
    exact une (List.map_eq_nil_iff.mp r.eq_nil)
  have e1 : O.minI (v.map W.col) = O.minI (u.map W.col) := O.minI_ext _ _ (fun q => vne (List.map_eq_nil_iff.mp q)) (mem_ext_map r fun x hx => A.col x (hlt x hx))
  have e2 : v.length = u.length := by rw [← r.length_eq, List.length_map]
  have e3 : O.minL (v.map (LW.look O W t)) = O.minL (u.map (LW.look O W s)) := O.minL_ext _ _ (fun q => vne (List.map_eq_nil_iff.mp q)) (mem_ext_map r fun x hx => A.look O P h (hlt x hx))
  rw [e1, e2, e3]
theorem Aut.telling (A : Aut W σ) (P : Part W.n s) (h : Eqs σ s t) : telling O W t = telling O W s := by
  have e : s.map (LW.toldCell O W s) = t.map (LW.toldCell O W t) := All2.mapEq (R := fun u v => (u.map σ).Perm v) (fun u v hu _ r => (A.toldCell O P h hu r).symm) h
  exact e.symm
theorem Aut.toldRow (A : Aut W σ) (P : Part W.n s) (h : Eqs σ s t) {row : List Nat} (hr : ∀ x, x ∈ row → x < W.n) : toldRow O W t (row.map σ) = toldRow O W s row := by
  unfold LW.toldRow
  rw [A.telling O P h, List.map_map]
  congr 1
  exact List.map_congr_left fun x hx => A.cellOf P h (hr x hx)
theorem Aut.foldStand (A : Aut W σ) : ∀ (row : List Nat) {s t : Stand}, Part W.n s → Eqs σ s t → (∀ x, x ∈ row → x < W.n) → Eqs σ (row.foldl (LW.singled O W) s) ((row.map σ).foldl (LW.singled O W) t)
  | [], _, _, _, h, _ => h
  | c :: row, s, t, P, h, hr => A.foldStand row (part_singled O W P (hr c List.mem_cons_self)) (A.singled O P h (hr c List.mem_cons_self)) fun x hx => hr x (List.mem_cons_of_mem _ hx)
theorem Aut.stand (A : Aut W σ) {row : List Nat} (hr : ∀ x, x ∈ row → x < W.n) : Eqs σ (LW.rowStand O W row) (LW.rowStand O W (row.map σ)) := A.foldStand O row (part_root O W) (A.root O) hr
theorem Aut.worth (A : Aut W σ) {row : List Nat} (hr : ∀ x, x ∈ row → x < W.n) : worth O W (row.map σ) = worth O W row := by
  unfold LW.worth
  rw [List.length_map]
  refine List.map_congr_left fun k _ => ?_
  rw [← List.map_take]
  have hr' : ∀ x, x ∈ row.take k → x < W.n := fun x hx => hr x (List.mem_of_mem_take hx)
  exact A.toldRow O (part_rowStand O W hr') (A.stand O hr') hr'
theorem Aut.target (h : Eqs σ s t) : target t = target s := by
  have e : (s.findIdx fun u => decide (1 < u.length)) = t.findIdx fun v => decide (1 < v.length) := All2.findIdx (R := fun u v => (u.map σ).Perm v) (fun u v _ _ r => by rw [← r.length_eq, List.length_map]) h
  exact e.symm
theorem getD_mem {s : Stand} {i : Nat} {x : Nat} (h : x ∈ s.getD i []) : s.getD i [] ∈ s := by
  rw [List.getD_eq_getElem?_getD] at h ⊢
  cases e : s[i]? with
  | none =>
    rw [e] at h
    cases h
  | some c => exact List.mem_of_getElem? e
theorem kids_lt (P : Part W.n s) {row : List Nat} {c : Nat} (h : c ∈ kids O W s row) : c < W.n := by
  have h1 := (List.mem_filter.mp h).1
  exact P.lt (getD_mem h1) h1
theorem Aut.kids (A : Aut W σ) (P : Part W.n s) (h : Eqs σ s t) {row : List Nat} (hr : ∀ x, x ∈ row → x < W.n) {c : Nat} (hc : c ∈ kids O W s row) : σ c ∈ kids O W t (row.map σ) := by
  have hlt := kids_lt O P hc
  unfold LW.kids at hc ⊢
  rw [Aut.target h]
  have r : ((s.getD (LW.target s) []).map σ).Perm (t.getD (LW.target s) []) := All2.getD (R := fun (u v : List Nat) => (u.map σ).Perm v) (by simp) h _
  obtain ⟨h1, h2⟩ := List.mem_filter.mp hc
  have hu : ∀ x, x ∈ s.getD (LW.target s) [] → x < W.n := fun x hx => P.lt (getD_mem hx) hx
  have told : ∀ x, x ∈ s.getD (LW.target s) [] → kidTold O W t (row.map σ) (σ x) = kidTold O W s row x := fun x hx => by
    have hx' := hu x hx
    unfold kidTold
    have e : row.map σ ++ [σ x] = (row ++ [x]).map σ := by simp
    rw [e]
    refine A.toldRow O (part_singled O W P hx') (A.singled O P h hx') fun y hy => ?_
    rcases List.mem_append.mp hy with hy | hy
    · exact hr y hy
    · simp only [List.mem_singleton] at hy
      rw [hy]
      exact hx'
  refine List.mem_filter.mpr ⟨r.mem_iff.mp (List.mem_map.mpr ⟨c, h1, rfl⟩), ?_⟩
  have e := of_decide_eq_true h2
  refine decide_eq_true ?_
  rw [told c h1, e]
  refine (O.minT_ext _ _ (fun q => ?_) (mem_ext_map r told)).symm
  have := List.map_eq_nil_iff.mp q
  have h3 := r.mem_iff.mp (List.mem_map.mpr ⟨c, h1, rfl⟩)
  rw [this] at h3
  cases h3
theorem Aut.leavesF (A : Aut W σ) : ∀ (f : Nat) {row : List Nat} {s t : Stand}, Part W.n s → Eqs σ s t → (∀ x, x ∈ row → x < W.n) → ∀ r, r ∈ leavesF O W f row s → r.map σ ∈ leavesF O W f (row.map σ) t
  | 0, _, _, _, _, _, _, r, h => by cases h
  | f + 1, row, s, t, P, h, hr, r, hm => by
    unfold LW.leavesF at hm ⊢
    rw [Aut.target h, ← h.len]
    split
    · rename_i e
      rw [if_pos e] at hm
      simp only [List.mem_singleton] at hm ⊢
      rw [hm]
    · rename_i e
      rw [if_neg e] at hm
      obtain ⟨c, hc, hm⟩ := List.mem_flatMap.mp hm
      have hlt := kids_lt O P hc
      refine List.mem_flatMap.mpr ⟨σ c, A.kids O P h hr hc, ?_⟩
      have e2 : row.map σ ++ [σ c] = (row ++ [c]).map σ := by simp
      rw [e2]
      refine A.leavesF f (part_singled O W P hlt) (A.singled O P h hlt) (fun y hy => ?_) r hm
      rcases List.mem_append.mp hy with hy | hy
      · exact hr y hy
      · simp only [List.mem_singleton] at hy
        rw [hy]
        exact hlt
theorem Aut.leaves (A : Aut W σ) {r : List Nat} (h : r ∈ leaves O W) : r.map σ ∈ leaves O W := A.leavesF O (W.n + 1) (part_root O W) (A.root O) (by simp) r h
end

/-! ### what a leaf is -/
section
variable (O : Ops) (W : Web)
/-- what holds of a row and its stand on the way down -/
structure Way (row : List Nat) (s : Stand) : Prop where
  part : Part W.n s
  eq : s = rowStand O W row
  lt : ∀ x, x ∈ row → x < W.n
  nd : row.Nodup
  one : ∀ x, x ∈ row → [x] ∈ s
theorem way_root : Way O W [] (root O W) := ⟨part_root O W, rfl, by simp, by simp, by simp⟩
variable {O W}
theorem target_big {s : Stand} (h : target s ≠ s.length) : ∃ cell, s[target s]? = some cell ∧ 1 < cell.length ∧ s.getD (target s) [] = cell := by
  have hl : target s < s.length := by
    have := List.findIdx_le_length (xs := s) (p := fun cell => decide (1 < cell.length))
    unfold target at h ⊢
    omega
  have h2 : (fun cell : List Nat => decide (1 < cell.length)) s[target s] = true := List.findIdx_getElem (w := hl)
  refine ⟨s[target s], List.getElem?_eq_getElem hl, of_decide_eq_true h2, ?_⟩
  rw [List.getD_eq_getElem?_getD, List.getElem?_eq_getElem hl]
  rfl
theorem Way.kid {row : List Nat} {s : Stand} (y : Way O W row s) {c : Nat} (hc : c ∈ kids O W s row) (h : target s ≠ s.length) : Way O W (row ++ [c]) (singled O W s c) ∧ s.length < (singled O W s c).length := by
  have hlt := kids_lt O y.part hc
  obtain ⟨cell, h1, h2, h3⟩ := target_big h
  have hm : c ∈ cell := by
    have := (List.mem_filter.mp hc).1
    rw [h3] at this
    exact this
  have hcell := y.part.cellOf_eq h1 hm
  refine ⟨⟨part_singled O W y.part hlt, ?_, fun x hx => ?_, ?_, fun x hx => ?_⟩, (singled_len O W y.part hlt).2 (by rw [hcell, h3]; exact h2)⟩
  · rw [rowStand_snoc, ← y.eq]
  · rcases List.mem_append.mp hx with hx | hx
    · exact y.lt x hx
    · simp only [List.mem_singleton] at hx
      rw [hx]
      exact hlt
  · rw [List.nodup_append]
    refine ⟨y.nd, by simp, fun a ha b hb => ?_⟩
    simp only [List.mem_singleton] at hb
    rintro rfl
    subst hb
    obtain ⟨j, hj⟩ := List.mem_iff_getElem?.mp (y.one a ha)
    have e := y.part.one hj h1 (by simp) hm
    rw [e, h1] at hj
    rw [Option.some.inj hj] at h2
    simp at h2
  · refine single_singled O W y.part hlt ?_
    rcases List.mem_append.mp hx with hx | hx
    · exact .inl (y.one x hx)
    · simp only [List.mem_singleton] at hx
      exact .inr hx
/-- single cells alone -/
def Disc (s : Stand) : Prop := target s = s.length
theorem Disc.single {s : Stand} (h : Disc s) {n : Nat} (P : Part n s) : ∀ cell, cell ∈ s → ∃ x, cell = [x] := by
  intro cell hc
  have h1 : ¬ 1 < cell.length := by
    have := List.findIdx_eq_length.mp (show s.findIdx (fun cell => decide (1 < cell.length)) = s.length from h) cell hc
    simpa using this
  have h2 := List.length_pos_iff.mpr (P.ne cell hc)
  match cell, h1, h2 with
  | [x], _, _ => exact ⟨x, rfl⟩
  | _ :: _ :: _, h1, _ => simp at h1
theorem leafF : ∀ (f : Nat) {row : List Nat} {s : Stand}, Way O W row s → ∀ r, r ∈ leavesF O W f row s → Way O W r (rowStand O W r) ∧ Disc (rowStand O W r) ∧ row <+: r
  | 0, _, _, _, r, h => by cases h
  | f + 1, row, s, y, r, hm => by
    unfold leavesF at hm
    split at hm
    · rename_i e
      simp only [List.mem_singleton] at hm
      subst hm
      refine ⟨by rw [← y.eq]; exact y, by rw [← y.eq]; exact e, List.prefix_refl _⟩
    · rename_i e
      obtain ⟨c, hc, hm⟩ := List.mem_flatMap.mp hm
      obtain ⟨a1, a2, a3⟩ := leafF f (y.kid hc e).1 r hm
      exact ⟨a1, a2, (List.prefix_append _ _).trans a3⟩
theorem leaf_way {r : List Nat} (h : r ∈ leaves O W) : Way O W r (rowStand O W r) ∧ Disc (rowStand O W r) := by
  obtain ⟨a, b, _⟩ := leafF (W.n + 1) (way_root O W) r h
  exact ⟨a, b⟩
theorem prefix_snoc {row r : List Nat} {c d : Nat} (h1 : row ++ [c] <+: r) (h2 : row ++ [d] <+: r) : c = d := by
  obtain ⟨u, e1⟩ := h1
  obtain ⟨v, e2⟩ := h2
  rw [← e2] at e1
  simp only [List.append_assoc, List.append_cancel_left_eq, List.cons_append, List.nil_append, List.cons.injEq] at e1
  exact e1.1
/-- no leaf is another's beginning -/
theorem leaf_prefixF : ∀ (f : Nat) {row : List Nat} {s : Stand}, Way O W row s → ∀ r q, r ∈ leavesF O W f row s → q ∈ leavesF O W f row s → r <+: q → r = q
  | 0, _, _, _, r, _, h, _, _ => by cases h
  | f + 1, row, s, y, r, q, hr, hq, hp => by
    unfold leavesF at hr hq
    split at hr
    · rename_i e
      rw [if_pos e] at hq
      simp only [List.mem_singleton] at hr hq
      rw [hr, hq]
    · rename_i e
      rw [if_neg e] at hq
      obtain ⟨c, hc, hr⟩ := List.mem_flatMap.mp hr
      obtain ⟨d, hd, hq⟩ := List.mem_flatMap.mp hq
      have h1 := (leafF f (y.kid hc e).1 r hr).2.2
      have h2 := (leafF f (y.kid hd e).1 q hq).2.2
      have e2 := prefix_snoc (h1.trans hp) h2
      subst e2
      exact leaf_prefixF f (y.kid hc e).1 r q hr hq hp
theorem leaf_prefix {r q : List Nat} (hr : r ∈ leaves O W) (hq : q ∈ leaves O W) (h : r <+: q) : r = q := leaf_prefixF (W.n + 1) (way_root O W) r q hr hq h
/-- each leaf is told once -/
theorem leaf_ndF : ∀ (f : Nat) {row : List Nat} {s : Stand}, Way O W row s → (leavesF O W f row s).Nodup
  | 0, _, _, _ => by
    unfold leavesF
    exact List.nodup_nil
  | f + 1, row, s, y => by
    unfold leavesF
    split
    · simp
    · rename_i e
      unfold List.Nodup
      rw [List.pairwise_flatMap]
      refine ⟨fun c hc => leaf_ndF f (y.kid hc e).1, ?_⟩
      have nd : (kids O W s row).Nodup := by
        obtain ⟨cell, h1, h2, h3⟩ := target_big e
        unfold kids
        rw [h3]
        exact (y.part.cellNd (List.mem_of_getElem? h1)).filter _
      refine List.Pairwise.imp_of_mem ?_ nd
      intro c d hc hd hne r hr q hq e2
      subst e2
      exact hne (prefix_snoc (leafF f (y.kid hc e).1 r hr).2.2 (leafF f (y.kid hd e).1 r hq).2.2)
theorem leaf_nd : (leaves O W).Nodup := leaf_ndF (W.n + 1) (way_root O W)
/-- there is a leaf -/
theorem kids_ne {row : List Nat} {s : Stand} (h : target s ≠ s.length) : kids O W s row ≠ [] := by
  obtain ⟨cell, h1, h2, h3⟩ := target_big h
  unfold kids
  rw [h3]
  have ne : cell.map (kidTold O W s row) ≠ [] := by
    intro q
    rw [List.map_eq_nil_iff.mp q] at h2
    simp at h2
  obtain ⟨c, hc, e⟩ := List.mem_map.mp (O.minT_mem _ ne)
  intro q
  have : c ∈ cell.filter fun c => decide (kidTold O W s row c = O.minT (cell.map (kidTold O W s row))) := List.mem_filter.mpr ⟨hc, by simpa using e⟩
  rw [q] at this
  cases this
theorem leaf_someF : ∀ (f : Nat) {row : List Nat} {s : Stand}, Way O W row s → W.n < f + s.length → leavesF O W f row s ≠ []
  | 0, row, s, y, h => by
    have := y.part.len
    omega
  | f + 1, row, s, y, h => by
    unfold leavesF
    split
    · simp
    · rename_i e
      cases q : kids O W s row with
      | nil => exact absurd q (kids_ne e)
      | cons c r =>
        have hc : c ∈ kids O W s row := by rw [q]; exact List.mem_cons_self
        have h1 := y.kid hc e
        have h2 := leaf_someF f h1.1 (by omega)
        intro z
        rw [List.flatMap_cons] at z
        exact h2 (List.append_eq_nil_iff.mp z).1
theorem leaf_some : leaves O W ≠ [] := leaf_someF (W.n + 1) (way_root O W) (by omega)
/-- how many there are -/
def fact : Nat → Nat
  | 0 => 1
  | n + 1 => (n + 1) * fact n
theorem fact_pos : ∀ n, 0 < fact n
  | 0 => by decide
  | n + 1 => Nat.mul_pos (Nat.succ_pos _) (fact_pos n)
theorem flatMap_len {α β : Type} (f : α → List β) (k : Nat) : ∀ l : List α, (∀ x, x ∈ l → (f x).length ≤ k) → (l.flatMap f).length ≤ l.length * k
  | [], _ => by simp
  | x :: l, h => by
    have h1 := flatMap_len f k l fun y hy => h y (List.mem_cons_of_mem _ hy)
    have h2 := h x List.mem_cons_self
    simp only [List.flatMap_cons, List.length_append, List.length_cons, Nat.add_mul, Nat.one_mul]
    omega
theorem leaf_manyF : ∀ (m f : Nat) {row : List Nat} {s : Stand}, Way O W row s → W.n ≤ m + s.length → (leavesF O W f row s).length ≤ fact (m + 1)
  | m, 0, _, _, _, _ => by
    unfold leavesF
    exact Nat.zero_le _
  | m, f + 1, row, s, y, h => by
    unfold leavesF
    split
    · exact fact_pos _
    · rename_i e
      obtain ⟨cell, h1, h2, h3⟩ := target_big e
      have room := y.part.room (List.mem_of_getElem? h1)
      cases m with
      | zero => omega
      | succ m =>
        have h4 : (kids O W s row).length ≤ m + 1 + 1 := by
          have : (kids O W s row).length ≤ cell.length := by
            unfold kids
            rw [h3]
            exact List.length_filter_le _ _
          omega
        refine Nat.le_trans (flatMap_len _ (fact (m + 1)) _ fun c hc => ?_) ?_
        · have h5 := y.kid hc e
          exact leaf_manyF m f h5.1 (by omega)
        · show _ ≤ (m + 1 + 1) * fact (m + 1)
          exact Nat.mul_le_mul_right _ h4
theorem root_pos (h : 0 < W.n) : 0 < (root O W).length := by
  obtain ⟨c, hc, _⟩ := (part_root O W).has h
  exact List.length_pos_of_mem hc
theorem leaf_many (h : W.n ≤ 5) : (leaves O W).length ≤ 120 := by
  by_cases h0 : W.n = 0
  · have h1 := leaf_manyF 0 (W.n + 1) (way_root O W) (by omega)
    exact Nat.le_trans h1 (by decide)
  · have h2 := root_pos (O := O) (W := W) (by omega)
    have h1 := leaf_manyF 4 (W.n + 1) (way_root O W) (by omega)
    exact Nat.le_trans h1 (by decide)
end
end LW
set_option autoImplicit false
set_option synthInstance.maxSize 1000
set_option linter.all false
namespace LW
/-! ### a stand of single cells, as an order of the corners -/
def hd (cell : List Nat) : Nat := cell.getD 0 0
def ord (s : Stand) : List Nat := s.map hd
section
variable {O : Ops} {W : Web} {s t : Stand} {n : Nat}
theorem map_single {s : Stand} (h : ∀ cell, cell ∈ s → ∃ x, cell = [x]) : s = (ord s).map fun x => [x] := by
  unfold ord
  rw [List.map_map]
  have : s.map id = s := List.map_id s
  rw [← this]
  rw [List.map_map]
  refine List.map_congr_left fun c hc => ?_
  obtain ⟨x, rfl⟩ := h c hc
  rfl
theorem ord_eq (P : Part n s) (d : Disc s) : s = (ord s).map fun x => [x] := map_single (d.single P)
theorem ord_perm (P : Part n s) (d : Disc s) : (ord s).Perm (List.range n) := by
  have h := P.perm
  rw [ord_eq P d] at h
  have e : ((ord s).map fun x => [x]).flatten = ord s := by
    rw [← List.flatMap_def]
    simp
  rw [e] at h
  exact h
theorem ord_len (P : Part n s) (d : Disc s) : (ord s).length = n := by
  rw [(ord_perm P d).length_eq, List.length_range]
theorem ord_get (P : Part n s) (d : Disc s) {i : Nat} (h : i < n) : ∃ x, (ord s)[i]? = some x ∧ x < n ∧ s[i]? = some [x] ∧ (ord s).getD i 0 = x := by
  have hl : i < (ord s).length := by rw [ord_len P d]; exact h
  refine ⟨(ord s)[i], List.getElem?_eq_getElem hl, ?_, ?_, ?_⟩
  · exact List.mem_range.mp ((ord_perm P d).mem_iff.mp (List.getElem_mem hl))
  · have e := congrArg (fun l : Stand => l[i]?) (ord_eq P d)
    simp only [List.getElem?_map, List.getElem?_eq_getElem hl, Option.map_some] at e
    exact e
  · rw [List.getD_eq_getElem?_getD, List.getElem?_eq_getElem hl]
    rfl
theorem ord_cell (P : Part n s) (d : Disc s) {x : Nat} (h : x < n) : cellOf s x < n ∧ (ord s)[cellOf s x]? = some x := by
  obtain ⟨cell, h1, h2, h3⟩ := P.cellOf h
  have hl : s.length = n := by
    have := ord_len P d
    unfold ord at this
    rw [List.length_map] at this
    exact this
  obtain ⟨y, rfl⟩ := d.single P cell (List.mem_of_getElem? h1)
  simp only [List.mem_singleton] at h2
  subst h2
  refine ⟨by omega, ?_⟩
  unfold ord
  rw [List.getElem?_map, h1]
  rfl
theorem cell_ord (P : Part n s) (d : Disc s) {i x : Nat} (h : (ord s)[i]? = some x) : cellOf s x = i := by
  have hl : i < n := by
    have := (List.getElem?_eq_some_iff.mp h).1
    rw [ord_len P d] at this
    exact this
  obtain ⟨y, h1, _, h2, _⟩ := ord_get P d hl
  rw [h] at h1
  have e := Option.some.inj h1
  subst e
  exact P.cellOf_eq h2 (by simp)
theorem ord_inj (P : Part n s) (d : Disc s) {i j x : Nat} (h1 : (ord s)[i]? = some x) (h2 : (ord s)[j]? = some x) : i = j := by
  rw [← cell_ord P d h1, ← cell_ord P d h2]

/-! ### equal tellings of single cells -/
theorem minI_one (x : Int) : O.minI [x] = x := by
  have := O.minI_mem [x] (by simp)
  simpa using this
theorem minL_one (x : Look) : O.minL [x] = x := by
  have := O.minL_mem [x] (by simp)
  simpa using this
theorem told_single (s : Stand) (x : Nat) : toldCell O W s [x] = (W.col x, 1, look O W s x) := by
  unfold toldCell
  show (O.minI [W.col x], 1, O.minL [look O W s x]) = _
  rw [minI_one, minL_one]
theorem telling_disc (P : Part n s) (d : Disc s) : telling O W s = (ord s).map fun x => (W.col x, 1, look O W s x) := by
  unfold telling
  have e := ord_eq P d
  generalize hp : ord s = p at e ⊢
  have : s.map (toldCell O W s) = (p.map fun x => [x]).map (toldCell O W s) := congrArg (List.map (toldCell O W s)) e
  rw [this, List.map_map]
  refine List.map_congr_left fun x _ => ?_
  exact told_single s x
theorem look_disc (P : Part n s) (d : Disc s) (c : Nat) : look O W s c = (ord s).map fun x => cellLook O W c [x] := by
  unfold look
  have e := ord_eq P d
  generalize hp : ord s = p at e ⊢
  have : s.map (cellLook O W c) = (p.map fun x => [x]).map (cellLook O W c) := congrArg (List.map (cellLook O W c)) e
  rw [this, List.map_map]
  rfl
theorem cellLook_one {c x : Nat} (h : x ≠ c) : cellLook O W c [x] = [pair W c x] := by
  unfold cellLook
  have e : ([x].filter fun o => o != c) = [x] := by simp [h]
  rw [e]
  have := O.srtP_perm [pair W c x]
  exact List.perm_singleton.mp this
/-- what two stands of single cells with one telling share -/
theorem same_told (Ps : Part n s) (ds : Disc s) (Pt : Part n t) (dt : Disc t) (e : telling O W s = telling O W t) (dg : ∀ a, a < n → W.mrk a a = 0)
    {i j x y x' y' : Nat} (hx : (ord s)[i]? = some x) (hy : (ord s)[j]? = some y) (hx' : (ord t)[i]? = some x') (hy' : (ord t)[j]? = some y') :
    W.col x = W.col x' ∧ W.mrk x y = W.mrk x' y' := by
  rw [telling_disc Ps ds, telling_disc Pt dt] at e
  have e1 := congrArg (fun l => l[i]?) e
  simp only [List.getElem?_map, hx, hx', Option.map_some, Option.some.injEq, Prod.mk.injEq, true_and] at e1
  obtain ⟨e2, e3⟩ := e1
  refine ⟨e2, ?_⟩
  by_cases hij : i = j
  · subst hij
    rw [hx] at hy
    rw [hx'] at hy'
    have q1 := Option.some.inj hy
    have q2 := Option.some.inj hy'
    subst q1 q2
    have l1 : x < n := List.mem_range.mp ((ord_perm Ps ds).mem_iff.mp (List.mem_of_getElem? hx))
    have l2 : x' < n := List.mem_range.mp ((ord_perm Pt dt).mem_iff.mp (List.mem_of_getElem? hx'))
    rw [dg x l1, dg x' l2]
  · have n1 : y ≠ x := fun q => hij (ord_inj Ps ds hx (q ▸ hy))
    have n2 : y' ≠ x' := fun q => hij (ord_inj Pt dt hx' (q ▸ hy'))
    rw [look_disc Ps ds, look_disc Pt dt] at e3
    have e4 := congrArg (fun l => l[j]?) e3
    simp only [List.getElem?_map, hy, hy', Option.map_some, Option.some.injEq] at e4
    rw [cellLook_one n1, cellLook_one n2] at e4
    simp only [List.cons.injEq, and_true] at e4
    unfold pair at e4
    exact (Prod.mk.inj e4).1

/-! ### two leaves of one worth -/
theorem worth_last {r : List Nat} : (worth O W r)[r.length]? = some (toldRow O W (rowStand O W r) r) := by
  unfold worth
  rw [List.getElem?_map, List.getElem?_range (Nat.lt_succ_self _)]
  simp
theorem worth_len {r : List Nat} : (worth O W r).length = r.length + 1 := by
  unfold worth
  rw [List.length_map, List.length_range]
theorem same_worth {r q : List Nat} (e : worth O W r = worth O W q) : r.length = q.length ∧ telling O W (rowStand O W r) = telling O W (rowStand O W q) ∧ r.map (cellOf (rowStand O W r)) = q.map (cellOf (rowStand O W q)) := by
  have hl : r.length = q.length := by
    have := congrArg List.length e
    rw [worth_len, worth_len] at this
    omega
  have h1 := worth_last (O := O) (W := W) (r := r)
  rw [e, hl, worth_last] at h1
  have h2 := Option.some.inj h1
  unfold toldRow at h2
  obtain ⟨a, b⟩ := Prod.mk.inj h2
  exact ⟨hl, a.symm, b.symm⟩
theorem rigid {r q : List Nat} (hr : r ∈ leaves O W) (hq : q ∈ leaves O W) (e : worth O W r = worth O W q) (dg : ∀ a, a < W.n → W.mrk a a = 0) :
    ∃ σ, Aut W σ ∧ r.map σ = q := by
  obtain ⟨yr, dr⟩ := leaf_way hr
  obtain ⟨yq, dq⟩ := leaf_way hq
  obtain ⟨hl, ht, hp⟩ := same_worth e
  have Pr := yr.part
  have Pq := yq.part
  have go : ∀ a, a < W.n → ∃ x', (ord (rowStand O W r))[cellOf (rowStand O W r) a]? = some a ∧ (ord (rowStand O W q))[cellOf (rowStand O W r) a]? = some x' ∧ x' < W.n ∧ (ord (rowStand O W q)).getD (cellOf (rowStand O W r) a) 0 = x' := fun a ha => by
    obtain ⟨h1, h2⟩ := ord_cell Pr dr ha
    obtain ⟨x', h3, h4, _, h5⟩ := ord_get Pq dq h1
    exact ⟨x', h2, h3, h4, h5⟩
  refine ⟨fun a => (ord (rowStand O W q)).getD (cellOf (rowStand O W r) a) 0, ⟨fun a ha => ?_, fun a b ha hb h => ?_, fun a ha => ?_, fun a b ha hb => ?_⟩, ?_⟩
  · obtain ⟨x', _, _, h3, h4⟩ := go a ha
    simp only [h4]
    exact h3
  · obtain ⟨x', a1, a2, a3, a4⟩ := go a ha
    obtain ⟨y', b1, b2, b3, b4⟩ := go b hb
    simp only [a4, b4] at h
    subst h
    have := ord_inj Pq dq a2 b2
    rw [this, b1] at a1
    exact (Option.some.inj a1).symm
  · obtain ⟨x', a1, a2, a3, a4⟩ := go a ha
    simp only [a4]
    exact (same_told Pr dr Pq dq ht dg a1 a1 a2 a2).1.symm
  · obtain ⟨x', a1, a2, a3, a4⟩ := go a ha
    obtain ⟨y', b1, b2, b3, b4⟩ := go b hb
    simp only [a4, b4]
    exact (same_told Pr dr Pq dq ht dg a1 b1 a2 b2).2.symm
  · refine List.ext_getElem? fun i => ?_
    rw [List.getElem?_map]
    have e1 := congrArg (fun l => l[i]?) hp
    simp only [List.getElem?_map] at e1
    cases h1 : r[i]? with
    | none =>
      rw [h1] at e1
      cases h2 : q[i]? with
      | none => rfl
      | some y =>
        rw [h2] at e1
        cases e1
    | some x =>
      rw [h1] at e1
      cases h2 : q[i]? with
      | none =>
        rw [h2] at e1
        cases e1
      | some y =>
        rw [h2] at e1
        simp only [Option.map_some, Option.some.injEq] at e1 ⊢
        have hx := yr.lt x (List.mem_of_getElem? h1)
        have hy := yq.lt y (List.mem_of_getElem? h2)
        obtain ⟨x', a1, a2, a3, a4⟩ := go x hx
        rw [a4]
        have h3 := (ord_cell Pq dq hy).2
        rw [← e1, a2] at h3
        exact Option.some.inj h3

/-! ### counting -/
def ordF (n : Nat) : Nat → List (List Nat)
  | 0 => [[]]
  | k + 1 => (ordF n k).flatMap fun row => ((List.range n).filter fun b => !decide (b ∈ row)).map fun b => row ++ [b]
theorem mem_ordF (n : Nat) : ∀ (k : Nat) (o : List Nat), o ∈ ordF n k ↔ o.length = k ∧ o.Nodup ∧ ∀ x, x ∈ o → x < n
  | 0, o => by
    unfold ordF
    simp only [List.mem_singleton]
    constructor
    · rintro rfl
      simp
    · rintro ⟨h, _⟩
      exact List.length_eq_zero_iff.mp h
  | k + 1, o => by
    unfold ordF
    rw [List.mem_flatMap]
    constructor
    · rintro ⟨row, hr, ho⟩
      obtain ⟨b, hb, rfl⟩ := List.mem_map.mp ho
      obtain ⟨h1, h2, h3⟩ := (mem_ordF n k row).mp hr
      obtain ⟨h4, h5⟩ := List.mem_filter.mp hb
      have h5 : b ∉ row := by simpa using h5
      refine ⟨by simp [h1], ?_, fun x hx => ?_⟩
      · rw [List.nodup_append]
        refine ⟨h2, by simp, fun a ha c hc => ?_⟩
        simp only [List.mem_singleton] at hc
        rintro rfl
        exact h5 (hc ▸ ha)
      · rcases List.mem_append.mp hx with hx | hx
        · exact h3 x hx
        · simp only [List.mem_singleton] at hx
          rw [hx]
          exact List.mem_range.mp h4
    · rintro ⟨h1, h2, h3⟩
      have hne : o ≠ [] := by
        intro e
        rw [e] at h1
        simp at h1
      have e := List.dropLast_concat_getLast hne
      generalize o.dropLast = row at e
      generalize o.getLast hne = b at e
      subst e
      rw [List.nodup_append] at h2
      obtain ⟨n1, _, n2⟩ := h2
      refine ⟨row, (mem_ordF n k row).mpr ⟨by simpa using h1, n1, fun x hx => h3 x (List.mem_append_left _ hx)⟩, List.mem_map.mpr ⟨b, List.mem_filter.mpr ⟨List.mem_range.mpr (h3 b (by simp)), ?_⟩, rfl⟩⟩
      have : b ∉ row := fun hb => n2 b hb b (by simp) rfl
      simpa using this
theorem nd_ordF (n : Nat) : ∀ k, (ordF n k).Nodup
  | 0 => by simp [ordF]
  | k + 1 => by
    unfold ordF
    unfold List.Nodup
    rw [List.pairwise_flatMap]
    refine ⟨fun row _ => ?_, ?_⟩
    · rw [List.pairwise_map]
      refine List.Pairwise.imp ?_ ((List.nodup_range (n := n)).filter _)
      intro a b h e
      simp only [List.append_cancel_left_eq, List.cons.injEq, and_true] at e
      exact h e
    · refine List.Pairwise.imp ?_ (nd_ordF n k)
      intro r q hne a ha b hb e
      obtain ⟨x, _, rfl⟩ := List.mem_map.mp ha
      obtain ⟨y, _, rfl⟩ := List.mem_map.mp hb
      have := congrArg List.dropLast e
      simp only [List.dropLast_concat] at this
      exact hne this
def keepsB (W : Web) (o : List Nat) : Bool := (List.range W.n).all fun a => decide (W.col (o.getD a 0) = W.col a) && (List.range W.n).all fun b => decide (W.mrk (o.getD a 0) (o.getD b 0) = W.mrk a b)
theorem keepsB_iff (W : Web) (o : List Nat) : keepsB W o = true ↔ ∀ a, a < W.n → W.col (o.getD a 0) = W.col a ∧ ∀ b, b < W.n → W.mrk (o.getD a 0) (o.getD b 0) = W.mrk a b := by
  unfold keepsB
  rw [List.all_eq_true]
  constructor
  · intro h a ha
    have h1 := h a (List.mem_range.mpr ha)
    rw [Bool.and_eq_true, List.all_eq_true] at h1
    exact ⟨of_decide_eq_true h1.1, fun b hb => of_decide_eq_true (h1.2 b (List.mem_range.mpr hb))⟩
  · intro h a ha
    have h1 := h a (List.mem_range.mp ha)
    rw [Bool.and_eq_true, List.all_eq_true]
    exact ⟨decide_eq_true h1.1, fun b hb => decide_eq_true (h1.2 b (List.mem_range.mp hb))⟩
def auts (W : Web) : List (List Nat) := (ordF W.n W.n).filter (keepsB W)
theorem getD_lt {o : List Nat} {a : Nat} (h : a < o.length) : o[a]? = some (o.getD a 0) := by
  rw [List.getD_eq_getElem?_getD, List.getElem?_eq_getElem h]
  rfl
theorem auts_aut {o : List Nat} (h : o ∈ auts W) : o.length = W.n ∧ Aut W fun a => o.getD a 0 := by
  obtain ⟨h1, h2⟩ := List.mem_filter.mp h
  obtain ⟨l, nd, lt⟩ := (mem_ordF _ _ _).mp h1
  have k := (keepsB_iff W o).mp h2
  refine ⟨l, ⟨fun a ha => lt _ (List.mem_of_getElem? (getD_lt (by omega))), fun a b ha hb e => ?_, fun a ha => (k a ha).1, fun a b ha hb => (k a ha).2 b hb⟩⟩
  have h3 := getD_lt (o := o) (a := a) (by omega)
  have h4 := getD_lt (o := o) (a := b) (by omega)
  exact (List.getElem?_inj (by omega) nd).mp (by rw [h3, h4]; exact congrArg some e)
theorem aut_auts {σ : Nat → Nat} (A : Aut W σ) : (List.range W.n).map σ ∈ auts W ∧ ∀ a, a < W.n → ((List.range W.n).map σ).getD a 0 = σ a := by
  have g : ∀ a, a < W.n → ((List.range W.n).map σ).getD a 0 = σ a := fun a ha => by
    rw [List.getD_eq_getElem?_getD, List.getElem?_map, List.getElem?_range ha]
    rfl
  refine ⟨List.mem_filter.mpr ⟨(mem_ordF _ _ _).mpr ⟨by simp, ?_, fun x hx => ?_⟩, (keepsB_iff _ _).mpr fun a ha => ⟨by rw [g a ha]; exact A.col a ha, fun b hb => by rw [g a ha, g b hb]; exact A.keep a b ha hb⟩⟩, g⟩
  · unfold List.Nodup
    rw [List.pairwise_map]
    refine List.Pairwise.imp_of_mem ?_ (List.nodup_range (n := W.n))
    intro a b ha hb hne e
    exact hne (A.inj a b (List.mem_range.mp ha) (List.mem_range.mp hb) e)
  · obtain ⟨a, ha, rfl⟩ := List.mem_map.mp hx
    exact A.lt a (List.mem_range.mp ha)
/-- the namings that keep the web move a leaf freely -/
theorem aut_free {r : List Nat} (hr : r ∈ leaves O W) {σ τ : Nat → Nat} (A : Aut W σ) (B : Aut W τ) (e : r.map σ = r.map τ) : ∀ a, a < W.n → σ a = τ a := by
  intro a ha
  obtain ⟨y, d⟩ := leaf_way hr
  have h1 := A.stand O y.lt
  have h2 := B.stand O y.lt
  rw [e] at h1
  obtain ⟨l, h3⟩ := ord_cell y.part d ha
  obtain ⟨x, g1, g2, g3, g4⟩ := ord_get y.part d l
  rw [h3] at g1
  have q := Option.some.inj g1
  subst q
  obtain ⟨v, k1, k2⟩ := h1.get g3
  obtain ⟨w, k3, k4⟩ := h2.get g3
  rw [k1] at k3
  have q := Option.some.inj k3
  subst q
  have z : [σ a].Perm [τ a] := k2.trans k4.symm
  have := List.perm_singleton.mp z
  simpa using this
def lowest (O : Ops) (W : Web) : List (List Nat) := (leaves O W).filter fun r => decide (worth O W r = O.minW ((leaves O W).map (worth O W)))
theorem lowest_len (dg : ∀ a, a < W.n → W.mrk a a = 0) : (lowest O W).length = (auts W).length := by
  have hne : (leaves O W).map (worth O W) ≠ [] := fun q => leaf_some (List.map_eq_nil_iff.mp q)
  obtain ⟨r, hr, er⟩ := List.mem_map.mp (O.minW_mem _ hne)
  have nd : ((auts W).map fun o => r.map fun a => o.getD a 0).Nodup := by
    unfold List.Nodup
    rw [List.pairwise_map]
    have nd0 : (auts W).Nodup := (nd_ordF _ _).filter _
    refine List.Pairwise.imp_of_mem ?_ nd0
    intro o p ho hp hne e
    obtain ⟨l1, A⟩ := auts_aut ho
    obtain ⟨l2, B⟩ := auts_aut hp
    have f := aut_free hr A B e
    refine hne (List.ext_getElem? fun i => ?_)
    by_cases hi : i < W.n
    · rw [getD_lt (by omega), getD_lt (by omega)]
      exact congrArg some (f i hi)
    · rw [List.getElem?_eq_none (by omega), List.getElem?_eq_none (by omega)]
  have sub : ∀ x, x ∈ ((auts W).map fun o => r.map fun a => o.getD a 0) ↔ x ∈ lowest O W := by
    intro x
    constructor
    · intro hx
      obtain ⟨o, ho, rfl⟩ := List.mem_map.mp hx
      obtain ⟨_, A⟩ := auts_aut ho
      refine List.mem_filter.mpr ⟨A.leaves O hr, decide_eq_true ?_⟩
      rw [A.worth O (leaf_way hr).1.lt, er]
    · intro hx
      obtain ⟨h1, h2⟩ := List.mem_filter.mp hx
      have h2 := of_decide_eq_true h2
      obtain ⟨σ, A, e⟩ := rigid hr h1 (er.trans h2.symm) dg
      obtain ⟨k1, k2⟩ := aut_auts A
      refine List.mem_map.mpr ⟨_, k1, ?_⟩
      rw [← e]
      exact List.map_congr_left fun a ha => k2 a ((leaf_way hr).1.lt a ha)
  have nd2 : (lowest O W).Nodup := leaf_nd.filter _
  have p1 := (perm_of_sub' nd nd2 sub).length_eq
  rw [List.length_map] at p1
  exact p1.symm
where
  perm_of_sub' {α : Type} [DecidableEq α] {l1 l2 : List α} (n1 : l1.Nodup) (n2 : l2.Nodup) (h : ∀ x, x ∈ l1 ↔ x ∈ l2) : l1.Perm l2 := by
    refine (List.perm_ext_iff_of_nodup n1 n2).mpr h
end

/-! ### the forms -/
section
variable {O : Ops} {W : Web} {s t : Stand} {n : Nat}
def form (W : Web) (p : List Nat) : List Int × List (List Int) := (p.map W.col, p.map fun a => p.map fun b => W.mrk a b)
theorem same_form {r q : List Nat} (hr : r ∈ leaves O W) (hq : q ∈ leaves O W) (e : worth O W r = worth O W q) (dg : ∀ a, a < W.n → W.mrk a a = 0) : form W (ord (rowStand O W r)) = form W (ord (rowStand O W q)) := by
  obtain ⟨yr, dr⟩ := leaf_way hr
  obtain ⟨yq, dq⟩ := leaf_way hq
  obtain ⟨_, ht, _⟩ := same_worth e
  have l1 := ord_len yr.part dr
  have l2 := ord_len yq.part dq
  have get : ∀ i, i < W.n → ∃ x x', (ord (rowStand O W r))[i]? = some x ∧ (ord (rowStand O W q))[i]? = some x' := fun i hi => by
    obtain ⟨x, h1, _⟩ := ord_get yr.part dr hi
    obtain ⟨y, h2, _⟩ := ord_get yq.part dq hi
    exact ⟨x, y, h1, h2⟩
  unfold form
  congr 1
  · refine List.ext_getElem? fun i => ?_
    rw [List.getElem?_map, List.getElem?_map]
    by_cases hi : i < W.n
    · obtain ⟨x, x', h1, h2⟩ := get i hi
      rw [h1, h2]
      exact congrArg some (same_told yr.part dr yq.part dq ht dg h1 h1 h2 h2).1
    · rw [List.getElem?_eq_none (by omega), List.getElem?_eq_none (by omega)]
  · refine List.ext_getElem? fun i => ?_
    rw [List.getElem?_map, List.getElem?_map]
    by_cases hi : i < W.n
    · obtain ⟨x, x', h1, h2⟩ := get i hi
      rw [h1, h2]
      refine congrArg some ?_
      refine List.ext_getElem? fun j => ?_
      rw [List.getElem?_map, List.getElem?_map]
      by_cases hj : j < W.n
      · obtain ⟨y, y', h3, h4⟩ := get j hj
        rw [h3, h4]
        exact congrArg some (same_told yr.part dr yq.part dq ht dg h1 h3 h2 h4).2
      · rw [List.getElem?_eq_none (by omega), List.getElem?_eq_none (by omega)]
        rfl
    · rw [List.getElem?_eq_none (by omega), List.getElem?_eq_none (by omega)]
      rfl
theorem lowest_form (dg : ∀ a, a < W.n → W.mrk a a = 0) {r q : List Nat} (hr : r ∈ lowest O W) (hq : q ∈ lowest O W) : form W (ord (rowStand O W r)) = form W (ord (rowStand O W q)) := by
  obtain ⟨h1, h2⟩ := List.mem_filter.mp hr
  obtain ⟨h3, h4⟩ := List.mem_filter.mp hq
  exact same_form h1 h3 ((of_decide_eq_true h2).trans (of_decide_eq_true h4).symm) dg
/-- the naming by a stand, looked up -/
def nam (n : Nat) (s : Stand) : List Nat := (List.range n).map (cellOf s)
theorem nam_old (P : Part n s) (d : Disc s) {a : Nat} (ha : a < n) : ∃ x, (ord s)[a]? = some x ∧ (nam n s)[x]? = some a ∧ ∀ y, (nam n s)[y]? = some a → y = x := by
  obtain ⟨x, h1, h2, _, _⟩ := ord_get P d ha
  refine ⟨x, h1, ?_, fun y hy => ?_⟩
  · unfold nam
    rw [List.getElem?_map, List.getElem?_range h2]
    show some (cellOf s x) = some a
    rw [cell_ord P d h1]
  · unfold nam at hy
    rw [List.getElem?_map] at hy
    by_cases hl : y < n
    · rw [List.getElem?_range hl] at hy
      have e : cellOf s y = a := Option.some.inj hy
      have := (ord_cell P d hl).2
      rw [e, h1] at this
      exact (Option.some.inj this).symm
    · rw [List.getElem?_eq_none (by simpa using hl)] at hy
      cases hy
/-- what the law asks of a leaf's last telling -/
theorem leaf_colours {r : List Nat} (h : r ∈ leaves O W) : (telling O W (rowStand O W r)).map (·.1) = (rowStand O W r).map fun cell => W.col (hd cell) := by
  obtain ⟨y, d⟩ := leaf_way h
  rw [telling_disc y.part d]
  show _ = (rowStand O W r).map (W.col ∘ hd)
  rw [← List.map_map]
  show _ = (ord (rowStand O W r)).map W.col
  rw [List.map_map]
  rfl
end
end LW
set_option autoImplicit false
set_option synthInstance.maxSize 1000
namespace LW
theorem flatMap_eq {α β : Type} {f g : α → List β} : ∀ l : List α, (∀ x, x ∈ l → f x = g x) → l.flatMap f = l.flatMap g
  | [], _ => rfl
  | x :: l, h => by
    rw [List.flatMap_cons, List.flatMap_cons, h x List.mem_cons_self, flatMap_eq l fun y hy => h y (List.mem_cons_of_mem _ hy)]
section
variable {O : Ops} {W : Web}
/-- with fuel enough it is the same -/
theorem leavesF_more : ∀ (f g : Nat) {row : List Nat} {s : Stand}, Way O W row s → W.n < f + s.length → W.n < g + s.length → leavesF O W f row s = leavesF O W g row s
  | 0, _, row, s, y, h, _ => absurd y.part.len (by omega)
  | f + 1, 0, row, s, y, _, h => absurd y.part.len (by omega)
  | f + 1, g + 1, row, s, y, h1, h2 => by
    unfold leavesF
    by_cases e : target s = s.length
    · rw [if_pos e, if_pos e]
    · rw [if_neg e, if_neg e]
      refine flatMap_eq _ fun c hc => ?_
      obtain ⟨y', hl⟩ := y.kid hc e
      exact leavesF_more f g y' (by omega) (by omega)
/-- the leaves below -/
def LV (O : Ops) (W : Web) (p : List Nat × Stand) : List (List Nat) := leavesF O W (W.n + 1) p.1 p.2
theorem LV_leaf {row : List Nat} {s : Stand} (e : target s = s.length) : LV O W (row, s) = [row] := by
  unfold LV leavesF
  rw [if_pos e]
theorem LV_kids {row : List Nat} {s : Stand} (y : Way O W row s) (e : target s ≠ s.length) : LV O W (row, s) = (kids O W s row).flatMap fun c => LV O W (row ++ [c], singled O W s c) := by
  have h0 : LV O W (row, s) = leavesF O W (W.n + 1) row s := rfl
  rw [h0]
  unfold leavesF
  rw [if_neg e]
  refine flatMap_eq _ fun c hc => ?_
  obtain ⟨y', hl⟩ := y.kid hc e
  exact leavesF_more _ _ y' (by omega) (by omega)
theorem leaves_LV : leaves O W = LV O W ([], root O W) := rfl
/-- what is left to be done -/
def wt (W : Web) (w : List (List Nat × Stand)) : Nat := (w.map fun p => 6 ^ (W.n - p.2.length)).sum
theorem wt_snoc (w : List (List Nat × Stand)) (p : List Nat × Stand) : wt W (w ++ [p]) = wt W w + 6 ^ (W.n - p.2.length) := by
  unfold wt
  simp
theorem sum_le {α : Type} (f : α → Nat) (k : Nat) : ∀ l : List α, (∀ x, x ∈ l → f x ≤ k) → (l.map f).sum ≤ l.length * k
  | [], _ => by simp
  | x :: l, h => by
    have := sum_le f k l fun y hy => h y (List.mem_cons_of_mem _ hy)
    have := h x List.mem_cons_self
    simp only [List.map_cons, List.sum_cons, List.length_cons, Nat.succ_mul]
    omega
theorem wt_kids {row : List Nat} {s : Stand} (y : Way O W row s) (e : target s ≠ s.length) (h5 : (kids O W s row).length ≤ 5) (w : List (List Nat × Stand)) :
    wt W (w ++ (kids O W s row).reverse.map fun c => (row ++ [c], singled O W s c)) < wt W w + 6 ^ (W.n - s.length) := by
  unfold wt
  rw [List.map_append, List.sum_append, List.map_map]
  have hb : ∀ c, c ∈ (kids O W s row).reverse → (((fun p : List Nat × Stand => 6 ^ (W.n - p.2.length)) ∘ fun c => (row ++ [c], singled O W s c)) c) ≤ 6 ^ (W.n - s.length - 1) ∧ s.length < W.n := fun c hc => by
    obtain ⟨y', hl⟩ := y.kid (List.mem_reverse.mp hc) e
    have hn := y'.part.len
    exact ⟨Nat.pow_le_pow_right (by decide) (by simp only [Function.comp]; omega), by omega⟩
  have := sum_le ((fun p : List Nat × Stand => 6 ^ (W.n - p.2.length)) ∘ fun c => (row ++ [c], singled O W s c)) (6 ^ (W.n - s.length - 1)) (kids O W s row).reverse fun c hc => (hb c hc).1
  rw [List.length_reverse] at this
  obtain ⟨c, hc⟩ := List.exists_mem_of_ne_nil _ (kids_ne (O := O) (W := W) (row := row) e)
  have lt := (hb c (List.mem_reverse.mpr hc)).2
  have pe : 6 ^ (W.n - s.length) = 6 * 6 ^ (W.n - s.length - 1) := by
    have : W.n - s.length = (W.n - s.length - 1) + 1 := by omega
    rw [this, Nat.pow_succ, Nat.mul_comm]
    rfl
  have pp : 0 < 6 ^ (W.n - s.length - 1) := Nat.pow_pos (by decide)
  have h6 : (kids O W s row).length * 6 ^ (W.n - s.length - 1) ≤ 5 * 6 ^ (W.n - s.length - 1) := Nat.mul_le_mul_right _ h5
  omega
end
end LW

set_option autoImplicit false
set_option linter.all false
set_option synthInstance.maxSize 1000
set_option maxRecDepth 100000
namespace LK
open PySem PySem.Spec L2
/-! ### data of numbers and tuples -/
mutual
def tame : PyData → Bool
  | .int _ => true
  | .tuple xs => tameAll xs
  | _ => false
def tameAll : List PyData → Bool
  | [] => true
  | x :: xs => tame x && tameAll xs
end
mutual
theorem tame_eqv : ∀ x y : PyData, tame x = true → tame y = true → (PyData.eqv x y = true ↔ x = y)
  | .int a, y, _, hy => by
    cases y with
    | int b => simp [PyData.eqv]
    | tuple ys => simp [PyData.eqv]
    | _ => simp [tame] at hy
  | .tuple xs, y, hx, hy => by
    cases y with
    | int b => simp [PyData.eqv]
    | tuple ys =>
      rw [PyData.eqv, tame_eqvAll xs ys (by simpa [tame] using hx) (by simpa [tame] using hy)]
      exact ⟨fun e => by rw [e], fun e => by injection e⟩
    | _ => simp [tame] at hy
  | .none, _, h, _ => by simp [tame] at h
  | .bool _, _, h, _ => by simp [tame] at h
  | .str _, _, h, _ => by simp [tame] at h
  | .list _, _, h, _ => by simp [tame] at h
  | .dict _, _, h, _ => by simp [tame] at h
theorem tame_eqvAll : ∀ xs ys : List PyData, tameAll xs = true → tameAll ys = true → (PyData.eqvAll xs ys = true ↔ xs = ys)
  | [], [], _, _ => by simp [PyData.eqvAll]
  | [], _ :: _, _, _ => by simp [PyData.eqvAll]
  | _ :: _, [], _, _ => by simp [PyData.eqvAll]
  | x :: xs, y :: ys, hx, hy => by
    rw [tameAll, Bool.and_eq_true] at hx hy
    rw [PyData.eqvAll, Bool.and_eq_true, tame_eqv x y hx.1 hy.1, tame_eqvAll xs ys hx.2 hy.2]
    exact ⟨fun e => by rw [e.1, e.2], fun e => by injection e with a b; exact ⟨a, b⟩⟩
end
mutual
theorem tame_lay : ∀ x : PyData, tame x = true → x.canLay0 = true
  | .int _, _ => by simp [PyData.canLay0]
  | .tuple xs, h => by rw [PyData.canLay0]; exact tame_layAll xs (by simpa [tame] using h)
  | .none, h => by simp [tame] at h
  | .bool _, h => by simp [tame] at h
  | .str _, h => by simp [tame] at h
  | .list _, h => by simp [tame] at h
  | .dict _, h => by simp [tame] at h
theorem tame_layAll : ∀ xs : List PyData, tameAll xs = true → PyData.canLayAll0 xs = true
  | [], _ => by simp [PyData.canLayAll0]
  | x :: xs, h => by
    rw [tameAll, Bool.and_eq_true] at h
    rw [PyData.canLayAll0, tame_lay x h.1, tame_layAll xs h.2]
    rfl
end
theorem tameAll_iff : ∀ xs : List PyData, tameAll xs = true ↔ ∀ x, x ∈ xs → tame x = true
  | [] => by simp [tameAll]
  | x :: xs => by
    rw [tameAll, Bool.and_eq_true, tameAll_iff xs]
    simp

/-- a way to tell things of a type as such data, all of one shape -/
structure Enc (α : Type) where
  e : α → PyData
  d : Nat
  tame : ∀ a, LK.tame (e a) = true
  inj : ∀ a b, e a = e b → a = b
  alike : ∀ a b, PySem.W.alike (e a) (e b) = true
  dep : ∀ a, (e a).depth ≤ d
namespace Enc
section
variable {α β γ : Type} (E : Enc α) (F : Enc β) (G : Enc γ)
theorem eqv (a b : α) : PyData.eqv (E.e a) (E.e b) = true ↔ a = b := by
  rw [tame_eqv _ _ (E.tame a) (E.tame b)]
  exact ⟨E.inj a b, fun h => by rw [h]⟩
theorem eqvD [DecidableEq α] (a b : α) : PyData.eqv (E.e a) (E.e b) = decide (a = b) := by
  by_cases h : a = b
  · rw [decide_eq_true h]
    exact (E.eqv a b).mpr h
  · rw [decide_eq_false h]
    cases q : PyData.eqv (E.e a) (E.e b) with
    | false => rfl
    | true => exact absurd ((E.eqv a b).mp q) h
theorem ne_none (a : α) : E.e a ≠ .none := fun h => by
  have := E.tame a
  rw [h] at this
  simp [LK.tame] at this
theorem alikeAll_map : ∀ xs ys : List α, PySem.W.alikeAll (xs.map E.e) (ys.map E.e) = true
  | [], ys => by simp [PySem.W.alikeAll]
  | x :: xs, [] => by simp [PySem.W.alikeAll]
  | x :: xs, y :: ys => by
    simp only [List.map_cons]
    rw [PySem.W.alikeAll, E.alike, alikeAll_map xs ys]
    rfl
theorem depthAll_map : ∀ xs : List α, PyData.depthAll (xs.map E.e) ≤ E.d
  | [] => by simp [PyData.depthAll]
  | x :: xs => by
    simp only [List.map_cons]
    rw [PyData.depthAll]
    exact Nat.max_le.mpr ⟨E.dep x, depthAll_map xs⟩
theorem map_inj : ∀ xs ys : List α, xs.map E.e = ys.map E.e → xs = ys
  | [], [], _ => rfl
  | [], _ :: _, h => by cases h
  | _ :: _, [], h => by cases h
  | x :: xs, y :: ys, h => by
    simp only [List.map_cons, List.cons.injEq] at h
    rw [E.inj _ _ h.1, map_inj xs ys h.2]
theorem tame_map (xs : List α) : tameAll (xs.map E.e) = true := (tameAll_iff _).mpr fun x hx => by
  obtain ⟨a, _, rfl⟩ := List.mem_map.mp hx
  exact E.tame a
/-- a row of such things -/
def row : Enc (List α) where
  e := fun l => .tuple (l.map E.e)
  d := E.d + 1
  tame := fun l => by rw [LK.tame]; exact E.tame_map l
  inj := fun a b h => by injection h with h; exact E.map_inj a b h
  alike := fun a b => by rw [PySem.W.alike]; exact E.alikeAll_map a b
  dep := fun a => by rw [PyData.depth]; have := E.depthAll_map a; omega
/-- a pair -/
def two : Enc (α × β) where
  e := fun p => .tuple [E.e p.1, F.e p.2]
  d := max E.d F.d + 1
  tame := fun p => by simp [LK.tame, tameAll, E.tame, F.tame]
  inj := fun a b h => by
    injection h with h
    simp only [List.cons.injEq, and_true] at h
    exact Prod.ext (E.inj _ _ h.1) (F.inj _ _ h.2)
  alike := fun a b => by simp [PySem.W.alike, PySem.W.alikeAll, E.alike, F.alike]
  dep := fun a => by
    have h1 := E.dep a.1
    have h2 := F.dep a.2
    simp only [PyData.depth, PyData.depthAll]
    omega
/-- three in a row -/
def three : Enc (α × β × γ) where
  e := fun p => .tuple [E.e p.1, F.e p.2.1, G.e p.2.2]
  d := max E.d (max F.d G.d) + 1
  tame := fun p => by simp [LK.tame, tameAll, E.tame, F.tame, G.tame]
  inj := fun a b h => by
    injection h with h
    simp only [List.cons.injEq, and_true] at h
    exact Prod.ext (E.inj _ _ h.1) (Prod.ext (F.inj _ _ h.2.1) (G.inj _ _ h.2.2))
  alike := fun a b => by simp [PySem.W.alike, PySem.W.alikeAll, E.alike, F.alike, G.alike]
  dep := fun a => by
    have h1 := E.dep a.1
    have h2 := F.dep a.2.1
    have h3 := G.dep a.2.2
    simp only [PyData.depth, PyData.depthAll]
    omega
end
def num : Enc Int where
  e := .int
  d := 0
  tame := fun _ => by simp [LK.tame]
  inj := fun a b h => by injection h
  alike := fun a b => by simp [PySem.W.alike]
  dep := fun a => by simp [PyData.depth]
def nat : Enc Nat where
  e := fun n => .int (n : Int)
  d := 0
  tame := fun _ => by simp [LK.tame]
  inj := fun a b h => by injection h with h; exact Int.ofNat.inj h
  alike := fun a b => by simp [PySem.W.alike]
  dep := fun a => by simp [PyData.depth]
end Enc
/-- corners in a row; a stand; a pair of marks; a look; a telling; a row's telling; a worth -/
def eNs : Enc (List Nat) := Enc.nat.row
def eSt : Enc LW.Stand := eNs.row
def eP : Enc LW.Pr := Enc.num.two Enc.num
def ePs : Enc (List LW.Pr) := eP.row
def eL : Enc LW.Look := ePs.row
def eC : Enc LW.TC := Enc.num.three Enc.nat eL
def eT : Enc LW.Tl := eC.row
def eR : Enc LW.TR := eT.two eNs
def eW : Enc LW.Wo := eR.row

/-! ### the order of such data -/
section
variable {α : Type} (E : Enc α)
theorem toks_inj (a b : α) (h : PySem.W.keyToks (E.e a) = PySem.W.keyToks (E.e b)) : a = b := by
  refine (E.eqv a b).mp ?_
  cases q : PyData.eqv (E.e a) (E.e b) with
  | true => rfl
  | false =>
    have h1 := (PySem.W.toks_eqv _ _ (E.alike a b)).2 q [] [.inl 0]
    rw [h] at h1
    rw [PySem.W.lex_pre, PyProof.Rows.lex_irrefl] at h1
    simp [PyProof.Rows.lexLt] at h1
def le (a b : α) : Bool := !PySem.W.dataLt (E.e b) (E.e a)
theorem le_eq : PySem.W.dataLe false E.e = le E := rfl
theorem le_trans (a b c : α) (h1 : le E a b = true) (h2 : le E b c = true) : le E a c = true := by
  unfold le at h1 h2 ⊢
  rw [Bool.not_eq_true'] at h1 h2 ⊢
  cases q : PySem.W.dataLt (E.e c) (E.e a) with
  | false => rfl
  | true =>
    rcases PyProof.Rows.lex_negTrans (O := PyProof.Rows.itemOrd) _ (PySem.W.keyToks (E.e b)) _ q with z | z
    · exact absurd (show PySem.W.dataLt (E.e c) (E.e b) = true from z) (by rw [h2]; decide)
    · exact absurd (show PySem.W.dataLt (E.e b) (E.e a) = true from z) (by rw [h1]; decide)
theorem le_total (a b : α) : (le E a b || le E b a) = true := by
  cases h : le E a b with
  | true => rfl
  | false =>
    rw [Bool.false_or]
    unfold le at h ⊢
    rw [Bool.not_eq_false'] at h
    rw [Bool.not_eq_true']
    cases q : PySem.W.dataLt (E.e a) (E.e b) with
    | false => rfl
    | true =>
      have := PyProof.Rows.lex_trans (O := PyProof.Rows.itemOrd) _ _ _ q h
      rw [PyProof.Rows.lex_irrefl] at this
      exact this.symm
theorem le_anti (a b : α) (h1 : le E a b = true) (h2 : le E b a = true) : a = b := by
  unfold le at h1 h2
  rw [Bool.not_eq_true'] at h1 h2
  exact toks_inj E a b (PyProof.Rows.lex_total (O := PyProof.Rows.itemOrd) _ _ h2 h1)
theorem sort_ext {l l' : List α} (h : l.Perm l') : l.mergeSort (le E) = l'.mergeSort (le E) :=
  List.Perm.eq_of_pairwise (fun a b _ _ => le_anti E a b) (List.pairwise_mergeSort (le_trans E) (le_total E) l) (List.pairwise_mergeSort (le_trans E) (le_total E) l')
    ((List.mergeSort_perm _ _).trans (h.trans (List.mergeSort_perm _ _).symm))
/-- the first of the least -/
def pick (x : α) (xs : List α) : α := xs.foldl (fun a y => if PySem.W.dataLt (E.e y) (E.e a) then y else a) x
theorem pick_minD : ∀ (xs : List α) (x : α), PySem.W.minD (E.e x) (xs.map E.e) = E.e (pick E x xs)
  | [], _ => rfl
  | y :: xs, x => by
    unfold PySem.W.minD pick
    simp only [List.map_cons, List.foldl_cons]
    have := pick_minD xs (if PySem.W.dataLt (E.e y) (E.e x) then y else x)
    unfold PySem.W.minD pick at this
    rw [← this]
    split <;> rfl
theorem pick_spec : ∀ (xs : List α) (x : α), pick E x xs ∈ x :: xs ∧ ∀ y, y ∈ x :: xs → le E (pick E x xs) y = true
  | [], x => ⟨by simp [pick], fun y hy => by
      simp only [List.mem_singleton] at hy
      rw [hy]
      have := le_total E x x
      simpa [pick] using this⟩
  | y :: xs, x => by
    have ih := pick_spec xs (if PySem.W.dataLt (E.e y) (E.e x) then y else x)
    have e : pick E x (y :: xs) = pick E (if PySem.W.dataLt (E.e y) (E.e x) then y else x) xs := rfl
    rw [e]
    obtain ⟨h1, h2⟩ := ih
    have h3 := h2 _ List.mem_cons_self
    by_cases hb : PySem.W.dataLt (E.e y) (E.e x) = true
    · rw [if_pos hb] at h1 h2 h3 ⊢
      have hyx : le E y x = true := by
        have := le_total E y x
        have h4 : le E x y = false := by unfold le; rw [hb]; rfl
        rw [h4, Bool.or_false] at this
        exact this
      refine ⟨List.mem_cons_of_mem _ h1, fun z hz => ?_⟩
      rcases List.mem_cons.mp hz with rfl | hz
      · exact le_trans E _ _ _ h3 hyx
      · exact h2 z hz
    · rw [if_neg hb] at h1 h2 h3 ⊢
      have hxy : le E x y = true := by
        unfold le
        rw [Bool.not_eq_true']
        exact Bool.eq_false_iff.mpr hb
      refine ⟨?_, fun z hz => ?_⟩
      · rcases List.mem_cons.mp h1 with h | h
        · rw [h]; exact List.mem_cons_self
        · exact List.mem_cons_of_mem _ (List.mem_cons_of_mem _ h)
      · rcases List.mem_cons.mp hz with rfl | hz
        · exact h3
        · rcases List.mem_cons.mp hz with rfl | hz
          · exact le_trans E _ _ _ h3 hxy
          · exact h2 z (List.mem_cons_of_mem _ hz)
def least [Inhabited α] : List α → α
  | [] => default
  | x :: xs => pick E x xs
theorem least_mem [Inhabited α] : ∀ l : List α, l ≠ [] → least E l ∈ l
  | [], h => absurd rfl h
  | x :: xs, _ => (pick_spec E xs x).1
theorem least_le [Inhabited α] : ∀ (l : List α) (y : α), y ∈ l → le E (least E l) y = true
  | [], _, h => by cases h
  | x :: xs, y, h => (pick_spec E xs x).2 y h
theorem least_ext [Inhabited α] {l l' : List α} (hne : l ≠ []) (h : ∀ x, x ∈ l ↔ x ∈ l') : least E l = least E l' := by
  have hne' : l' ≠ [] := fun q => by
    obtain ⟨x, hx⟩ := List.exists_mem_of_ne_nil l hne
    rw [h x, q] at hx
    cases hx
  exact le_anti E _ _ (least_le E l _ ((h _).mpr (least_mem E l' hne'))) (least_le E l' _ ((h _).mp (least_mem E l hne)))
/-- each once -/
def dd [DecidableEq α] : List α → List α
  | [] => []
  | x :: xs => if x ∈ dd xs then dd xs else x :: dd xs
theorem mem_dd [DecidableEq α] (x : α) : ∀ l : List α, x ∈ dd l ↔ x ∈ l
  | [] => Iff.rfl
  | y :: l => by
    unfold dd
    split
    · rename_i h
      rw [mem_dd x l, List.mem_cons]
      refine ⟨.inr, fun q => ?_⟩
      rcases q with rfl | q
      · exact (mem_dd x l).mp h
      · exact q
    · rw [List.mem_cons, List.mem_cons, mem_dd x l]
theorem nd_dd [DecidableEq α] : ∀ l : List α, (dd l).Nodup
  | [] => List.nodup_nil
  | y :: l => by
    unfold dd
    split
    · exact nd_dd l
    · rename_i h
      exact List.nodup_cons.mpr ⟨h, nd_dd l⟩
def srtD [DecidableEq α] (l : List α) : List α := (dd l).mergeSort (le E)
theorem srtD_mem [DecidableEq α] (l : List α) (x : α) : x ∈ srtD E l ↔ x ∈ l := by
  unfold srtD
  rw [(List.mergeSort_perm _ _).mem_iff, mem_dd]
theorem srtD_nd [DecidableEq α] (l : List α) : (srtD E l).Nodup := (List.mergeSort_perm _ _).nodup_iff.mpr (nd_dd l)
/-- any row of the same members, each once, sorts to this -/
theorem srtD_of [DecidableEq α] {l l' : List α} (nd : l'.Nodup) (h : ∀ x, x ∈ l' ↔ x ∈ l) : l'.mergeSort (le E) = srtD E l :=
  sort_ext E ((List.perm_ext_iff_of_nodup nd (nd_dd l)).mpr fun x => by rw [h, mem_dd])
theorem srtD_ext [DecidableEq α] {l l' : List α} (h : ∀ x, x ∈ l ↔ x ∈ l') : srtD E l = srtD E l' := by
  exact srtD_of E (nd_dd l) fun x => by rw [mem_dd, h]
end
def opsD : LW.Ops where
  srtI := srtD Enc.num
  srtP := fun l => l.mergeSort (le eP)
  srtL := srtD eL
  minI := least Enc.num
  minL := least eL
  minT := least eR
  minW := least eW
  srtI_mem := srtD_mem _
  srtI_nd := srtD_nd _
  srtP_perm := fun l => List.mergeSort_perm _ _
  srtP_ext := fun l l' h => sort_ext eP h
  srtL_mem := srtD_mem _
  srtL_nd := srtD_nd _
  srtL_ext := fun l l' h => srtD_ext eL h
  minI_mem := least_mem _
  minI_ext := fun l l' hn h => least_ext _ hn h
  minL_mem := least_mem _
  minL_ext := fun l l' hn h => least_ext _ hn h
  minT_mem := least_mem _
  minT_ext := fun l l' hn h => least_ext _ hn h
  minW_mem := least_mem _
end LK
set_option autoImplicit false
set_option linter.all false
set_option synthInstance.maxSize 1000
set_option maxRecDepth 100000
set_option Elab.async false
namespace LK
open PySem PySem.Spec L2
/-! ### data in the heap -/
mutual
inductive Td (H : Hp) : V → PyData → Prop
  | int (i : Int) : Td H (.int i) (.int i)
  | tup {a : Addr} {xs : List V} {ds : List PyData} : H a = some (.tup xs) → TdAll H xs ds → Td H (.ref a) (.tuple ds)
inductive TdAll (H : Hp) : List V → List PyData → Prop
  | nil : TdAll H [] []
  | cons {v : V} {vs : List V} {d : PyData} {ds : List PyData} : Td H v d → TdAll H vs ds → TdAll H (v :: vs) (d :: ds)
end
/-- tuples stay -/
def TS (H H' : Hp) : Prop := ∀ a xs, H a = some (.tup xs) → H' a = some (.tup xs)
theorem TS.refl (H : Hp) : TS H H := fun _ _ h => h
theorem TS.trans {H H1 H2 : Hp} (a : TS H H1) (b : TS H1 H2) : TS H H2 := fun c xs h => b c xs (a c xs h)
theorem TS.same {H H' : Hp} (s : Same H H') : TS H H' := fun a xs h => s a _ h
theorem TS.upd {H : Hp} {p : Addr} {o : HO} (h : ∀ xs, H p ≠ some (.tup xs)) : TS H (upd H p o) := fun a xs e => by
  have : a ≠ p := fun q => h xs (q ▸ e)
  rw [upd_ne this]
  exact e
mutual
theorem Td.mono {H H' : Hp} (k : TS H H') : ∀ (d : PyData) (v : V), Td H v d → Td H' v d
  | .int _, _, h => by cases h; exact .int _
  | .tuple ds, _, h => by
    cases h with
    | tup h1 h2 => exact .tup (k _ _ h1) (TdAll.mono k ds _ h2)
  | .none, _, h => by cases h
  | .bool _, _, h => by cases h
  | .str _, _, h => by cases h
  | .list _, _, h => by cases h
  | .dict _, _, h => by cases h
theorem TdAll.mono {H H' : Hp} (k : TS H H') : ∀ (ds : List PyData) (vs : List V), TdAll H vs ds → TdAll H' vs ds
  | [], _, h => by cases h; exact .nil
  | d :: ds, _, h => by
    cases h with
    | cons h1 h2 => exact .cons (Td.mono k d _ h1) (TdAll.mono k ds _ h2)
end
mutual
theorem Td.dp {K : PySem.W.Frag} {H : Hp} : ∀ (d : PyData) (v : V), Td H v d → Dp K H v d
  | .int _, _, h => by cases h; exact .int _
  | .tuple ds, _, h => by
    cases h with
    | tup h1 h2 => exact .tup (SqT.of h1) (TdAll.dp ds _ h2)
  | .none, _, h => by cases h
  | .bool _, _, h => by cases h
  | .str _, _, h => by cases h
  | .list _, _, h => by cases h
  | .dict _, _, h => by cases h
theorem TdAll.dp {K : PySem.W.Frag} {H : Hp} : ∀ (ds : List PyData) (vs : List V), TdAll H vs ds → DpAll K H vs ds
  | [], _, h => by cases h; exact .nil
  | d :: ds, _, h => by
    cases h with
    | cons h1 h2 => exact .cons (Td.dp d _ h1) (TdAll.dp ds _ h2)
end
/-- v tells a -/
abbrev Tl {α : Type} (E : Enc α) (H : Hp) (v : V) (a : α) : Prop := Td H v (E.e a)
/-- the values tell the things, one by one -/
abbrev Ts {α : Type} (E : Enc α) (H : Hp) : List V → List α → Prop := LW.All2 fun v a => Td H v (E.e a)
section
variable {α β γ : Type} {E : Enc α} {F : Enc β} {G : Enc γ} {H H' : Hp}
theorem tl_mono (k : TS H H') {v : V} {a : α} (h : Tl E H v a) : Tl E H' v a := Td.mono k _ _ h
theorem ts_mono (k : TS H H') {vs : List V} {l : List α} (h : Ts E H vs l) : Ts E H' vs l := h.imp fun _ _ q => Td.mono k _ _ q
theorem ts_all : ∀ {vs : List V} {l : List α}, Ts E H vs l → TdAll H vs (l.map E.e)
  | _, _, .nil => .nil
  | _, _, .cons h t => .cons h (ts_all t)
theorem all_ts : ∀ {l : List α} {vs : List V}, TdAll H vs (l.map E.e) → Ts E H vs l
  | [], _, h => by cases h; exact .nil
  | a :: l, _, h => by
    cases h with
    | cons h1 h2 => exact .cons h1 (all_ts h2)
theorem tl_row {v : V} {l : List α} : Tl E.row H v l ↔ ∃ a xs, v = .ref a ∧ H a = some (.tup xs) ∧ Ts E H xs l := by
  constructor
  · intro h
    have h' : Td H v (.tuple (l.map E.e)) := h
    cases h' with
    | tup h1 h2 => exact ⟨_, _, rfl, h1, all_ts h2⟩
  · rintro ⟨a, xs, rfl, h1, h2⟩
    exact Td.tup h1 (ts_all h2)
theorem tl_two {v : V} {p : α × β} : Tl (E.two F) H v p ↔ ∃ a x y, v = .ref a ∧ H a = some (.tup [x, y]) ∧ Tl E H x p.1 ∧ Tl F H y p.2 := by
  constructor
  · intro h
    have h' : Td H v (.tuple [E.e p.1, F.e p.2]) := h
    cases h' with
    | tup h1 h2 =>
      cases h2 with
      | cons a b =>
        cases b with
        | cons c d =>
          cases d
          exact ⟨_, _, _, rfl, h1, a, c⟩
  · rintro ⟨a, x, y, rfl, h1, h2, h3⟩
    exact Td.tup h1 (.cons h2 (.cons h3 .nil))
theorem tl_three {v : V} {p : α × β × γ} : Tl (E.three F G) H v p ↔ ∃ a x y z, v = .ref a ∧ H a = some (.tup [x, y, z]) ∧ Tl E H x p.1 ∧ Tl F H y p.2.1 ∧ Tl G H z p.2.2 := by
  constructor
  · intro h
    have h' : Td H v (.tuple [E.e p.1, F.e p.2.1, G.e p.2.2]) := h
    cases h' with
    | tup h1 h2 =>
      cases h2 with
      | cons a b =>
        cases b with
        | cons c d =>
          cases d with
          | cons e f =>
            cases f
            exact ⟨_, _, _, _, rfl, h1, a, c, e⟩
  · rintro ⟨a, x, y, z, rfl, h1, h2, h3, h4⟩
    exact Td.tup h1 (.cons h2 (.cons h3 (.cons h4 .nil)))
theorem tl_num {v : V} {i : Int} : Tl Enc.num H v i ↔ v = .int i := by
  constructor
  · intro h
    have h' : Td H v (.int i) := h
    cases h'
    rfl
  · rintro rfl
    exact .int i
theorem tl_nat {v : V} {i : Nat} : Tl Enc.nat H v i ↔ v = .int (i : Int) := by
  constructor
  · intro h
    have h' : Td H v (.int (i : Int)) := h
    cases h'
    rfl
  · rintro rfl
    exact .int _
theorem ts_nat : ∀ {vs : List V} {l : List Nat}, Ts Enc.nat H vs l ↔ vs = l.map fun (i : Nat) => V.int (i : Int)
  | [], [] => ⟨fun _ => rfl, fun _ => .nil⟩
  | [], a :: l => ⟨fun h => (by cases h), fun h => (by cases h)⟩
  | v :: vs, [] => ⟨fun h => (by cases h), fun h => (by cases h)⟩
  | v :: vs, a :: l => by
    constructor
    · intro h
      cases h with
      | cons h1 h2 => rw [tl_nat.mp h1, ts_nat.mp h2]; rfl
    · intro h
      simp only [List.map_cons, List.cons.injEq] at h
      exact .cons (tl_nat.mpr h.1) (ts_nat.mpr h.2)
theorem ts_num : ∀ {vs : List V} {l : List Int}, Ts Enc.num H vs l ↔ vs = l.map V.int
  | [], [] => ⟨fun _ => rfl, fun _ => .nil⟩
  | [], a :: l => ⟨fun h => (by cases h), fun h => (by cases h)⟩
  | v :: vs, [] => ⟨fun h => (by cases h), fun h => (by cases h)⟩
  | v :: vs, a :: l => by
    constructor
    · intro h
      cases h with
      | cons h1 h2 => rw [tl_num.mp h1, ts_num.mp h2]; rfl
    · intro h
      simp only [List.map_cons, List.cons.injEq] at h
      exact .cons (tl_num.mpr h.1) (ts_num.mpr h.2)
end

/-! ### min and sorted of such data; == and != -/
section
variable {X : Cx} {α : Type}
theorem ts_reads {E : Enc α} {pins : List (Addr × Obj)} {σ : St} {H : Hp} {s : Shared} (I : Inv X pins σ H s) {xs : List V} {l : List α} {us : List Value} (h : Ts E H xs l) (r : Vals xs us) : ∃ as, ReadsAll s.heap us (l.map E.e) as :=
  Dp.readsAll I _ _ _ (TdAll.dp _ _ (ts_all h)) r
theorem tl_reads {E : Enc α} {pins : List (Addr × Obj)} {σ : St} {H : Hp} {s : Shared} (I : Inv X pins σ H s) {x : V} {a : α} {u : Value} (h : Tl E H x a) (r : RelV x u) : ∃ as, Reads s.heap u (E.e a) as :=
  Dp.reads I _ _ _ (Td.dp _ _ h) r
def rMinD (K : PySem.W.Frag) (E : Enc α) [Inhabited α] : List V → Hp → VK → Prop := fun vs H Q => ∃ (a : Addr) (xs : List V) (l : List α), vs = [V.ref a] ∧ SqL K H a xs ∧ Ts E H xs l ∧ l ≠ [] ∧ E.d ≤ 60 ∧ ∀ v, v ∈ xs → Tl E H v (least E l) → Q v H
theorem cr_minD (E : Enc α) [Inhabited α] (hc : X.calm = true) (hu : X.A.units + 64 < cLine) : CallR X (.builtin "min") (rMinD X.K E) := by
  intro pins s σ H vs us Q I r h
  obtain ⟨a, xs, l, rfl, hs, ht, hne, hd, q⟩ := h
  obtain ⟨its, rv, hl, _⟩ := I.list hs
  rw [Vals.ref1 r]
  obtain ⟨as, hr⟩ := ts_reads I ht rv
  cases l with
  | nil => exact absurd rfl hne
  | cons x l =>
    have hdep : PyData.depthAll ((x :: l).map E.e) ≤ E.d := E.depthAll_map _
    refine PySem.W.min_list_data (xs := l.map E.e) (x := E.e x) (I.ok.hd hc) hl.isList (by simpa using hr) ⟨fun a ha b hb => ?_, fun a ha => ?_⟩ ?_ fun i v h' tk bs hv hrd hk => ?_
    · obtain ⟨a', _, rfl⟩ := List.mem_map.mp (show a ∈ (x :: l).map E.e from ha)
      obtain ⟨b', _, rfl⟩ := List.mem_map.mp (show b ∈ (x :: l).map E.e from hb)
      exact E.alike _ _
    · obtain ⟨a', _, rfl⟩ := List.mem_map.mp (show a ∈ (x :: l).map E.e from ha)
      exact E.ne_none _
    · have : PyData.depthAll (E.e x :: l.map E.e) ≤ E.d := hdep
      omega
    · rw [pick_minD] at hrd
      have hv' : its[i]? = some v := by simpa using hv
      have hlen := rv.length
      obtain ⟨hi, _⟩ := List.getElem?_eq_some_iff.mp hv'
      have hxi : xs[i]? = some xs[i] := List.getElem?_eq_getElem (by omega)
      obtain ⟨u, hu1, ru⟩ := rv.get hxi
      rw [hv'] at hu1
      have e := Option.some.inj hu1
      subst e
      obtain ⟨b, hb, tb⟩ := ht.get hxi
      have I2 := I.kept (h' := h') (t' := tk) hk
      obtain ⟨cs, rc⟩ := tl_reads I2 tb ru
      have e2 := PySem.W.alike_unique _ _ _ _ _ (E.alike _ _) rc hrd
      refine ⟨_, H, I2, ru, q _ (List.getElem_mem _) ?_⟩
      show Td H _ (E.e (pick E x l))
      rw [← e2]
      exact tb
def rSortD (K : PySem.W.Frag) (E : Enc α) : List V → Hp → VK → Prop := fun vs H Q => ∃ (a : Addr) (xs : List V) (l : List α), vs = [V.ref a] ∧ SqL K H a xs ∧ Ts E H xs l ∧ (∀ b, b ∈ l → ∃ x r, E.e b = .tuple (x :: r)) ∧ E.d ≤ 60 ∧
  ∀ p ys, H p = none → Ts E H ys (l.mergeSort (le E)) → Q (.ref p) (upd H p (.lst ys))
theorem each_vals {E : Enc α} {H : Hp} : ∀ {us : List Value} {l : List α}, PySem.W.EachIs (fun u a => ∃ x, RelV x u ∧ Tl E H x a) us l → ∃ ys, Vals ys us ∧ Ts E H ys l
  | _, _, .nil => ⟨[], .nil, .nil⟩
  | _, _, .cons ⟨x, r, t⟩ h => by
    obtain ⟨ys, a, b⟩ := each_vals h
    exact ⟨x :: ys, .cons r a, .cons t b⟩
theorem vals_each {E : Enc α} {H : Hp} : ∀ {xs : List V} {us : List Value} {l : List α}, Vals xs us → Ts E H xs l → PySem.W.EachIs (fun u a => ∃ x, RelV x u ∧ Tl E H x a) us l
  | _, _, _, .nil, .nil => .nil
  | _, _, _, .cons r a, .cons t b => .cons ⟨_, r, t⟩ (vals_each a b)
theorem cr_sortD (E : Enc α) (hu : X.A.units + 64 < cLine) : CallR X (.builtin "sorted") (rSortD X.K E) := by
  intro pins s σ H vs us Q I r h
  obtain ⟨a, xs, l, rfl, hs, ht, hne, hd, q⟩ := h
  obtain ⟨its, rv, hl, hz⟩ := I.list hs
  rw [Vals.ref1 r]
  have e0 := vals_each rv ht
  refine PySem.W.sorted_data (enc := E.e) hl.isList e0 (e0.mono fun u b ⟨x, rx, tx⟩ => tl_reads I tx rx) (PySem.W.AllAlike.of E.alike) (.inl fun d hd => ?_) ?_ ?_ fun out ho eo => ?_
  · obtain ⟨b, hb, rfl⟩ := List.mem_map.mp hd
    exact hne b hb
  · rw [← ht.len]
    exact hz
  · intro b _
    have := E.dep b
    omega
  · obtain ⟨ys, ry, ty⟩ := each_vals eo
    obtain ⟨ep, he'⟩ := PyProof.Rows.sortedAll_at s.heap its out.toArray
    have hlen : ys.length ≤ sizeLine := by
      rw [ry.length, ho, ← ht.len]
      exact hz
    exact ⟨.ref _, upd H (s.heap.objs.size + 1) (.lst ys), I.laid (t' := s.toks) (fun _ _ => PyProof.Rows.sortedAll_old) (Nat.le_succ _) ⟨hlen, out, ep, ry, he'⟩, rfl, q _ ys (I.hok.fresh (Nat.le_succ _)) ty⟩
/-- == of such data -/
def rEqE (E : Enc α) [DecidableEq α] : R2 := fun x y H Q => ∃ a b, Tl E H x a ∧ Tl E H y b ∧ E.d ≤ 60 ∧ Q (.bl (decide (a = b))) H
theorem shaped_enc (E : Enc α) (hd : E.d ≤ 60) (a : α) : SeqAt.shaped (E.e a) = true := by
  unfold SeqAt.shaped
  rw [tame_lay _ (E.tame a), Bool.true_and]
  have := E.dep a
  exact decide_eq_true (by omega)
theorem op_eqE (E : Enc α) [DecidableEq α] (hu : X.A.units + 64 < cLine) : OpR X (compareOp .Eq) (rEqE E) := by
  intro pins s σ H x y v u Q I r1 r2 h
  obtain ⟨a, b, h1, h2, hd, q⟩ := h
  refine op_eqD hu pins s σ H x y v u Q I r1 r2 ⟨E.e a, E.e b, Td.dp _ _ h1, Td.dp _ _ h2, shaped_enc E hd a, shaped_enc E hd b, ?_⟩
  rw [E.eqvD]
  exact q
def rNeE (E : Enc α) [DecidableEq α] : R2 := fun x y H Q => ∃ a b, Tl E H x a ∧ Tl E H y b ∧ E.d ≤ 60 ∧ Q (.bl (!decide (a = b))) H
theorem op_neE (E : Enc α) [DecidableEq α] (hu : X.A.units + 64 < cLine) : OpR X (compareOp .NotEq) (rNeE E) := by
  intro pins s σ H x y v u Q I r1 r2 h
  obtain ⟨a, b, h1, h2, hd, q⟩ := h
  refine op_neD hu pins s σ H x y v u Q I r1 r2 ⟨E.e a, E.e b, Td.dp _ _ h1, Td.dp _ _ h2, shaped_enc E hd a, shaped_enc E hd b, ?_⟩
  rw [E.eqvD]
  exact q
end
end LK
set_option autoImplicit false
set_option linter.all false
set_option maxRecDepth 100000
set_option Elab.async false
namespace LK
open PySem PySem.Spec L2
/-! ### enumerate over a tuple -/
theorem enumNewT (t : Addr) (its : Array Value) (n : Nat) (dc : Option Addr) (sl : Array (Option Value)) :
    Meets (Builtin.«enumerate.__new__» ⟨[.type "enumerate", .ref t], []⟩) (fun _ R s =>
      s.heap.get? t = some { cls := .type "tuple", dict := dc, data := .seq its n, slots := sl } ∧
      R (.ok (.ret (.ref (s.heap.push { cls := .type "tuple_iterator", data := .fields #[.ref t, .int 0 0] }).objs.size)))
        { s with heap := (s.heap.push { cls := .type "tuple_iterator", data := .fields #[.ref t, .int 0 0] }).push { cls := .type "enumerate", data := .fields #[.none, .bool false, .ref s.heap.objs.size, rawInt 0, .none, .none] } }) :=
  .of_wp fun prog w A R s hyp => by
    obtain ⟨hp, gs, dr, tk, os⟩ := s
    obtain ⟨ht, hyp⟩ := hyp
    have sub1 := sub_enumerate
    have hT : Heap.IsTuple (Shared.heap ⟨hp, gs, dr, tk, os⟩) t its := ⟨_, ht, rfl, n, rfl⟩
    wp_walk using AutoSeq1.wpAny_loadPart' ht
    refine wpAny_stack_any fun st => wpAny_pure ?_
    split
    · rename_i cc _ _ _ _ _
      cases (cc == Value.type "enumerate")
      · wp_walk using AutoSeq1.wpAny_loadPart' ht, wpAny_pyIter_tuple hT
        exact ⟨_, rfl, hyp⟩
      · wp_walk using AutoSeq1.wpAny_loadPart' ht, wpAny_pyIter_tuple hT
        exact ⟨_, rfl, hyp⟩
    · wp_walk using AutoSeq1.wpAny_loadPart' ht, wpAny_pyIter_tuple hT
      exact ⟨_, rfl, hyp⟩
theorem callEnumT {prog : Program} {w : World} {A : Around} {E : Value → Shared → Prop} {s : Shared} {t : Addr} {its : Array Value} {Q : Value → Shared → Prop} (hT : s.heap.IsTuple t its)
    (h : ∀ h', IsEnum h' (s.heap.objs.size + 1) s.heap.objs.size 0 .none → h'.IsTupleIter s.heap.objs.size t 0 →
      (∀ b o, s.heap.get? b = some o → h'.get? b = some o) → Q (.ref (s.heap.objs.size + 1)) { s with heap := h' }) :
    wpAny (model prog w) A (call (.type "enumerate") [.ref t]) Q E s := by
  obtain ⟨⟨c, dct, dt, sl⟩, ht, hc, n, hd⟩ := hT
  replace hc : c = .type "tuple" := hc
  replace hd : dt = .seq its n := hd
  subst hc hd
  refine callType_new F.called_enumerate (by decide) (F.typeCall_enumerate_1 _) (F.newCall_enumerate_1 _) (fun obj => F.args_object_init_2 obj _) F.entry_enumerate_new (enumNewT t its n dct sl) ⟨ht, ?_⟩
  have sz : (s.heap.push { cls := .type "tuple_iterator", data := .fields #[.ref t, .int 0 0] }).objs.size = s.heap.objs.size + 1 := Heap.size_push ..
  show _ ∧ _
  rw [sz]
  have he : IsEnum ((s.heap.push { cls := .type "tuple_iterator", data := .fields #[.ref t, .int 0 0] }).push { cls := .type "enumerate", data := .fields #[.none, .bool false, .ref s.heap.objs.size, rawInt 0, .none, .none] }) (s.heap.objs.size + 1) s.heap.objs.size 0 .none := by
    have q := Heap.get?_push_size (s.heap.push { cls := .type "tuple_iterator", data := .fields #[.ref t, .int 0 0] })
      (o := { cls := .type "enumerate", data := .fields #[.none, .bool false, .ref s.heap.objs.size, rawInt 0, .none, .none] }) rfl
    rw [sz] at q
    exact q
  exact ⟨⟨_, he, rfl⟩, h _ he ⟨_, Heap.get?_push_of_some _ (Heap.get?_push_size _ rfl), rfl, rfl⟩ fun b o x => Heap.get?_push_of_some _ (Heap.get?_push_of_some _ x)⟩
/-- the tuple at a, each item with its number in a new pair -/
def Iten (K : PySem.W.Frag) (a : Addr) : It :=
  ⟨fun i H => ∃ (xs : List V) (x : V), SqT K H a xs ∧ xs[i]? = some x,
   fun i H v H' => ∃ T x, v = .ref T ∧ H T = none ∧ H' = upd H T (.tup [.int (i : Nat), x]) ∧ ∀ xs, SqT K H a xs → xs[i]? = some x,
   fun i H => ∃ xs : List V, SqT K H a xs ∧ xs.length = i⟩
theorem turn_enumT {P : Program} {w : World} {K : PySem.W.Frag} {elts : List Expr} {kk : Nat} {tpos : Pos} (a e it : Addr) (hai : a ≠ it) (hea : e ≠ a) :
    Turn P w K (.Tuple elts kk tpos) (Iten K a) [e, it] e (fun i h => (∃ old, IsEnum h e it ((i : Nat) : Int) old) ∧ h.IsTupleIter it a i ∧ e ≠ it) where
  mem := by simp
  obj := fun i h st b hb => by
    obtain ⟨⟨old, he⟩, ⟨o, ho, hc, hd⟩, _⟩ := st
    rcases (show b = e ∨ b = it by simpa using hb) with rfl | rfl
    · exact ⟨_, he, fun v q => nomatch q⟩
    · exact ⟨o, ho, fun v q => by rw [hd] at q; cases q⟩
  keep := fun i h h' st k => ⟨st.1.imp fun old he => k e (by simp) _ he, st.2.1.at fun o q => k it (by simp) o q, st.2.2⟩
  item := by
    intro X hP hw hK hc i pins s σ H E I hf st hg
    subst hP hw hK
    obtain ⟨⟨old, he⟩, hit, hne⟩ := st
    obtain ⟨xs, x, hq, hx⟩ := hg
    obtain ⟨its, rv, p, _⟩ := I.tuple hq
    have hp : s.heap.IsTuple a its.toArray := p
    have D := Draws.tuple (prog := X.prog) (w := X.w) (A := X.A.in1) (I.ok.hd hc) it a hai its.toArray
    have hil : i < its.toArray.size := by
      have l1 := rv.length
      obtain ⟨l2, _⟩ := List.getElem?_eq_some_iff.mp hx
      simpa using (by omega : i < its.length)
    have hel : e < s.heap.objs.size := Heap.lt_size he
    have hitl : it < s.heap.objs.size := by
      obtain ⟨o, q, _⟩ := hit
      exact Heap.lt_size q
    refine wpAny_pyNext_enum_itemD D he ⟨hit, hp⟩ hil hne (by simp [hne, hea]) fun u h' tk hu ho st' hT hsz hk => ?_
    refine ⟨_, rfl, wpAny_letOwnedTupleGo_enum (s := { s with heap := h', toks := tk + 1 }) ho fun h2 he2 sb => ?_⟩
    have ru : RelV x u := by
      obtain ⟨u', hu', r⟩ := rv.get hx
      have : some u = some u' := by
        rw [← hu, ← hu']
        simp
      rw [Option.some.inj this]
      exact r
    have hT2 : h2.get? s.heap.objs.size = some { cls := .type "tuple", data := .seq #[.int i tk, u] } := (sb.2 _ (Nat.ne_of_gt hel)).trans hT
    have new : ObjOk X.prog X.w (upd H s.heap.objs.size (.tup [.int (i : Nat), x])) h2 s.heap.objs.size (.tup [.int (i : Nat), x]) :=
      ⟨by show 2 ≤ sizeLine; decide, [.int i tk, u], .cons ⟨_, rfl⟩ (.cons ru .nil), ⟨_, hT2, rfl, _, rfl⟩⟩
    have I1 : Inv X pins σ (upd H s.heap.objs.size (.tup [.int (i : Nat), x])) { s with heap := h2, toks := tk + 1 } :=
      I.turnedNew (ch := [e, it]) (fun b o hb q => (sb.2 b (fun z => hb (by simp [z]))).trans (hk b o (fun z => hb (by simp [z])) (fun z => hb (by simp [z])) q)) hf (Nat.le_refl _) new
    refine ⟨.ref s.heap.objs.size, _, I1, rfl, ⟨_, x, rfl, I.hok.fresh (Nat.le_refl _), rfl, fun ys hy => by rw [I.tuple_inj hy hq]; exact hx⟩, ⟨⟨u, ?_⟩, st'.1.at fun o q => (sb.2 it (Ne.symm hne)).trans q, hne⟩, fun b hb => ?_⟩
    · have e1 : ((i + 1 : Nat) : Int) = (i : Int) + 1 := by omega
      rw [e1]
      exact he2
    · have hb' : b < s.heap.objs.size := by
        rcases (show b = e ∨ b = it by simpa using hb) with rfl | rfl
        · exact hel
        · exact hitl
      rw [upd_ne (Nat.ne_of_lt hb')]
      exact (hf b hb).1
  done := by
    intro X hP hw hK hc i pins s σ H E I hf st hg
    subst hP hw hK
    obtain ⟨⟨old, he⟩, hit, hne⟩ := st
    obtain ⟨xs, hq, rfl⟩ := hg
    obtain ⟨its, rv, p, _⟩ := I.tuple hq
    have hp : s.heap.IsTuple a its.toArray := p
    have D := Draws.tuple (prog := X.prog) (w := X.w) (A := X.A.in1) (I.ok.hd hc) it a hai its.toArray
    obtain ⟨f0, f1, f2, f3, f4, f5⟩ := hf it (by simp)
    have hl : its.toArray.size = xs.length := by simpa using rv.length.symm
    exact wpAny_pyNext_enum_endD D he (by rw [hl]; exact ⟨hit, hp⟩) fun h' eb => ⟨rfl, I.turned (t' := s.toks) (fun b o hb q => eb b o hb q) f0 f1 f3 f4 f5⟩
  self := fun A i s Q E st h => let ⟨⟨_, he⟩, _⟩ := st; wpAny_pyIter_enum he h
def iEnumT (K : PySem.W.Frag) (ta : TA) : TI := fun σ H R => ta σ H fun vs H1 => ∃ a xs, vs = [.ref a] ∧ SqT K H1 a xs ∧ R (Iten K a) H1
theorem pi_enumT {X : Cx} {e : Expr} {ta : TA} {p pos tpos : Pos} {elts : List Expr} {kk : Nat} (hg : Gl X "enumerate") (hm : X.mg "enumerate" = none) (ha : PA X [e] ta) (hs : starEach [e] X.env = [(false, eval e X.env)] := by rfl) :
    PI X (.Tuple elts kk tpos) (.Call (.Name "enumerate" p) [e] [] pos) (iEnumT X.K ta) := by
  refine ⟨fun pins s σ H R I h => ?_⟩
  refine PyProof.Rows.Call_ (ld_blt I hg hm PyProof.Rows.boot_enumerate (PyProof.Rows.callWith_type1 (thn (ha.run pos pins s σ H _ I h) fun us s1 ⟨vs, H1, I1, r1, q1⟩ => ?_) hs rfl))
  obtain ⟨a, xs, rfl, hq, q⟩ := q1
  rw [Vals.ref1 r1]
  obtain ⟨its, rv, p', _⟩ := I1.tuple hq
  have hp : s1.heap.IsTuple a its.toArray := p'
  have hal : a < s1.heap.objs.size := by
    obtain ⟨o, z, _⟩ := hp
    exact Heap.lt_size z
  refine callEnumT hp fun h' he hit hk => wpAny_pyIter_enum he ?_
  have I2 : Inv X pins σ H1 { s1 with heap := h' } := I1.kept (t' := s1.toks) hk
  refine ⟨s1.heap.objs.size + 1, [s1.heap.objs.size + 1, s1.heap.objs.size], _, _, H1, rfl, I2, turn_enumT a (s1.heap.objs.size + 1) s1.heap.objs.size (Nat.ne_of_lt hal) (Nat.ne_of_gt (Nat.lt_succ_of_lt hal)), ⟨⟨.none, he⟩, hit, Nat.succ_ne_self _⟩, fun b hb => ?_, q⟩
  have hle : s1.heap.objs.size ≤ b := by
    rcases (show b = s1.heap.objs.size + 1 ∨ b = s1.heap.objs.size by simpa using hb) with rfl | rfl
    · exact Nat.le_add_right _ _
    · exact Nat.le_refl _
  exact I1.fpOk hle (I1.hok.fresh hle)
theorem walk_enumT {K : PySem.W.Frag} {a : Addr} {xs : List V} : Walk (Iten K a) xs.length (fun H => SqT K H a xs) (YPair (fun i => some (.int (i : Nat))) (fun i => xs[i]?)) :=
  ⟨fun i _ hi q => ⟨xs, xs[i], q, by simp [hi]⟩, fun _ q => ⟨xs, q, rfl⟩, fun i H v H' _ q y => by
    obtain ⟨T, x, h1, h2, h3, h4⟩ := y
    exact ⟨T, .int (i : Nat), x, h1, h2, h3, rfl, h4 xs q⟩⟩

/-! ### len of an own object -/
def rLenO (C : Addr) (sp : Sp) : List V → Hp → VK → Prop := fun xs H Q => ∃ a dx fs, xs = [V.ref a] ∧ H a = some (.ins C dx fs) ∧ sp [V.ref a] H (fun v H' => ∃ n : Nat, v = .int n ∧ n < 1000 ∧ Q (.int n) H') E0
theorem call_lenO {X : Cx} {k : Nat} {f C : Addr} {fd : FuncData} {sp : Sp} (M : Meth X.K C "__len__" f) (Fo : FnOk X.prog X.w X.K X.mg X.base CX0 k f fd ["self"] sp) (hr : Room (k + 1) X.A) (hb : Binds X.K fd ["self"] []) :
    CallR X (.builtin "len") (rLenO C sp) := by
  intro pins s σ H vs us Q I r h
  obtain ⟨a, dx, fs, rfl, ha, h⟩ := h
  rw [Vals.ref1 r]
  obtain ⟨mA, O, _⟩ := ins_get I.hok ha
  obtain ⟨od, J, _⟩ := O.look
  obtain ⟨m, fr⟩ := I.fr
  refine PySem.W.len_K fr I.mod.kin J M.at_ M.fn ?_
  have rv : Vals [V.ref a] [Value.ref a] := .cons rfl .nil
  have hl : [Value.ref a].length = ["self"].length := rfl
  refine wpAny_call (codeAny_mono (Fo.run X.A.in1 X.stack s H ⟨[.ref a], []⟩ [.ref a] [.ref a] _ _ hr.in1 I.env0.in1 (hb s [.ref a] I.kIn rfl) rv h) fun r s' hq => ?_)
  cases r with
  | error e => exact False.elim hq
  | ok fl =>
    cases fl with
    | ret u =>
      obtain ⟨v, H', I', rv', n, rfl, hn, q⟩ := I.after hq
      obtain ⟨t, rfl⟩ := rv'
      exact ⟨⟨by omega, by omega⟩, .int n, H', I'.tok _, ⟨_, rfl⟩, q⟩
    | next => exact False.elim hq
    | brk => exact False.elim hq
    | cont => exact False.elim hq
end LK
set_option autoImplicit false
set_option linter.all false
set_option maxRecDepth 100000
set_option Elab.async false
namespace LK
open PySem PySem.Spec L2
/-! ### comprehensions of every kind: one core -/
/-- a clause's turn: mid is what is done with the target stored and the tests passed -/
def turnForm (tg iter : Expr) (ifs : List Expr) (mid : Sem Unit) (nxt : Sem PySem.Fin) (it : Value) (env : Env) : Sem PySem.Fin := do
  standAt iter.pos
  match ← pyNext it with
  | none => pure (.done .next)
  | some v =>
    letOwnedTupleGo tg it v
    assign tg env v
    let mut ok := true
    for c in ifs do
      if ok then ok ← isTrue c env (eval c env)
    if ok then
      mid
    nxt
/-- the clause at depth d of c has this form -/
structure HasForm (c : Expr) (d : Nat) (tg iter : Expr) (ifs : List Expr) (mid : Value → Env → Sem Unit) : Prop where
  cl : (clausesOf c)[d]? = some ⟨tg, iter, ifs, 0⟩
  turn : ∀ it acc env, compTurn c d it acc env = turnForm tg iter ifs (mid acc env) (again (.compLoop c d it acc env)) it env
  dnL : ∀ (prog : Program) (w : World) it acc env, (model prog w).den (.compLoop c d it acc env) = (compTurn c d it acc env).onRaise (fun x => do noteFrame x env; theTreesLotGoes x)
  dnS : ∀ (prog : Program) (w : World) it acc env, (model prog w).den (.compStart c d it acc env) = (compStart c d it acc env).onRaise (fun x => do noteFrame x env; standAt theWindowsPlace)
  unL : ∀ (A : Around) it acc env, A.under (.compLoop c d it acc env) = A
  unS : ∀ (A : Around) it acc env, A.under (.compStart c d it acc env) = A
section
variable {prog : Program} {w : World} {A : Around} {R : Result → Shared → Prop} {s : Shared} {c tg iter : Expr} {d : Nat} {ifs : List Expr} {mid : Value → Env → Sem Unit} {it acc : Value} {env : Env}
abbrev Nb (prog : Program) (w : World) (A : Around) (env : Env) (R : Result → Shared → Prop) : Value → Shared → Prop := notedBy (model prog w) A env fun e s' => R (.error e) s'
theorem loopForm (F : HasForm c d tg iter ifs mid) (I : Nat → Shared → Prop)
    (turn : ∀ n s, I n s → wpAny (model prog w) A (pyNext it) (fun r s1 => match r with
      | none => R (.ok .next) s1
      | some v => wpAny (model prog w) A (letOwnedTupleGo tg it v) (fun _ s2 => wpAny (model prog w) A (assign tg env v) (fun _ s3 =>
          wpAny (model prog w) A (forIn ifs true fun c r => if r = true then do let ok ← isTrue c env (eval c env); pure (ForInStep.yield ok) else pure (ForInStep.yield r)) (fun ok s4 =>
            if ok = true then wpAny (model prog w) A (mid acc env) (fun _ s5 => ∃ m, m < n ∧ I m s5) (Nb prog w A env R) s4
            else ∃ m, m < n ∧ I m s4) (Nb prog w A env R) s3) (Nb prog w A env R) s2) (Nb prog w A env R) s1) (Nb prog w A env R) s)
    (n : Nat) (h : I n s) : codeAny (model prog w) A (.compLoop c d it acc env) R s := by
  refine codeAny_loop rfl I (fun n s hI => ?_) n h
  rw [F.unL, F.dnL]
  refine wpAny_noted ?_
  rw [F.turn]
  unfold turnForm
  refine wpAny_bind (wpAny_standAt (wpAny_bind (wpAny_mono (turn n s hI) (fun r s1 h1 => ?_) fun _ _ z => z)))
  cases r with
  | none => exact wpAny_pure h1
  | some v =>
    refine wpAny_bind (wpAny_mono h1 (fun _ s2 h2 => ?_) fun _ _ z => z)
    refine wpAny_bind (wpAny_mono h2 (fun _ s3 h3 => wpAny_bind (wpAny_mono h3 (fun ok s4 h4 => ?_) fun _ _ z => z)) fun _ _ z => z)
    cases ok with
    | false => exact wpAny_pure ⟨rfl, h4⟩
    | true => exact wpAny_bind (wpAny_mono h4 (fun _ s5 h5 => wpAny_pure ⟨rfl, h5⟩) fun _ _ z => z)
theorem startForm (F : HasForm c d tg iter ifs mid) (h0 : codeAny (model prog w) A (.compLoop c d it acc env) R s)
    (h : wpAny (model prog w) A (pyIter it) (fun it' s' => codeAny (model prog w) A (.compLoop c d it' acc env) R s') (Nb prog w A env R) s) :
    codeAny (model prog w) A (.compStart c d it acc env) R s := by
  refine codeAny_of_tree ?_
  rw [F.unS, F.dnS]
  refine wpAny_notedAt ?_
  unfold compStart
  rw [F.cl]
  show wpAny _ _ (ask >>= _) _ _ s
  refine wpAny_bind (wpAny_askSetting (wpAny_ite ?_))
  split
  · exact wpAny_bind (wpAny_pure (wpAny_pure (And.intro rfl h0)))
  · refine wpAny_bind (wpAny_rule ?_)
    show wpAny _ _ (standAt iter.pos >>= _) _ _ s
    exact wpAny_bind (wpAny_standAt (wpAny_bind (wpAny_mono h (fun it' s' z => wpAny_pure (And.intro rfl z)) fun _ _ z => z)))
end
abbrev TM := St → Hp → Addr → (Hp → Prop) → Prop
/-- what a clause does, told: the slots of vs alone may change -/
structure PMid (X : Cx) (mid : Value → Env → Sem Unit) (tm : TM) (vs : List Nat) : Prop where
  run : ∀ (pins : List (Addr × Obj)) (s : Shared) (σ : St) (H : Hp) (D : Addr) (Nx : Hp → Prop), Inv X pins σ H s → tm σ H D Nx →
    wpAny (model X.prog X.w) X.A (mid (.ref D) X.env) (fun _ s' => ∃ σ' H', Inv X pins σ' H' s' ∧ σ'.length = σ.length ∧ (∀ (j : Nat) v, σ[j]? = some (some v) → j ∉ vs → σ'[j]? = some (some v)) ∧ Nx H') X.xe s
/-- a comprehension's reading: o0 the new object -/
def tComp (o0 : Addr → HO) (wi : TI) (g : TG) (tt : TT) (tm : TM) (vs : List Nat) : TE := fun σ H Q => wi σ H fun J H1 => ∀ D, H1 D = none → ∃ W : Nat → Nat → Hp → Prop, (∃ m, W 0 m (upd H1 D (o0 D))) ∧ ∀ i m H, W i m H →
  (J.stop i H ∧ Q (.ref D) H) ∨ (J.go i H ∧ ∃ Nx : Hp → Prop, (∀ H', Nx H' → ∃ m', m' < m ∧ W (i + 1) m' H') ∧ ∀ x H', J.yld i H x H' → g x (wipe σ vs) H' fun σ2 H2 => wipe σ2 vs = wipe σ vs ∧ tt σ2 H2 fun b H3 =>
    if b = true then tm σ2 H3 D Nx else Nx H3)
/-- the second clause, as what the first does -/
def tInner (wi : TI) (g : TG) (tt : TT) (tm : TM) (vs : List Nat) : TM := fun σ H D Nx => wi σ H fun J H4 => ∃ W : Nat → Nat → Hp → Prop, (∃ m, W 0 m H4) ∧ ∀ j k H, W j k H →
  (J.stop j H ∧ Nx H) ∨ (J.go j H ∧ ∃ N1 : Hp → Prop, (∀ H', N1 H' → ∃ k', k' < k ∧ W (j + 1) k' H') ∧ ∀ x H', J.yld j H x H' → g x (wipe σ vs) H' fun σ2 H5 => wipe σ2 vs = wipe σ vs ∧ tt σ2 H5 fun b H6 =>
    if b = true then tm σ2 H6 D N1 else N1 H6)
/-- what the new object is, as it is laid -/
def LaysNew (X : Cx) (new : Sem Value) (o0 : Addr → HO) : Prop := ∀ (pins : List (Addr × Obj)) (σ : St) (H : Hp) (s : Shared) (Q : Value → Shared → Prop) (E : Value → Shared → Prop), Inv X pins σ H s →
  (∀ D s', s.heap.objs.size ≤ D → Inv X pins σ (upd H D (o0 D)) s' → (∀ b o, s.heap.get? b = some o → s'.heap.get? b = some o) → Q (.ref D) s') → wpAny (model X.prog X.w) X.A new Q E s
section
variable {X : Cx}
theorem mid_inner {c tg iter : Expr} {ifs : List Expr} {mid : Value → Env → Sem Unit} {wi : TI} {g : TG} {tt : TT} {tm : TM} {vs : List Nat}
    (hc : X.calm = true) (F : HasForm c 1 tg iter ifs mid) (hi : PI X tg iter wi) (hg : PG X tg g) (ht : PTs X ifs tt) (hm : PMid X mid tm vs) (hx : X.xe = fun _ _ => False)
    (hs : ∀ x, foldedSetIterable iter X.env x = pure x) :
    PMid X (fun acc env => do
      let x ← eval iter env
      standAt iter.pos
      let x ← foldedSetIterable iter env x
      let _ ← runOwn (.compStart c 1 (← holding [x] (pyIter x)) acc env) env) (tInner wi g tt tm vs) vs := by
  refine ⟨fun pins s σ H D Nx I h => ?_⟩
  refine wpAny_bind (thn (hi.run pins s σ H _ I h) fun x s1 h1 => ?_)
  refine wpAny_bind (wpAny_standAt (wpAny_bind (wpAny_of_eq (hs x) (wpAny_bind (wpAny_holding (thn h1 fun itv s2 h2 => ?_))))))
  obtain ⟨it, fp, tn, J, H2, rfl, I2, T, st2, f2, W, ⟨m0, w0⟩, turn⟩ := h2
  refine wpAny_bind (wpAny_runOwn ?_)
  rw [Around.mark_none]
  have goal : codeAny (model X.prog X.w) X.A (.compLoop c 1 (.ref it) (.ref D) X.env)
      (fun r s' => match r with
        | .ok _ => ∃ σ' H', Inv X pins σ' H' s' ∧ σ'.length = σ.length ∧ (∀ (j : Nat) v, σ[j]? = some (some v) → j ∉ vs → σ'[j]? = some (some v)) ∧ Nx H'
        | .error _ => False) s2 := by
    have stat : ∀ {H' : Hp}, (∀ b ∈ fp, H' b = none) → ∀ b ∈ fp, FpOk X pins H' b := fun hn b hb => ⟨hn b hb, (f2 b hb).2⟩
    refine loopForm F (fun k s' => ∃ j H', Inv X pins (wipe σ vs) H' s' ∧ tn j s'.heap ∧ (∀ b ∈ fp, H' b = none) ∧ W j k H') ?_ m0 ⟨0, H2, I2.weak (wipe_length _ _) (fun j v e => (wipe_some e).1), st2, fun b hb => (f2 b hb).1, w0⟩
    rintro k s3 ⟨j, H3, I3, st3, n3, w3⟩
    rcases turn j k H3 w3 with ⟨stop, nx⟩ | ⟨go, N1, hN1, step⟩
    · refine thnF (T.done X rfl rfl rfl hc j pins s3 (wipe σ vs) H3 (fun _ _ => False) I3 (stat n3) st3 stop) fun r s4 ⟨hr, I4⟩ => ?_
      subst hr
      refine ⟨_, H3, I4, wipe_length _ _, fun j v e hj => ?_, nx⟩
      rw [wipe_out hj]
      exact e
    · refine thnF (T.item X rfl rfl rfl hc j pins s3 (wipe σ vs) H3 (fun _ _ => False) I3 (stat n3) st3 go) fun r s4 ⟨u, hr, h4⟩ => ?_
      subst hr
      refine thnF h4 fun _ s5 ⟨x1, H5, I5, r5, y5, st5, n5⟩ => ?_
      have I5' := I5.pinned (stat n5) (T.obj _ _ st5)
      have pgr := hg.run _ s5 (wipe σ vs) H5 x1 u _ I5' r5 (step x1 H5 y5)
      rw [hx] at pgr
      refine thnF pgr fun _ s6 ⟨σ6, H6, I6, hw6, q6⟩ => ?_
      have ptr := ht.run _ s6 σ6 H6 _ I6 q6
      rw [hx] at ptr
      refine thnF ptr fun b s7 ⟨H7, I7, q7⟩ => ?_
      have fin : ∀ {σ' : St} {s' : Shared} {H' : Hp}, Inv X (pins ++ pinsAt fp s5.heap) σ' H' s' → σ'.length = (wipe σ vs).length → (∀ (j : Nat) v, (wipe σ vs)[j]? = some (some v) → σ'[j]? = some (some v)) → N1 H' →
          ∃ m, m < k ∧ ∃ j H', Inv X pins (wipe σ vs) H' s' ∧ tn j s'.heap ∧ (∀ b ∈ fp, H' b = none) ∧ W j m H' := fun {σ' s' H'} I' hl hk nx => by
        obtain ⟨m', hm', w'⟩ := hN1 H' nx
        have pin' : ∀ b ∈ fp, ∀ o, s5.heap.get? b = some o → s'.heap.get? b = some o ∧ H' b = none := fun b hb o e =>
          let z := I'.pin (b, o) (List.mem_append_right _ (List.mem_append_right _ (mem_pinsAt hb e)))
          ⟨z.1, z.2.1⟩
        refine ⟨m', hm', j + 1, H', I'.unpinned.weak hl.symm hk, T.keep _ _ _ st5 fun b hb o e => (pin' b hb o e).1, fun b hb => ?_, w'⟩
        obtain ⟨o, e, _⟩ := T.obj _ _ st5 b hb
        exact (pin' b hb o e).2
      have l6 : σ6.length = (wipe σ vs).length := by rw [← hw6, wipe_length]
      have k6 : ∀ (j : Nat) v, (wipe σ vs)[j]? = some (some v) → σ6[j]? = some (some v) ∧ j ∉ vs := fun j v e => by
        rw [← hw6] at e
        exact wipe_some e
      cases b with
      | false =>
        simp only [Bool.false_eq_true, if_false] at q7 ⊢
        exact fin I7 l6 (fun j v e => (k6 j v e).1) q7
      | true =>
        simp only [if_true] at q7 ⊢
        have pmr := hm.run _ s7 σ6 H7 D N1 I7 q7
        rw [hx] at pmr
        refine thnF pmr fun _ s8 ⟨σ8, H8, I8, l8, k8, nx⟩ => ?_
        exact fin I8 (l8.trans l6) (fun j v e => k8 j v (k6 j v e).1 (k6 j v e).2) nx
  refine codeAny_mono (startForm F goal (T.self X.A 0 _ _ _ st2 goal)) fun r s' hr => ?_
  cases r with
  | ok f => exact wpAny_pure hr
  | error e => exact hr.elim
theorem PMid.more {X : Cx} {mid : Value → Env → Sem Unit} {tm : TM} {vs ws : List Nat} (h : PMid X mid tm vs) (hv : ∀ i ∈ vs, i ∈ ws) : PMid X mid tm ws := by
  refine ⟨fun pins s σ H D Nx I q => wpAny_mono (h.run pins s σ H D Nx I q) (fun _ s' r => ?_) fun _ _ z => z⟩
  obtain ⟨σ', H', I', l, k, n⟩ := r
  exact ⟨σ', H', I', l, fun j v e nj => k j v e fun z => nj (hv j z), n⟩
theorem comp_core {pins : List (Addr × Obj)} {s : Shared} {σ : St} {H : Hp} {Q : VK} {c tg iter : Expr} {ifs : List Expr} {mid : Value → Env → Sem Unit} {scope : Scope} {own : List (Str × Nat)} {pos' : Pos} {wi : TI} {g : TG} {tt : TT} {tm : TM} {new : Sem Value} {o0 : Addr → HO} {rest : List Comprehension} {use : Option (Value → Sem Unit)} {Qf : Value → Shared → Prop}
    (hc : X.calm = true) (hN : X.N.Nodup) (I : Inv X pins σ H s) (hcl : clausesOf c = ⟨tg, iter, ifs, 0⟩ :: rest) (F : HasForm c 0 tg iter ifs mid) (hi : PI X tg iter wi) (ok : BlkOk X.N X.env.scope scope own) (hnew : LaysNew X new o0)
    (hg : ∀ (s : Shared) (H : Hp) (C : Addr) (cl : List (Str × Addr)) (fp : List Addr), PG (X.blk s H scope (compEnvC scope cl C X.env) fp) tg g)
    (ht : ∀ (s : Shared) (H : Hp) (C : Addr) (cl : List (Str × Addr)) (fp : List Addr), PTs (X.blk s H scope (compEnvC scope cl C X.env) fp) ifs tt)
    (hm : ∀ (s : Shared) (H : Hp) (C : Addr) (cl : List (Str × Addr)) (fp : List Addr), PMid (X.blk s H scope (compEnvC scope cl C X.env) fp) mid tm (own.map (·.2)))
    (hs : ∀ x, foldedSetIterable iter X.env x = pure x) (h : tComp o0 wi g tt tm (own.map (·.2)) σ H Q)
    (hR : ∀ (D C : Addr) (s' : Shared) (m : Str → Option Value) (H' : Hp), Inv X pins σ H' s' → Q (.ref D) H' → s'.heap.Ns C m → FpOk X pins H' C → compPost (model X.prog X.w) X.A X.xe use Qf (.ref D) C (.ok .next) s') :
    wpAny (model X.prog X.w) X.A (comprehension c scope X.env pos' new false (eval iter X.env) use) Qf X.xe s := by
  have hfree : ∀ y ∈ scope.names, y.2 = .free → ∃ c, X.env.cells.lookup y.1 = some c := fun y hy e => by
    rcases ok.free y hy e with k | k
    · exact I.ok.has _ (.inl k)
    · exact I.ok.has _ (.inr k)
  refine wpAny_comprehension_free (use := use) hcl hs (closure_ok hfree) ok.kind (fun y hy e => by rw [ok.uniq y hy, e])
    (thn (hi.run pins s σ H _ I h) fun xv s1 hx => thn hx fun itv s2 h2 => ?_)
  obtain ⟨it, fp, tn, J, H2, rfl, I2, T, st2, f2, q⟩ := h2
  refine hnew pins σ H2 s2 _ _ I2 fun D s3 hD I3 kp3 => newEnv_comp ?_
  obtain ⟨W, ⟨m0, w0⟩, turn⟩ := q D (I2.hok.fresh hD)
  have sz : ∀ b ∈ fp, b < s2.heap.objs.size := fun b hb => by
    obtain ⟨o, e, _⟩ := T.obj _ _ st2 b hb
    exact Heap.lt_size e
  have f3 : ∀ b ∈ fp, FpOk X pins (upd H2 D (o0 D)) b ∧ b < s3.heap.objs.size := fun b hb => by
    obtain ⟨o, e, _⟩ := T.obj _ _ st2 b hb
    refine ⟨⟨?_, (f2 b hb).2⟩, Heap.lt_size (kp3 b o e)⟩
    rw [upd_ne (Nat.ne_of_lt (Nat.lt_of_lt_of_le (sz b hb) hD))]
    exact (f2 b hb).1
  have st3 : tn 0 s3.heap := T.keep _ _ _ st2 fun b _ o e => kp3 b o e
  have I4 := block_start I3 ok hN f3
  have pg := hg s3 (upd H2 D (o0 D)) s3.heap.objs.size (cellsFrom (s3.heap.objs.size + 1) scope.names (cloFrom X.env.cells scope.names [])) fp
  have pt := ht s3 (upd H2 D (o0 D)) s3.heap.objs.size (cellsFrom (s3.heap.objs.size + 1) scope.names (cloFrom X.env.cells scope.names [])) fp
  have pm := hm s3 (upd H2 D (o0 D)) s3.heap.objs.size (cellsFrom (s3.heap.objs.size + 1) scope.names (cloFrom X.env.cells scope.names [])) fp
  show codeAny _ _ (.compStart c 0 (.ref it) (.ref D) (compEnvC scope (cellsFrom (s3.heap.objs.size + 1) scope.names (cloFrom X.env.cells scope.names [])) s3.heap.objs.size X.env)) (compPost (model X.prog X.w) X.A X.xe use Qf (.ref D) s3.heap.objs.size) { s3 with heap := pushCells (s3.heap.push { cls := .type "dict", data := .dict #[] }) scope.names }
  have nfp : ∀ b ∈ fp, (upd H2 D (o0 D)) b = none := fun b hb => (f3 b hb).1.1
  generalize hce : compEnvC scope (cellsFrom (s3.heap.objs.size + 1) scope.names (cloFrom X.env.cells scope.names [])) s3.heap.objs.size X.env = ce at I4 pg pt pm ⊢
  have cL : ce.locals = s3.heap.objs.size := by subst hce; rfl
  generalize hH3 : upd H2 D (o0 D) = H3 at I3 I4 pg pt pm w0 nfp f3
  generalize hs4 : ({ s3 with heap := pushCells (s3.heap.push { cls := .type "dict", data := .dict #[] }) scope.names } : Shared) = s4 at I4 ⊢
  have st4 : tn 0 s4.heap := T.keep _ _ _ st3 fun b _ o e => by
    rw [← hs4]
    exact pushCells_keeps _ _ _ _ (Heap.get?_push_of_some _ e)
  have stat : ∀ {σ' : St} {H' : Hp} {s' : Shared}, Inv (X.blk s3 H3 scope ce fp) [] σ' H' s' → (∀ b ∈ fp, H' b = none) → ∀ b ∈ fp, FpOk (X.blk s3 H3 scope ce fp) [] H' b := fun {σ' H' s'} I' hn b hb =>
    ⟨hn b hb, (I'.ok.exf b hb).1, I'.ok.exfs b hb, .inl hb, fun x c e => (I'.ok.exf b hb).2 x c e, fun p hp => absurd (show p ∈ ([] : List (Addr × Obj)) ++ [] from hp) (by simp)⟩
  have loop : codeAny (model X.prog X.w) X.A (.compLoop c 0 (.ref it) (.ref D) ce) (compPost (model X.prog X.w) X.A X.xe use Qf (.ref D) s3.heap.objs.size) s4 := by
    refine loopForm F (fun n s' => ∃ i H', Inv (X.blk s3 H3 scope ce fp) [] (wipe σ (own.map (·.2))) H' s' ∧ tn i s'.heap ∧ (∀ b ∈ fp, H' b = none) ∧ W i n H') ?_ m0 ⟨0, H3, I4, st4, nfp, w0⟩
    rintro n s5 ⟨i, H5, I5, st5, n5, w5⟩
    rcases turn i n H5 w5 with ⟨stop, qq⟩ | ⟨go, Nx, hNx, step⟩
    · refine thnF (T.done (X.blk s3 H3 scope ce fp) rfl rfl rfl hc i [] s5 _ H5 (fun _ _ => False) I5 (stat I5 n5) st5 stop) fun r s6 ⟨hr, I6⟩ => ?_
      subst hr
      have I7 : Inv X pins σ H5 s6 := I3.call' (ch := fp) I6.os I6.base I6.hok I6.bare fun b hb => ⟨(f3 b hb).1.2.2.2.1, (f3 b hb).1.2.1, (f3 b hb).1.2.2.2.2.1, (f3 b hb).1.2.2.2.2.2⟩
      have nC : H5 s3.heap.objs.size = none := by
        have z : H5 ce.locals = none := I6.free
        rw [cL] at z
        exact z
      obtain ⟨m, hn, _⟩ := I6.loc
      have hn : s6.heap.Ns ce.locals m := hn
      rw [cL] at hn
      exact hR D s3.heap.objs.size s6 m H5 I7 qq hn (I3.fpOk (Nat.le_refl _) nC)
    · refine thnF (T.item (X.blk s3 H3 scope ce fp) rfl rfl rfl hc i [] s5 _ H5 (fun _ _ => False) I5 (stat I5 n5) st5 go) fun r s6 ⟨u, hr, h6⟩ => ?_
      subst hr
      refine thnF h6 fun _ s7 ⟨x, H7, I7, r7, y7, st7, n7⟩ => ?_
      have I7' := I7.pinned (stat I7 n7) (T.obj _ _ st7)
      refine thnF (pg.run _ s7 _ H7 x u _ I7' r7 (step x H7 y7)) fun _ s8 ⟨σ8, H8, I8, hw8, q8⟩ => ?_
      refine thnF (pt.run _ s8 σ8 H8 _ I8 q8) fun b s9 ⟨H9, I9, q9⟩ => ?_
      have fin : ∀ {σ' : St} {s' : Shared} {H' : Hp}, Inv (X.blk s3 H3 scope ce fp) ([] ++ pinsAt fp s7.heap) σ' H' s' → σ'.length = (wipe σ (own.map (·.2))).length → (∀ (j : Nat) v, (wipe σ (own.map (·.2)))[j]? = some (some v) → σ'[j]? = some (some v)) → Nx H' →
          ∃ m, m < n ∧ ∃ i H', Inv (X.blk s3 H3 scope ce fp) [] (wipe σ (own.map (·.2))) H' s' ∧ tn i s'.heap ∧ (∀ b ∈ fp, H' b = none) ∧ W i m H' := fun {σ' s' H'} I' hl hk nx => by
        obtain ⟨m', hm', w'⟩ := hNx H' nx
        have pin' : ∀ b ∈ fp, ∀ o, s7.heap.get? b = some o → s'.heap.get? b = some o ∧ H' b = none := fun b hb o e =>
          let z := I'.pin (b, o) (List.mem_append_right _ (List.mem_append_right _ (mem_pinsAt hb e)))
          ⟨z.1, z.2.1⟩
        refine ⟨m', hm', i + 1, H', (I'.unpinned (pins := [])).weak hl.symm hk, T.keep _ _ _ st7 fun b hb o e => (pin' b hb o e).1, fun b hb => ?_, w'⟩
        obtain ⟨o, e, _⟩ := T.obj _ _ st7 b hb
        exact (pin' b hb o e).2
      have l8 : σ8.length = (wipe σ (own.map (·.2))).length := by rw [← hw8, wipe_length]
      have k8 : ∀ (j : Nat) v, (wipe σ (own.map (·.2)))[j]? = some (some v) → σ8[j]? = some (some v) ∧ j ∉ own.map (·.2) := fun j v e => by
        rw [← hw8] at e
        exact wipe_some e
      cases b with
      | false =>
        simp only [Bool.false_eq_true, if_false] at q9 ⊢
        exact fin I9 l8 (fun j v e => (k8 j v e).1) q9
      | true =>
        simp only [if_true] at q9 ⊢
        have pmr := pm.run _ s9 σ8 H9 D Nx I9 q9
        refine thnF pmr fun _ s10 ⟨σ10, H10, I10, l10, k10, nx⟩ => ?_
        exact fin I10 (l10.trans l8) (fun j v e => k10 j v (k8 j v e).1 (k8 j v e).2) nx
  exact startForm F loop (T.self X.A 0 _ _ _ st4 loop)
/-- as a value -/
theorem comp_val {pins : List (Addr × Obj)} {σ : St} {Q : VK} : ∀ (D C : Addr) (s' : Shared) (m : Str → Option Value) (H' : Hp), Inv X pins σ H' s' → Q (.ref D) H' → s'.heap.Ns C m → FpOk X pins H' C → compPost (model X.prog X.w) X.A X.xe none (EP X pins σ Q) (.ref D) C (.ok .next) s' :=
  fun D C s' m H' I' q hn f => ⟨m, hn, fun h' sb => by
    obtain ⟨f0, f1, f2, f3, f4, f5⟩ := f
    exact ⟨.ref D, H', I'.turned (t' := s'.toks) (fun b o hb e => (sb.2 b hb).trans e) f0 f1 f3 f4 f5, rfl, q⟩⟩
/-- stored at a name -/
theorem comp_put {i : Nat} {y : Str} {py : Pos} {pins : List (Addr × Obj)} {σ : St} {D0 : Ends} (hN : X.N.Nodup) (hy : X.N[i]? = some y) (hyl : X.env.scope.names.lookup y = some .local) :
    ∀ (D C : Addr) (s' : Shared) (m : Str → Option Value) (H' : Hp), Inv X pins σ H' s' → gName i (.ref D) σ H' D0.nx → s'.heap.Ns C m → FpOk X pins H' C → compPost (model X.prog X.w) X.A X.xe (some (assign (.Name y py) X.env)) (fun _ s' => SP X pins D0 .next s') (.ref D) C (.ok .next) s' := fun D C s' m H' I' q hn f => by
  show wpAny _ _ (assign (.Name y py) X.env (.ref D)) _ _ _
  refine wpAny_assign_Name (store_ok2 (v := V.ref D) I' hN hy (.inl hyl) rfl (fun s2 I2 ⟨a, sb, ha⟩ => ?_) (.inr hyl))
  obtain ⟨f0, f1, f2, f3, f4, f5⟩ := f
  have ne : C ≠ a := by
    rcases ha with z | z
    · rw [z]; exact f1
    · exact fun e => f4 y a z e.symm
  exact ⟨m, hn.sameBut sb ne, fun h3 sb3 => ⟨_, H', I2.turned (t' := s2.toks) (fun b o hb e => (sb3.2 b hb).trans e) f0 f1 f3 f4 f5, q⟩⟩
end
end LK
set_option autoImplicit false
set_option linter.all false
set_option maxRecDepth 100000
set_option Elab.async false
namespace LK
open PySem PySem.Spec L2
/-! ### dict comprehensions -/
def mDict (kx vx : Expr) : Value → Env → Sem Unit := fun acc env => do
  let kv ← eval kx env
  let vv ← holding [kv] (eval vx env)
  match acc with
  | .ref d => do
    standAt { kx.pos with endLine := vx.pos.endLine, endCol := vx.pos.endCol }
    holding [kv, vv] (dictSet d kv vv)
  | _ => unsupported "internal:dictcomp"
theorem form_dict (kx vx tg iter : Expr) (ifs : List Expr) (scope : Scope) (pos : Pos) : HasForm (.DictComp kx vx [⟨tg, iter, ifs, 0⟩] scope pos) 0 tg iter ifs (mDict kx vx) :=
  ⟨rfl, fun _ _ _ => rfl, fun _ _ _ _ _ => rfl, fun _ _ _ _ _ => rfl, fun _ _ _ _ => rfl, fun _ _ _ _ => rfl⟩
def mTwo (c iter : Expr) : Value → Env → Sem Unit := fun acc env => do
  let x ← eval iter env
  standAt iter.pos
  let x ← foldedSetIterable iter env x
  let _ ← runOwn (.compStart c 1 (← holding [x] (pyIter x)) acc env) env
theorem turn_dict20 (kx vx tg iter tg1 iter1 : Expr) (ifs ifs1 : List Expr) (scope : Scope) (pos : Pos) (it acc : Value) (env : Env) :
    compTurn (.DictComp kx vx [⟨tg, iter, ifs, 0⟩, ⟨tg1, iter1, ifs1, 0⟩] scope pos) 0 it acc env =
      turnForm tg iter ifs (mTwo (.DictComp kx vx [⟨tg, iter, ifs, 0⟩, ⟨tg1, iter1, ifs1, 0⟩] scope pos) iter1 acc env) (again (.compLoop (.DictComp kx vx [⟨tg, iter, ifs, 0⟩, ⟨tg1, iter1, ifs1, 0⟩] scope pos) 0 it acc env)) it env := by
  have e : compTurn (.DictComp kx vx [⟨tg, iter, ifs, 0⟩, ⟨tg1, iter1, ifs1, 0⟩] scope pos) 0 it acc env = (do
      standAt iter.pos
      match ← pyNext it with
      | none => pure (.done .next)
      | some v =>
        letOwnedTupleGo tg it v
        assign tg env v
        let mut ok := true
        for c in ifs do
          if ok then ok ← isTrue c env (eval c env)
        if ok then
          let x ← eval iter1 env
          standAt iter1.pos
          let x ← foldedSetIterable iter1 env x
          let _ ← runOwn (.compStart (.DictComp kx vx [⟨tg, iter, ifs, 0⟩, ⟨tg1, iter1, ifs1, 0⟩] scope pos) 1 (← holding [x] (pyIter x)) acc env) env
        again (.compLoop (.DictComp kx vx [⟨tg, iter, ifs, 0⟩, ⟨tg1, iter1, ifs1, 0⟩] scope pos) 0 it acc env)) := by rfl
  rw [e]
  unfold turnForm mTwo
  simp only [bind_assoc, pure_bind]
  all_goals rfl
theorem form_dict20 (kx vx tg iter tg1 iter1 : Expr) (ifs ifs1 : List Expr) (scope : Scope) (pos : Pos) :
    HasForm (.DictComp kx vx [⟨tg, iter, ifs, 0⟩, ⟨tg1, iter1, ifs1, 0⟩] scope pos) 0 tg iter ifs (mTwo (.DictComp kx vx [⟨tg, iter, ifs, 0⟩, ⟨tg1, iter1, ifs1, 0⟩] scope pos) iter1) :=
  ⟨rfl, fun _ _ _ => turn_dict20 kx vx tg iter tg1 iter1 ifs ifs1 scope pos _ _ _, fun _ _ _ _ _ => rfl, fun _ _ _ _ _ => rfl, fun _ _ _ _ => rfl, fun _ _ _ _ => rfl⟩
theorem form_dict21 (kx vx tg iter tg1 iter1 : Expr) (ifs ifs1 : List Expr) (scope : Scope) (pos : Pos) :
    HasForm (.DictComp kx vx [⟨tg, iter, ifs, 0⟩, ⟨tg1, iter1, ifs1, 0⟩] scope pos) 1 tg1 iter1 ifs1 (mDict kx vx) :=
  ⟨rfl, fun _ _ _ => rfl, fun _ _ _ _ _ => rfl, fun _ _ _ _ _ => rfl, fun _ _ _ _ => rfl, fun _ _ _ _ => rfl⟩
/-- an int's or a text's key -/
def tmDict (tk tv : TE) : TM := fun σ H D Nx => tk σ H fun y H4 => tv σ H4 fun z H5 => ∃ kvs k, y = kV k ∧ H5 D = some (.dK kvs) ∧ kvs.length < sizeLine ∧ Nx (upd H5 D (.dK (putK kvs k z)))
/-- a tuple as key -/
def tmDictT (tk tv : TE) : TM := fun σ H D Nx => tk σ H fun y H4 => tv σ H4 fun z H5 => ∃ (kvs : List (List L2.Key × V)) (k : List L2.Key) (b : Addr), y = .ref b ∧ H5 b = some (.tup (k.map kV)) ∧ H5 D = some (.dT kvs) ∧ kvs.length < sizeLine ∧ Nx (upd H5 D (.dT (putK kvs k z)))
section
variable {X : Cx} {kx vx : Expr} {tk tv : TE} {vs : List Nat}
theorem mid_dict (hk : PE X kx tk) (hv : PE X vx tv) (hx : X.xe = fun _ _ => False) : PMid X (mDict kx vx) (tmDict tk tv) vs := by
  refine ⟨fun pins s σ H D Nx I h => ?_⟩
  refine wpAny_bind (thn (hk.run pins s σ H _ I h) fun u s1 ⟨y, H1, I1, r1, q1⟩ => ?_)
  refine wpAny_bind (wpAny_holding (thn (hv.run pins s1 σ H1 _ I1 q1) fun u2 s2 ⟨z, H2, I2, r2, kvs, k, ey, hD, hz, nx⟩ => ?_))
  subst ey
  exact wpAny_bind (wpAny_standAt (wpAny_holding (d_dictSet I2 hD hz r1 r2 fun s' I' => ⟨σ, _, I', rfl, fun _ _ e _ => e, nx⟩)))
theorem d_dictSetT {pins : List (Addr × Obj)} {σ : St} {H : Hp} {s : Shared} {E : Value → Shared → Prop} {D b : Addr} {kvs : List (List L2.Key × V)} {k : List L2.Key} {v : V} {r : Value} {Q : Unit → Shared → Prop} (hu : X.A.units + 1 < cLine) (I : Inv X pins σ H s)
    (hD : H D = some (.dT kvs)) (hb : H b = some (.tup (k.map kV))) (hz : kvs.length < sizeLine) (rv : RelV v r) (h : ∀ s', Inv X pins σ (upd H D (.dT (putK kvs k v))) s' → Q () s') :
    wpAny (model X.prog X.w) X.A (dictSet D (.ref b) r) Q E s := by
  obtain ⟨z, hd, xs, rel, dd⟩ := dt_of I.hok hD
  have hzv : xs.length ≤ sizeLine := by rw [← Paired.length rel]; exact z
  have hl : (putK kvs k v).length ≤ sizeLine := by have := length_putK kvs k v; omega
  refine wpAny_dictSet_heap (hsz := hzv) (show X.A.units < cLine by omega) (key_of I.hok hb) dd fun h' dd' hs => h _ ?_
  obtain ⟨q, es, ep, hq, h2, h3, h4, _, h5⟩ := dd'
  refine d_write I (by rw [hD]; exact True.intro) hs ⟨q, hq⟩ ⟨hl, hd, _, (rel.put k hb rv).keeps fun c ys ec => ?_, q, es, ep, hq, h2, h3, h4, h5⟩
  rw [upd_ne (ne_of ec hD (fun z => nomatch z))]
  exact ec
theorem mid_dictT (hu : X.A.units + 1 < cLine) (hk : PE X kx tk) (hv : PE X vx tv) (hx : X.xe = fun _ _ => False) : PMid X (mDict kx vx) (tmDictT tk tv) vs := by
  refine ⟨fun pins s σ H D Nx I h => ?_⟩
  refine wpAny_bind (thn (hk.run pins s σ H _ I h) fun u s1 ⟨y, H1, I1, r1, q1⟩ => ?_)
  refine wpAny_bind (wpAny_holding (thn (hv.run pins s1 σ H1 _ I1 q1) fun u2 s2 ⟨z, H2, I2, r2, kvs, k, b, ey, hb, hD, hz, nx⟩ => ?_))
  subst ey
  obtain rfl : u = Value.ref b := r1
  exact wpAny_bind (wpAny_standAt (wpAny_holding (d_dictSetT hu I2 hD hb hz r2 fun s' I' => ⟨σ, _, I', rfl, fun _ _ e _ => e, nx⟩)))
theorem lays_dK : LaysNew X newDict (fun _ => .dK []) := fun pins σ H s Q E I h =>
  wpAny_newObj_type (h s.heap.objs.size { s with heap := s.heap.push { cls := .type "dict", data := .dict #[] } } (Nat.le_refl _) (I.laid (t' := s.toks) (fun b o e => Heap.get?_push_of_some _ e) (Nat.le_refl _) (dk_empty s.heap I.big)) fun b o e => Heap.get?_push_of_some _ e)
theorem lays_dT : LaysNew X newDict (fun _ => .dT []) := fun pins σ H s Q E I h =>
  wpAny_newObj_type (h s.heap.objs.size { s with heap := s.heap.push { cls := .type "dict", data := .dict #[] } } (Nat.le_refl _) (I.laid (t' := s.toks) (fun b o e => Heap.get?_push_of_some _ e) (Nat.le_refl _) (dt_empty s.heap I.big)) fun b o e => Heap.get?_push_of_some _ e)
variable {tg iter tg1 iter1 : Expr} {ifs ifs1 : List Expr} {scope : Scope} {own : List (Str × Nat)} {pos : Pos} {wi wi1 : TI} {g g1 : TG} {tt tt1 : TT}
/-- {k: v for a in .. for b in ..} -/
theorem pe_dc2 {vs1 : List Nat} (hv1 : ∀ i ∈ vs1, i ∈ own.map (·.2)) (hc : X.calm = true) (hN : X.N.Nodup) (hi : PI X tg iter wi) (ok : BlkOk X.N X.env.scope scope own)
    (hg : ∀ (s : Shared) (H : Hp) (C : Addr) (cl : List (Str × Addr)) (fp : List Addr), PG (X.blk s H scope (compEnvC scope cl C X.env) fp) tg g)
    (ht : ∀ (s : Shared) (H : Hp) (C : Addr) (cl : List (Str × Addr)) (fp : List Addr), PTs (X.blk s H scope (compEnvC scope cl C X.env) fp) ifs tt)
    (hi1 : ∀ (s : Shared) (H : Hp) (C : Addr) (cl : List (Str × Addr)) (fp : List Addr), PI (X.blk s H scope (compEnvC scope cl C X.env) fp) tg1 iter1 wi1)
    (hg1 : ∀ (s : Shared) (H : Hp) (C : Addr) (cl : List (Str × Addr)) (fp : List Addr), PG (X.blk s H scope (compEnvC scope cl C X.env) fp) tg1 g1)
    (ht1 : ∀ (s : Shared) (H : Hp) (C : Addr) (cl : List (Str × Addr)) (fp : List Addr), PTs (X.blk s H scope (compEnvC scope cl C X.env) fp) ifs1 tt1)
    (hk : ∀ (s : Shared) (H : Hp) (C : Addr) (cl : List (Str × Addr)) (fp : List Addr), PE (X.blk s H scope (compEnvC scope cl C X.env) fp) kx tk)
    (hv : ∀ (s : Shared) (H : Hp) (C : Addr) (cl : List (Str × Addr)) (fp : List Addr), PE (X.blk s H scope (compEnvC scope cl C X.env) fp) vx tv)
    (hs : ∀ x, foldedSetIterable iter X.env x = pure x := by intro _; rfl) (hs1 : ∀ env x, foldedSetIterable iter1 env x = pure x := by intro _ _; rfl) :
    PE X (.DictComp kx vx [⟨tg, iter, ifs, 0⟩, ⟨tg1, iter1, ifs1, 0⟩] scope pos) (tComp (fun _ => .dK []) wi g tt (tInner wi1 g1 tt1 (tmDict tk tv) vs1) (own.map (·.2))) := by
  refine ⟨fun pins s σ H Q I h => ?_⟩
  rw [arm_eval_DictComp]
  exact comp_core hc hN I rfl (form_dict20 kx vx tg iter tg1 iter1 ifs ifs1 scope pos) hi ok lays_dK hg ht
    (fun s H C cl fp => (mid_inner (X := X.blk s H scope (compEnvC scope cl C X.env) fp) (vs := vs1) hc (form_dict21 kx vx tg iter tg1 iter1 ifs ifs1 scope pos) (hi1 s H C cl fp) (hg1 s H C cl fp) (ht1 s H C cl fp) (mid_dict (hk s H C cl fp) (hv s H C cl fp) rfl) rfl (hs1 _)).more hv1) hs h comp_val
/-- {(a, ..): v for .. in ..} -/
theorem pe_dcT (hu : X.A.units + 1 < cLine) (hc : X.calm = true) (hN : X.N.Nodup) (hi : PI X tg iter wi) (ok : BlkOk X.N X.env.scope scope own)
    (hg : ∀ (s : Shared) (H : Hp) (C : Addr) (cl : List (Str × Addr)) (fp : List Addr), PG (X.blk s H scope (compEnvC scope cl C X.env) fp) tg g)
    (ht : ∀ (s : Shared) (H : Hp) (C : Addr) (cl : List (Str × Addr)) (fp : List Addr), PTs (X.blk s H scope (compEnvC scope cl C X.env) fp) ifs tt)
    (hk : ∀ (s : Shared) (H : Hp) (C : Addr) (cl : List (Str × Addr)) (fp : List Addr), PE (X.blk s H scope (compEnvC scope cl C X.env) fp) kx tk)
    (hv : ∀ (s : Shared) (H : Hp) (C : Addr) (cl : List (Str × Addr)) (fp : List Addr), PE (X.blk s H scope (compEnvC scope cl C X.env) fp) vx tv)
    (hs : ∀ x, foldedSetIterable iter X.env x = pure x := by intro _; rfl) :
    PE X (.DictComp kx vx [⟨tg, iter, ifs, 0⟩] scope pos) (tComp (fun _ => .dT []) wi g tt (tmDictT tk tv) (own.map (·.2))) := by
  refine ⟨fun pins s σ H Q I h => ?_⟩
  rw [arm_eval_DictComp]
  exact comp_core hc hN I rfl (form_dict kx vx tg iter ifs scope pos) hi ok lays_dT hg ht (fun s H C cl fp => mid_dictT hu (hk s H C cl fp) (hv s H C cl fp) rfl) hs h comp_val
end

/-! ### d.items(), keys that are tuples -/
/-- the pairs of the locked dict at d: the key's own tuple and the value, in a new pair -/
def Itit (d : Addr) (o : Obj) (kvs : List (List L2.Key × V)) : It :=
  ⟨fun i H => H d = some (.frz o (.dT kvs)) ∧ i < kvs.length,
   fun i H x H' => ∃ T q k v, kvs[i]? = some (k, v) ∧ x = .ref T ∧ H T = none ∧ H q = some (.tup (k.map kV)) ∧ H' = upd H T (.tup [.ref q, v]),
   fun i H => H d = some (.frz o (.dT kvs)) ∧ kvs.length ≤ i⟩
theorem frzT' {X : Cx} {pins : List (Addr × Obj)} {σ : St} {H : Hp} {s : Shared} {d : Addr} {o : Obj} {kvs : List (List L2.Key × V)} (I : Inv X pins σ H s) (h : H d = some (.frz o (.dT kvs))) :
    (d == sysModules) = false ∧ s.heap.get? d = some o ∧ ∃ (es : Array DictEntry) (ep : Nat), o.data = .dict es ep ∧ s.heap.DictRaw d es ep ∧ es.size = kvs.length ∧
      ∀ (i : Nat) (hi : i < es.size) (k : List L2.Key) (v : V), kvs[i]? = some (k, v) → ∃ q : Addr, es[i].key = .ref q ∧ H q = some (.tup (k.map kV)) ∧ RelV v es[i].val := by
  obtain ⟨hd, z, hs, xs, pr, o', es, ep, ho, hx, hdt, he, _⟩ := I.hok d _ h
  rw [hd] at ho
  cases ho
  have l1 : es.size = xs.length := size_of_entries he
  have l2 : kvs.length = xs.length := Paired.length pr
  refine ⟨hs, hd, es, ep, hdt, ⟨o, hd, hx, hdt⟩, by omega, fun i hi k v e => ?_⟩
  obtain ⟨b, hb, e1, e2, e3⟩ := paired_get pr e
  have q := entry_at he i
  rw [hb, Array.getElem?_eq_getElem hi] at q
  have q' := Option.some.inj q
  rw [q']
  exact ⟨b.2.1, rfl, e2, e3⟩
theorem turn_itemsT {P : Program} {w : World} {K : PySem.W.Frag} {d : Addr} {o : Obj} {es : Array DictEntry} {ep : Nat} {kvs : List (List L2.Key × V)} {elts : List Expr} {kk : Nat} {tpos : Pos} (it : Addr) (hod : o.data = .dict es ep) :
    Turn P w K (.Tuple elts kk tpos) (Itit d o kvs) [it] it (fun i h => ∃ ok ov, IsItemIter h it d i es.size ep ok ov) where
  mem := by simp
  obj := fun i h st b hb => by
    obtain rfl : b = it := by simpa using hb
    obtain ⟨ok, ov, e⟩ := st
    exact ⟨_, e, fun v z => nomatch z⟩
  keep := fun i h h' st k => st.imp fun ok st => st.imp fun ov e => k it (by simp) _ e
  item := by
    intro X hP hw hK hc i pins s σ H E I hf st hg
    subst hP hw hK
    obtain ⟨hd, hi⟩ := hg
    obtain ⟨hs, hgd, es', ep', hdt, raw, hsz, ent⟩ := frzT' I hd
    obtain ⟨rfl, rfl⟩ := dict_ep hod hdt
    obtain ⟨⟨k, v⟩, hkv⟩ : ∃ p, kvs[i]? = some p := ⟨kvs[i], List.getElem?_eq_getElem hi⟩
    have hie : i < es'.size := by omega
    obtain ⟨q, ek, hq, rv⟩ := ent i hie k v hkv
    obtain ⟨ok, ov, he⟩ := st
    have hlt : it < s.heap.objs.size := Heap.lt_size he
    refine wpAny_pyNext_items_item_raw he raw hie fun h' ho hT hz hk => ?_
    refine ⟨_, rfl, wpAny_letOwnedTupleGo_items (s := { s with heap := h' }) ho fun h2 he2 sb => ?_⟩
    have hT2 : h2.get? s.heap.objs.size = some { cls := .type "tuple", data := .seq #[es'[i].key, es'[i].val] } := (sb.2 _ (Nat.ne_of_gt hlt)).trans hT
    rw [ek] at hT2
    have new : ObjOk X.prog X.w (upd H s.heap.objs.size (.tup [.ref q, v])) h2 s.heap.objs.size (.tup [.ref q, v]) :=
      ⟨by show 2 ≤ sizeLine; decide, [.ref q, es'[i].val], .cons rfl (.cons rv .nil), ⟨_, hT2, rfl, _, rfl⟩⟩
    have I1 : Inv X pins σ (upd H s.heap.objs.size (.tup [.ref q, v])) { s with heap := h2 } :=
      I.turnedNew (t' := s.toks) (ch := [it]) (fun b ob hb e => (sb.2 b (by simpa using hb)).trans (hk b ob (by simpa using hb) e)) hf (Nat.le_refl _) new
    refine ⟨.ref s.heap.objs.size, _, I1, rfl, ⟨_, q, k, v, hkv, rfl, I.hok.fresh (Nat.le_refl _), hq, rfl⟩, ⟨_, _, he2⟩, fun b hb => ?_⟩
    obtain rfl : b = it := by simpa using hb
    rw [upd_ne (Nat.ne_of_lt hlt)]
    exact (hf b (by simp)).1
  done := by
    intro X hP hw hK hc i pins s σ H E I hf st hg
    subst hP hw hK
    obtain ⟨hd, hi⟩ := hg
    obtain ⟨f0, f1, f2, f3, f4, f5⟩ := hf it (by simp)
    obtain ⟨hs, hgd, es', ep', hdt, raw, hsz, ent⟩ := frzT' I hd
    obtain ⟨rfl, rfl⟩ := dict_ep hod hdt
    obtain ⟨ok, ov, he⟩ := st
    exact wpAny_pyNext_items_end_raw (I.ok.hd hc) he raw (by omega) fun h' eb => ⟨rfl, I.turned (t' := s.toks) (fun b ob hb e => eb b ob hb e) f0 f1 f3 f4 f5⟩
  self := fun A i s Q E st h => let ⟨_, _, e⟩ := st; wpAny_pyIter_itemiter e h
def iItemsT (td : TE) : TI := fun σ H R => td σ H fun x H1 => ∃ d o kvs, x = .ref d ∧ H1 d = some (.frz o (.dT kvs)) ∧ R (Itit d o kvs) H1
theorem pi_itemsT {X : Cx} {e : Expr} {td : TE} {apos cpos : Pos} {elts : List Expr} {kk : Nat} {tpos : Pos} (he : PE X e td) (hbase : attributeBase e "items" X.env (eval e X.env) = eval e X.env := by rfl) (hline : (apos.endLine == cpos.line) = true := by rfl) :
    PI X (.Tuple elts kk tpos) (.Call (.Attribute e "items" apos) [] [] cpos) (iItemsT td) := by
  refine ⟨fun pins s σ H R I h => ?_⟩
  refine wpAny_Call_method (T := "dict") (id := "dict.items") hbase rfl hline F.plainAttrs_dict F.slot_dict_items F.type_dict_items (thn (he.run pins s σ H _ I h) fun u s1 ⟨x, H1, I1, rx, d, o, kvs, ex, hd, q⟩ => ?_)
  subst ex
  obtain rfl : u = Value.ref d := rx
  obtain ⟨hs, hgd, es, ep, hdt, raw, hsz, ent⟩ := frzT' I1 hd
  refine ⟨raw.typeIs, fun b hb => ?_, ?_⟩
  · injection hb with hb
    subst hb
    obtain ⟨o', ho', hx', _⟩ := id raw
    exact ⟨o', ho', hx'.2.1⟩
  have I2 : Inv X pins σ H1 { s1 with heap := s1.heap.push { cls := .type "dict_items", data := .fields #[.ref d] } } := I1.kept (t' := s1.toks) fun b ob q => Heap.get?_push_of_some _ q
  have raw2 : Heap.DictRaw (s1.heap.push { cls := .type "dict_items", data := .fields #[.ref d] }) d es ep := raw.at fun ob z => Heap.get?_push_of_some _ z
  have fin : wpAny (model X.prog X.w) X.A (pyIter (.ref s1.heap.objs.size)) (PIE X pins σ (.Tuple elts kk tpos) R) X.xe { s1 with heap := s1.heap.push { cls := .type "dict_items", data := .fields #[.ref d] } } := by
    refine wpAny_pyIter_items_raw (d := d) ⟨_, Heap.get?_push_size _ rfl, rfl, rfl⟩ raw2 (pi_one (tk := s1.toks) I2 _ (turn_itemsT _ hdt) ⟨.none, .none, ?_⟩ q)
    exact Heap.get?_push_size _ rfl
  show wpAny _ _ (callWith cpos (.builtin "dict.items") [.ref d] [] []) _ X.xe s1
  exact method_meetsIn F.slot_dict_items F.entry_dict_items rfl (PySem.evalArgs_none ⟨rfl, raw.typeIs, F.args_dict_items_1 _, _, meets_dict_items_raw d hs, ⟨⟨es, ep, raw⟩, fin⟩⟩)
theorem walk_itemsT {d : Addr} {o : Obj} {kvs : List (List L2.Key × V)} : Walk (Itit d o kvs) kvs.length (fun H => H d = some (.frz o (.dT kvs)))
    (fun i H x H' => ∃ T q k v, kvs[i]? = some (k, v) ∧ x = .ref T ∧ H T = none ∧ H q = some (.tup (k.map kV)) ∧ H' = upd H T (.tup [.ref q, v])) :=
  ⟨fun _ _ hi q => ⟨q, hi⟩, fun _ q => ⟨q, Nat.le_refl _⟩, fun _ _ _ _ _ _ y => y⟩
end LK
set_option autoImplicit false
set_option linter.all false
set_option maxRecDepth 100000
set_option Elab.async false
namespace LK
open PySem PySem.Spec L2
/-! ### numbers and tuples of such, as the heap has them -/
mutual
def kOf : PyData → NestedKey
  | .int i => .num i
  | .tuple ds => .tup (ksOf ds)
  | _ => .none
def ksOf : List PyData → List NestedKey
  | [] => []
  | d :: ds => kOf d :: ksOf ds
end
mutual
inductive Raw (h : Heap) : PyData → Value → Prop
  | int (i : Int) (t : Tok) : Raw h (.int i) (.int i t)
  | tup {a : Addr} {o : Obj} {vs : Array Value} {n : Nat} {ds : List PyData} : h.get? a = some o → o.cls = .type "tuple" → o.data = .seq vs n → Raws h ds vs.toList → Raw h (.tuple ds) (.ref a)
inductive Raws (h : Heap) : List PyData → List Value → Prop
  | nil : Raws h [] []
  | cons {d : PyData} {v : Value} {ds : List PyData} {vs : List Value} : Raw h d v → Raws h ds vs → Raws h (d :: ds) (v :: vs)
end
mutual
theorem Raw.key {h : Heap} : ∀ (d : PyData) (v : Value), Raw h d v → NestedIs h (kOf d) v
  | .int _, _, r => by cases r; exact .int _ _
  | .tuple ds, _, r => by
    cases r with
    | tup a b c e => exact .tup a b c (Raws.key ds _ e)
  | .none, _, r => by cases r
  | .bool _, _, r => by cases r
  | .str _, _, r => by cases r
  | .list _, _, r => by cases r
  | .dict _, _, r => by cases r
theorem Raws.key {h : Heap} : ∀ (ds : List PyData) (vs : List Value), Raws h ds vs → NestedAll h (ksOf ds) vs
  | [], _, r => by cases r; exact .nil
  | d :: ds, _, r => by
    cases r with
    | cons a b => exact .cons (Raw.key d _ a) (Raws.key ds _ b)
end
mutual
theorem kOf_deep : ∀ d : PyData, tame d = true → (kOf d).depth ≤ d.depth
  | .int _, _ => by simp [kOf, NestedKey.depth]
  | .tuple ds, t => by
    have := ksOf_deep ds (by simpa [tame] using t)
    simp only [kOf, NestedKey.depth, PyData.depth]
    omega
  | .none, t => by simp [tame] at t
  | .bool _, t => by simp [tame] at t
  | .str _, t => by simp [tame] at t
  | .list _, t => by simp [tame] at t
  | .dict _, t => by simp [tame] at t
theorem ksOf_deep : ∀ ds : List PyData, tameAll ds = true → NestedKey.depthAll (ksOf ds) ≤ PyData.depthAll ds
  | [], _ => by simp [ksOf, NestedKey.depthAll]
  | d :: ds, t => by
    rw [tameAll, Bool.and_eq_true] at t
    have h1 := kOf_deep d t.1
    have h2 := ksOf_deep ds t.2
    simp only [ksOf, NestedKey.depthAll, PyData.depthAll]
    omega
end
mutual
theorem kOf_inj : ∀ x y : PyData, tame x = true → tame y = true → kOf x = kOf y → x = y
  | .int i, y, _, t, e => by
    cases y with
    | int j => simp only [kOf, NestedKey.num.injEq] at e; rw [e]
    | tuple ds => simp [kOf] at e
    | _ => simp [tame] at t
  | .tuple ds, y, t1, t, e => by
    cases y with
    | int j => simp [kOf] at e
    | tuple es =>
      simp only [kOf, NestedKey.tup.injEq] at e
      rw [ksOf_inj ds es (by simpa [tame] using t1) (by simpa [tame] using t) e]
    | _ => simp [tame] at t
  | .none, _, t, _, _ => by simp [tame] at t
  | .bool _, _, t, _, _ => by simp [tame] at t
  | .str _, _, t, _, _ => by simp [tame] at t
  | .list _, _, t, _, _ => by simp [tame] at t
  | .dict _, _, t, _, _ => by simp [tame] at t
theorem ksOf_inj : ∀ xs ys : List PyData, tameAll xs = true → tameAll ys = true → ksOf xs = ksOf ys → xs = ys
  | [], [], _, _, _ => rfl
  | [], _ :: _, _, _, e => by simp [ksOf] at e
  | _ :: _, [], _, _, e => by simp [ksOf] at e
  | x :: xs, y :: ys, t1, t2, e => by
    rw [tameAll, Bool.and_eq_true] at t1 t2
    simp only [ksOf, List.cons.injEq] at e
    rw [kOf_inj x y t1.1 t2.1 e.1, ksOf_inj xs ys t1.2 t2.2 e.2]
end
mutual
theorem td_raw {X : Cx} {pins : List (Addr × Obj)} {σ : St} {H : Hp} {s : Shared} (I : Inv X pins σ H s) : ∀ (d : PyData) (v : V) (u : Value), Td H v d → RelV v u → Raw s.heap d u
  | .int _, _, _, h, r => by
    cases h
    obtain ⟨t, rfl⟩ := r
    exact .int _ _
  | .tuple ds, _, _, h, r => by
    cases h with
    | tup h1 h2 =>
      cases r
      obtain ⟨its, rv, ⟨o, ho, hc, n, hd⟩, _⟩ := I.tuple (SqT.of (K := X.K) h1)
      exact .tup ho hc hd (by simpa using td_raws I ds _ _ h2 rv)
  | .none, _, _, h, _ => by cases h
  | .bool _, _, _, h, _ => by cases h
  | .str _, _, _, h, _ => by cases h
  | .list _, _, _, h, _ => by cases h
  | .dict _, _, _, h, _ => by cases h
theorem td_raws {X : Cx} {pins : List (Addr × Obj)} {σ : St} {H : Hp} {s : Shared} (I : Inv X pins σ H s) : ∀ (ds : List PyData) (vs : List V) (us : List Value), TdAll H vs ds → Vals vs us → Raws s.heap ds us
  | [], _, _, h, r => by cases h; cases r; exact .nil
  | d :: ds, _, _, h, r => by
    cases h with
    | cons h1 h2 =>
      cases r with
      | cons r1 r2 => exact .cons (td_raw I d _ _ h1 r1) (td_raws I ds _ _ h2 r2)
end
mutual
theorem Raw.moved {h h' : Heap} (k : ∀ a o vs n, h.get? a = some o → o.data = .seq vs n → h'.get? a = some o) : ∀ (d : PyData) (v : Value), Raw h d v → Raw h' d v
  | .int _, _, r => by cases r; exact .int _ _
  | .tuple ds, _, r => by
    cases r with
    | tup a b c e => exact .tup (k _ _ _ _ a c) b c (Raws.moved k ds _ e)
  | .none, _, r => by cases r
  | .bool _, _, r => by cases r
  | .str _, _, r => by cases r
  | .list _, _, r => by cases r
  | .dict _, _, r => by cases r
theorem Raws.moved {h h' : Heap} (k : ∀ a o vs n, h.get? a = some o → o.data = .seq vs n → h'.get? a = some o) : ∀ (ds : List PyData) (vs : List Value), Raws h ds vs → Raws h' ds vs
  | [], _, r => by cases r; exact .nil
  | d :: ds, _, r => by
    cases r with
    | cons a b => exact .cons (Raw.moved k d _ a) (Raws.moved k ds _ b)
end
mutual
theorem Raw.uniq {h : Heap} : ∀ (x y : PyData) (v : Value), Raw h x v → Raw h y v → x = y
  | .int _, _, _, r, q => by cases r; cases q; rfl
  | .tuple ds, _, _, r, q => by
    cases r with
    | tup a b c e =>
      cases q with
      | tup a' b' c' e' =>
        rw [a] at a'; cases a'
        rw [c] at c'; cases c'
        rw [Raws.uniq ds _ _ e e']
  | .none, _, _, r, _ => by cases r
  | .bool _, _, _, r, _ => by cases r
  | .str _, _, _, r, _ => by cases r
  | .list _, _, _, r, _ => by cases r
  | .dict _, _, _, r, _ => by cases r
theorem Raws.uniq {h : Heap} : ∀ (xs ys : List PyData) (vs : List Value), Raws h xs vs → Raws h ys vs → xs = ys
  | [], _, _, r, q => by cases r; cases q; rfl
  | d :: ds, _, _, r, q => by
    cases r with
    | cons a b =>
      cases q with
      | cons a' b' => rw [Raw.uniq d _ _ a a', Raws.uniq ds _ _ b b']
end
section
variable {P : Program} {w : World} {A : Around} {E : Value → Shared → Prop}
mutual
theorem ofA_raw : ∀ (d : PyData) (v : Value) (n : Nat) (A : Around) (s : Shared) (Q : Bool → Shared → Prop), Raw s.heap d v → d.depth ≤ n → Q false s → wpAny (model P w) A (ofAClassStatement n v) Q E s
  | .int _, _, n, A, s, Q, r, _, q => by
    cases r
    cases n <;> exact wpAny_pure q
  | .tuple ds, _, n, A, s, Q, r, hn, q => by
    cases r with
    | @tup a o vs m _ ho hc hd hi =>
      simp only [PyData.depth] at hn
      cases n with
      | zero => omega
      | succ n =>
        have hT : s.TypeIs (.ref a) "tuple" := ⟨o, ho, hc⟩
        unfold ofAClassStatement
        refine wpAny_bind (wpAny_typeOf hT ?_)
        have e : (("tuple" : String) == "tuple") = true := by decide
        simp only [e, if_true, Bool.not_true, Bool.false_eq_true, if_false]
        try refine wpAny_bind (wpAny_pure ?_)
        try simp only [Bool.not_true, Bool.false_eq_true, if_false]
        refine wpAny_bind (wpAny_seqItems ho hd ?_)
        refine wpAny_bind ?_
        show wpAny _ _ (forIn vs _ _) _ _ s
        rw [← Array.forIn_toList]
        refine wpAny_forIn_list _ (fun todo b s' => b.1 = none ∧ s' = s ∧ ∀ v ∈ todo, ∀ (A : Around) (Q : Bool → Shared → Prop), Q false s → wpAny (model P w) A (ofAClassStatement n v) Q E s) _ ?_ ?_ _ _ ⟨rfl, rfl, ofA_raws ds _ n s hi (by omega)⟩
        · rintro v todo b s' ⟨hb, rfl, all⟩
          refine wpAny_bind (all v List.mem_cons_self _ _ ?_)
          simp only [Bool.false_eq_true, if_false]
          exact wpAny_pure ⟨rfl, rfl, fun u hu => all u (List.mem_cons_of_mem _ hu)⟩
        · rintro ⟨b1, b2⟩ s' ⟨hb, rfl, _⟩
          simp only at hb
          subst hb
          exact wpAny_pure q
  | .none, _, _, _, _, _, r, _, _ => by cases r
  | .bool _, _, _, _, _, _, r, _, _ => by cases r
  | .str _, _, _, _, _, _, r, _, _ => by cases r
  | .list _, _, _, _, _, _, r, _, _ => by cases r
  | .dict _, _, _, _, _, _, r, _, _ => by cases r
theorem ofA_raws : ∀ (ds : List PyData) (vs : List Value) (n : Nat) (s : Shared), Raws s.heap ds vs → PyData.depthAll ds ≤ n → ∀ v ∈ vs, ∀ (A : Around) (Q : Bool → Shared → Prop), Q false s → wpAny (model P w) A (ofAClassStatement n v) Q E s
  | [], _, n, s, r, _, v, hv => by cases r; cases hv
  | d :: ds, _, n, s, r, hn, v, hv => by
    cases r with
    | cons a b =>
      simp only [PyData.depthAll] at hn
      intro A Q q
      rcases List.mem_cons.mp hv with rfl | hv
      · exact ofA_raw d _ n A s Q a (by omega) q
      · exact ofA_raws ds _ n s b (by omega) v hv A Q q
end
mutual
theorem hashBy_raw : ∀ (d : PyData) (v : Value) (n : Nat) (A : Around) (s : Shared) (Q : Bool → Shared → Prop), Raw s.heap d v → d.depth ≤ n → Q true s → wpAny (model P w) A (hashByValue n v) Q E s
  | .int _, _, n, A, s, Q, r, _, q => by
    cases r
    cases n <;> exact wpAny_pure q
  | .tuple ds, _, n, A, s, Q, r, hn, q => by
    cases r with
    | @tup a o vs m _ ho hc hd hi =>
      simp only [PyData.depth] at hn
      cases n with
      | zero => omega
      | succ n =>
        have hT : s.TypeIs (.ref a) "tuple" := ⟨o, ho, hc⟩
        unfold hashByValue
        refine wpAny_bind (wpAny_specialOf hT F.slot_tuple_hash.lookup ?_)
        show wpAny _ _ (seqItems? (.ref a) >>= _) _ _ s
        refine wpAny_bind (wpAny_seqItems ho hd ?_)
        refine wpAny_bind ?_
        show wpAny _ _ (forIn vs _ _) _ _ s
        rw [← Array.forIn_toList]
        refine wpAny_forIn_list _ (fun todo b s' => b.1 = none ∧ s' = s ∧ ∀ v ∈ todo, ∀ (A : Around) (Q : Bool → Shared → Prop), Q true s → wpAny (model P w) A (hashByValue n v) Q E s) _ ?_ ?_ _ _ ⟨rfl, rfl, hashBy_raws ds _ n s hi (by omega)⟩
        · rintro v todo b s' ⟨hb, rfl, all⟩
          refine wpAny_bind (all v List.mem_cons_self _ _ ?_)
          simp only [Bool.not_true, Bool.false_eq_true, if_false]
          exact wpAny_pure ⟨rfl, rfl, fun u hu => all u (List.mem_cons_of_mem _ hu)⟩
        · rintro ⟨b1, b2⟩ s' ⟨hb, rfl, _⟩
          simp only at hb
          subst hb
          exact wpAny_pure q
  | .none, _, _, _, _, _, r, _, _ => by cases r
  | .bool _, _, _, _, _, _, r, _, _ => by cases r
  | .str _, _, _, _, _, _, r, _, _ => by cases r
  | .list _, _, _, _, _, _, r, _, _ => by cases r
  | .dict _, _, _, _, _, _, r, _, _ => by cases r
theorem hashBy_raws : ∀ (ds : List PyData) (vs : List Value) (n : Nat) (s : Shared), Raws s.heap ds vs → PyData.depthAll ds ≤ n → ∀ v ∈ vs, ∀ (A : Around) (Q : Bool → Shared → Prop), Q true s → wpAny (model P w) A (hashByValue n v) Q E s
  | [], _, n, s, r, _, v, hv => by cases r; cases hv
  | d :: ds, _, n, s, r, hn, v, hv => by
    cases r with
    | cons a b =>
      simp only [PyData.depthAll] at hn
      intro A Q q
      rcases List.mem_cons.mp hv with rfl | hv
      · exact hashBy_raw d _ n A s Q a (by omega) q
      · exact hashBy_raws ds _ n s b (by omega) v hv A Q q
end
end
end LK
set_option autoImplicit false
set_option linter.all false
set_option maxRecDepth 100000
set_option Elab.async false
namespace LK
open PySem PySem.Spec L2
/-! ### sets of at most four such tuples -/
section
variable {P : Program} {w : World} {A : Around} {E : Value → Shared → Prop} {s : Shared}
abbrev hz (w : World) (d : PyData) : Int := (kOf d).hash w
/-- what may stand in such a set -/
def El (h : Heap) (d : PyData) (b : Addr) : Prop := Raw h d (.ref b) ∧ tame d = true ∧ d.depth ≤ 8
theorem El.is {h : Heap} {d : PyData} {b : Addr} (x : El h d b) : (nestedKind P w).is h (kOf d) b :=
  ⟨Raw.key _ _ x.1, Nat.le_trans (kOf_deep d x.2.1) x.2.2⟩
theorem El.uniq {h : Heap} {d e : PyData} {b : Addr} (x : El h d b) (y : El h e b) : d = e := Raw.uniq _ _ _ x.1 y.1
theorem El.moved {h h' : Heap} {d : PyData} {b : Addr} (x : El h d b) (k : ∀ a o vs n, h.get? a = some o → o.data = .seq vs n → h'.get? a = some o) : El h' d b := ⟨Raw.moved k _ _ x.1, x.2⟩
abbrev Els := List (Addr × PyData)
def pairsOf (w : World) (L : Els) : List (Int × Value) := L.map fun p => (hz w p.2, Value.ref p.1)
structure Few (P : Program) (w : World) (h : Heap) (a : Addr) (L : Els) (es : Array (Int × Value)) (ep : Nat) (t : SetTable) : Prop where
  at_ : ∃ o, h.get? a = some o ∧ o.ExactSet ∧ o.data = .set es ep t
  cells : es.toList = pairsOf w L
  tab : TabOk t (L.map fun p => hz w p.2)
  each : (L.map (·.2)).Nodup
  els : ∀ p ∈ L, El h p.2 p.1
  pln : t.plain = true
  led : w.params.followText "set-order" = true ∨ t.led = true
  m7 : t.mask = 7
  few : L.length ≤ 4
variable {a : Addr} {L : Els} {es : Array (Int × Value)} {ep : Nat} {t : SetTable}
theorem Few.sz (R : Few P w s.heap a L es ep t) : es.size = L.length := by
  have q := congrArg List.length R.cells
  unfold pairsOf at q
  rwa [Array.length_toList, List.length_map] at q
theorem Few.psz (R : Few P w s.heap a L es ep t) : t.place.size = L.length := by
  have q := R.tab.sz
  rwa [List.length_map] at q
theorem Few.fit (R : Few P w s.heap a L es ep t) : t.fits es.size = true := by
  have h1 := R.psz
  have h2 := R.sz
  have h3 := R.few
  have h4 := R.m7
  have h5 := R.tab.dm
  unfold SetTable.fits SetTable.fill
  rw [h5, Bool.and_eq_true, beq_iff_eq, decide_eq_true_eq]
  simp only [List.size_toArray, List.length_nil]
  omega
theorem Few.at_i (R : Few P w s.heap a L es ep t) {i : Nat} {p : Addr × PyData} (h : L[i]? = some p) : es[i]? = some (hz w p.2, Value.ref p.1) := by
  rw [← Array.getElem?_toList, R.cells]
  unfold pairsOf
  rw [List.getElem?_map, h]
  rfl
theorem Few.stays (R : Few P w s.heap a L es ep t) : ¬ t.gaveWay = true := by
  unfold SetTable.gaveWay
  rw [R.m7]
  decide
/-- to search among these shows nothing -/
theorem seen_els {d : PyData} {b : Addr} {Q : Bool → Shared → Prop} (x : El s.heap d b) {ys : List Value} (hy : ∀ y ∈ ys, ∃ e c, y = Value.ref c ∧ El s.heap e c) (q : Q false s) :
    wpAny (model P w) A (searchCouldBeSeen (.ref b) ys) Q E s := by
  unfold searchCouldBeSeen
  refine wpAny_bind ?_
  refine wpAny_forIn_list _ (fun todo r s' => r.1 = none ∧ s' = s ∧ ∀ y ∈ todo, ∃ e c, y = Value.ref c ∧ El s.heap e c) _ ?_ ?_ _ _ ⟨rfl, rfl, hy⟩
  · rintro v todo r s' ⟨hr, rfl, all⟩
    obtain ⟨e, c, rfl, z⟩ := all v List.mem_cons_self
    have more : ∀ y ∈ todo, ∃ e c, y = Value.ref c ∧ El s'.heap e c := fun u hu => all u (List.mem_cons_of_mem _ hu)
    dsimp only
    by_cases hv : (b == c || (carriedByValue (.ref b) && carriedByValue (.ref c))) = true
    · refine wp_if_pos hv ?_
      exact wpAny_pure ⟨rfl, rfl, more⟩
    · refine wp_if_neg hv ?_
      refine wpAny_bind ((nestedKind P w).quiet x.is ?_)
      simp only [Bool.not_true, Bool.false_eq_true, if_false]
      refine wpAny_bind ((nestedKind P w).quiet z.is ?_)
      simp only [Bool.not_true, Bool.false_eq_true, if_false]
      refine wpAny_bind (ofA_raw _ _ _ _ _ _ x.1 x.2.2 ?_)
      simp only [Bool.false_eq_true, if_false]
      refine wpAny_bind (ofA_raw _ _ _ _ _ _ z.1 z.2.2 ?_)
      simp only [Bool.false_eq_true, if_false]
      exact wpAny_pure ⟨rfl, rfl, more⟩
  · rintro ⟨r1, r2⟩ s' ⟨hr, rfl, _⟩
    simp only at hr
    subst hr
    exact wpAny_pure q
/-- the c-th state of a search -/
abbrev stepAt (t : SetTable) (g : Int) (c : Nat) : SetTable.Probe := nth t.mask (runAt t.mask (SetTable.bits g % (t.mask + 1)) (SetTable.bits g)) c
theorem no_dummy (m : Nat) : ∀ (n : Nat) (p : SetTable.Probe), p.dummy = none → (nth m p n).dummy = none
  | 0, _, h => h
  | n + 1, p, h => no_dummy m n (adv m p) (by unfold adv; split <;> exact h)
/-- the search, on from the c-th step -/
theorem look_on (R : Few P w s.heap a L es ep t) {x : Addr} {d : PyData} (hx : El s.heap d x) (hu : A.units + 8 < cLine) {N : Nat} (nf : N < 10 * SetTable.turns t.mask)
    (nn : way t.mask (hz w d) N ∉ t.place.toList) (nb : ∀ c, c < N → way t.mask (hz w d) c ∈ t.place.toList) {Q : SetFound → Shared → Prop}
    (qi : d ∈ L.map (·.2) → Q (.there none) s) (qo : d ∉ L.map (·.2) → Q (.free (way t.mask (hz w d) N) false) s) :
    ∀ (f c : Nat) (st : Option SetTable.Probe), st.getD (t.probeStart (hz w d)) = stepAt t (hz w d) c → c ≤ N → N - c < f →
      (∀ (i : Nat) p, L[i]? = some p → p.2 = d → ∃ c', c ≤ c' ∧ c' < N ∧ t.place.toList[i]? = some (way t.mask (hz w d) c')) →
      wpAny (model P w) A (setSearchFrom a (.ref x) (hz w d) true f st) Q E s
  | 0, c, st, _, _, hf, _ => absurd hf (Nat.not_lt_zero _)
  | f + 1, c, st, hst, hc, hf, mine => by
    obtain ⟨o, ho, hex, hd⟩ := R.at_
    rw [setSearchFrom_succ]
    refine wpAny_bind (wpAny_setState_of ho hd R.fit ?_)
    dsimp only
    refine wp_if_neg R.stays ?_
    try refine wpAny_bind (wpAny_pure ?_)
    have on : ∀ q, nth t.mask (stepAt t (hz w d) c) q = stepAt t (hz w d) (c + q) := fun q => (nth_add t.mask c _ q).symm
    have onj : ∀ q, (nth t.mask (stepAt t (hz w d) c) q).j = way t.mask (hz w d) (c + q) := fun q => congrArg SetTable.Probe.j (on q)
    have told := go_spec t R.tab.ris R.tab.dm (fun i => (es[i]?.map (·.1)).getD 0) (hz w d) (10 * SetTable.turns t.mask) (N - c) (stepAt t (hz w d) c) (no_dummy _ c _ rfl) (by omega)
      (fun q hq => by rw [onj]; exact nb (c + q) (by omega)) (by rw [onj, show c + (N - c) = N by omega]; exact nn)
    have hashAt : ∀ (i : Nat) p, L[i]? = some p → (fun i => (es[i]?.map (·.1)).getD 0) i = hz w p.2 := fun i p hp => by
      show (es[i]?.map (·.1)).getD 0 = _
      rw [R.at_i hp]
      rfl
    rcases told with ⟨q, i, hq, hi, hh, hno, hpr⟩ | ⟨hno, hpr⟩
    · have met : t.probe (fun i => (es[i]?.map (·.1)).getD 0) (hz w d) (st.getD (t.probeStart (hz w d))) = some (.candidate (way t.mask (hz w d) (c + q)) i (stepAt t (hz w d) (c + (q + 1)))) := by
        rw [hst, ← onj, ← on]
        exact hpr
      rw [met]
      dsimp only
      rw [onj] at hi
      have hil : i < L.length := by
        have h1 : i < t.place.toList.length := (List.getElem?_eq_some_iff.mp hi).1
        have h2 := R.psz
        rw [Array.length_toList] at h1
        omega
      obtain ⟨p, hp⟩ : ∃ p, L[i]? = some p := ⟨_, List.getElem?_eq_getElem hil⟩
      have mem : p ∈ L := List.mem_of_getElem? hp
      have pe := R.els p mem
      have rest : wpAny (model P w) A (searchRest a (.ref x) (hz w d) true f es t (way t.mask (hz w d) (c + q)) i (stepAt t (hz w d) (c + (q + 1)))) Q E s := by
        unfold searchRest
        rw [R.at_i hp]
        dsimp only
        refine wpAny_bind (wpAny_holding ((nestedKind P w).eqBool hu pe.is hx.is ?_))
        refine wpAny_bind (wpAny_setState_of ho hd R.fit ?_)
        dsimp only
        by_cases same : p.2 = d
        · refine wp_if_pos (by simp [same]) ?_
          refine wpAny_pure (qi ?_)
          exact List.mem_map.mpr ⟨p, mem, same⟩
        · have ks : ¬ kOf p.2 = kOf d := fun z => same (kOf_inj _ _ pe.2.1 hx.2.1 z)
          refine wp_if_neg (by simp [ks]) ?_
          try refine wpAny_bind (wpAny_pure ?_)
          rw [sameMem]
          dsimp only
          have sl : t.slot (way t.mask (hz w d) (c + q)) = .live i := slot_live R.tab.ris hi
          simp only [if_true, sl, R.at_i hp]
          refine wpAny_bind (wpAny_isSame_ref_self (wpAny_bind (wpAny_pure ?_)))
          simp only [if_true]
          refine wp_if_neg (by simp [ks]) ?_
          refine look_on R hx hu nf nn nb qi qo f (c + (q + 1)) _ rfl (by omega) (by omega) fun i0 p0 h0 d0 => ?_
          obtain ⟨c', a1, a2, a3⟩ := mine i0 p0 h0 d0
          refine ⟨c', ?_, a2, a3⟩
          rcases Nat.lt_trichotomy c' (c + q) with z | z | z
          · exfalso
            refine hno (c' - c) i0 (by omega) (by rw [onj, show c + (c' - c) = c' by omega]; exact a3) ?_
            exact (hashAt i0 p0 h0).trans (congrArg (hz w) d0)
          · exfalso
            rw [z] at a3
            have s0 := slot_live R.tab.ris a3
            rw [sl] at s0
            injection s0 with s0
            rw [← s0, hp] at h0
            exact same ((congrArg Prod.snd (Option.some.inj h0)).trans d0)
          · omega
      by_cases hl : t.led = true
      · refine wp_if_neg (by simp [hl]) ?_
        try refine wpAny_bind (wpAny_pure ?_)
        exact rest
      · refine wp_if_pos (by simp [hl]) ?_
        refine wpAny_bind (seen_els hx (fun y hy => ?_) ?_)
        · obtain ⟨e, he, ee⟩ := List.mem_map.mp hy
          have he1 : e ∈ es ∧ e.1 = hz w d := by simpa using he
          have he2 : e ∈ es.toList := by simpa using he1.1
          rw [R.cells] at he2
          obtain ⟨p2, hp2, e2⟩ := List.mem_map.mp he2
          exact ⟨p2.2, p2.1, by rw [← ee, ← e2], R.els p2 hp2⟩
        · refine wp_if_neg (by decide) ?_
          try refine wpAny_bind (wpAny_pure ?_)
          exact rest
    · have met : t.probe (fun i => (es[i]?.map (·.1)).getD 0) (hz w d) (st.getD (t.probeStart (hz w d))) = some (.empty (way t.mask (hz w d) N) none) := by
        have e2 : way t.mask (hz w d) N = (nth t.mask (stepAt t (hz w d) c) (N - c)).j := by rw [onj, show c + (N - c) = N by omega]
        rw [hst, e2]
        exact hpr
      rw [met]
      dsimp only
      refine wpAny_pure (qo fun hm => ?_)
      obtain ⟨p0, h0, d0⟩ := List.mem_map.mp hm
      obtain ⟨i0, hi0, e0⟩ := List.getElem_of_mem h0
      have h00 : L[i0]? = some p0 := by rw [List.getElem?_eq_getElem hi0, e0]
      obtain ⟨c', a1, a2, a3⟩ := mine i0 p0 h00 d0
      refine hno (c' - c) i0 (by omega) (by rw [onj, show c + (c' - c) = c' by omega]; exact a3) ?_
      exact (hashAt i0 p0 h00).trans (congrArg (hz w) d0)
theorem look_at (R : Few P w s.heap a L es ep t) {x : Addr} {d : PyData} (hx : El s.heap d x) (hu : A.units + 8 < cLine) {Q : SetFound → Shared → Prop} (qi : d ∈ L.map (·.2) → Q (.there none) s)
    (qo : ∀ N, d ∉ L.map (·.2) → way t.mask (hz w d) N ∉ t.place.toList → (∀ c, c < N → way t.mask (hz w d) c ∈ t.place.toList) → Q (.free (way t.mask (hz w d) N) false) s) :
    wpAny (model P w) A (setSearch a (.ref x) (hz w d) true) Q E s := by
  have fw := R.few
  have m7 := R.m7
  obtain ⟨N, nf, nn, nb⟩ := R.tab.first (by rw [List.length_map]; omega) (hz w d)
  have small : N < 100000 := by
    have : 10 * SetTable.turns t.mask ≤ 1420 := by
      unfold SetTable.turns
      omega
    omega
  unfold setSearch
  refine look_on R hx hu nf nn nb qi (fun hn => qo N hn nn nb) 100000 0 none rfl (Nat.zero_le _) (by omega) fun i p hp hd => ?_
  have hi : (L.map fun p => hz w p.2)[i]? = some (hz w d) := by rw [List.getElem?_map, hp, ← hd]; rfl
  have hil : i < t.place.toList.length := by
    have h1 : i < L.length := (List.getElem?_eq_some_iff.mp hp).1
    have h2 := R.psz
    rw [Array.length_toList]
    omega
  have hj := List.getElem?_eq_getElem hil
  obtain ⟨c, hc, e⟩ := R.tab.before nn hi hj
  exact ⟨c, Nat.zero_le _, hc, by rw [hj, e]⟩
theorem El.kept {d : PyData} {b : Addr} {h h' : Heap} {o : Obj} (x : El h d b) (ho : h.get? a = some o) (hd : o.data = .set es ep t) (sb : Heap.SameBut a h h') : El h' d b :=
  x.moved fun c oc vs n hc he => (sb.2 c (by
    rintro rfl
    rw [ho] at hc
    cases hc
    rw [hd] at he
    cases he)).trans hc
/-- one more is put in -/
theorem put_el (R : Few P w s.heap a L es ep t) {x : Addr} {d : PyData} (hx : El s.heap d x) (hu : A.units + 8 < cLine) (hl : d ∉ L.map (·.2) → L.length < 4) {Q : Bool → Shared → Prop}
    (q : ∀ b h' L' es' ep' t', Heap.SameBut a s.heap h' → Few P w h' a L' es' ep' t' → (d ∈ L.map (·.2) → L' = L) → (d ∉ L.map (·.2) → L'.Perm ((x, d) :: L)) → Q b { s with heap := h' }) :
    wpAny (model P w) A (setAddHashed a (.ref x) (hz w d)) Q E s := by
  obtain ⟨o, ho, hex, hd⟩ := R.at_
  have esz := R.sz
  have m7 := R.m7
  unfold setAddHashed
  refine wpAny_holding ?_
  rw [show (100000 : Nat) = 99999 + 1 from rfl, setAddHashedIn_succ]
  refine wpAny_bind (wpAny_setState_of ho hd R.fit ?_)
  dsimp only
  refine wp_if_neg (by simp [byScan, Value.scannable]) ?_
  try refine wpAny_bind (wpAny_pure ?_)
  refine wpAny_bind (look_at R hx hu (fun hm => ?_) fun N hm nn nb => ?_)
  · dsimp only
    exact wpAny_pure (q false s.heap L es ep t (Heap.SameBut.refl a s.heap) R (fun _ => rfl) fun z => absurd hm z)
  · have few1 := hl hm
    dsimp only
    refine wpAny_bind (wpAny_setState_of ho hd R.fit ?_)
    dsimp only
    obtain ⟨q1, q2, q3, q4, q5, q6, q7, q8, q9⟩ := R.tab.put nn nb
    have pl1 : (t.put (way t.mask (hz w d) N)).1.plain = true := by rw [q6]; exact R.pln
    generalize hpt : t.put (way t.mask (hz w d) N) = pt at q1 q3 q4 q5 q6 q7 q8 q9 pl1 ⊢
    obtain ⟨t1, p⟩ := pt
    dsimp only at q1 q3 q4 q5 q6 q7 q8 q9 pl1 ⊢
    subst q1
    first
      | (refine wpAny_bind ?_; refine wp_if_pos pl1 ?_; refine hashBy_raw _ _ _ _ _ _ hx.1 hx.2.2 ?_)
      | refine wp_if_pos pl1 (wpAny_bind (hashBy_raw _ _ _ _ _ _ hx.1 hx.2.2 ?_))
    simp only [if_true]
    generalize SetTable.below t.place (way t.mask (hz w d) N) = p at q2 q3 ⊢
    have inl : (SetTable.insertAt es p (hz w d, Value.ref x)).toList = pairsOf w (L.take p ++ (x, d) :: L.drop p) := by
      rw [SetTable.toList_insertAt, R.cells]
      unfold pairsOf
      rw [List.map_append, List.map_cons, List.map_take, List.map_drop]
    have pm := put_perm L p (x, d)
    have len1 : (L.take p ++ (x, d) :: L.drop p).length = L.length + 1 := pm.length_eq
    have hs1 : (L.take p ++ (x, d) :: L.drop p).map (fun p => hz w p.2) = (L.map fun p => hz w p.2).take p ++ hz w d :: (L.map fun p => hz w p.2).drop p := by
      rw [List.map_append, List.map_cons, List.map_take, List.map_drop]
    rw [← hs1] at q3
    have nd1 : ((L.take p ++ (x, d) :: L.drop p).map (·.2)).Nodup := by
      refine (pm.map (·.2)).nodup_iff.mpr ?_
      rw [List.map_cons]
      exact List.nodup_cons.mpr ⟨hm, R.each⟩
    have es1 : (SetTable.insertAt es p (hz w d, Value.ref x)).size = L.length + 1 := by
      have z := congrArg List.length inl
      unfold pairsOf at z
      rwa [Array.length_toList, List.length_map, len1] at z
    generalize SetTable.insertAt es p (hz w d, Value.ref x) = ar at inl es1 ⊢
    generalize L.take p ++ (x, d) :: L.drop p = L1 at pm len1 q3 nd1 inl
    refine wpAny_bind (wpAny_storeSet_of ho hd ?_ (by rw [es1, sizeLine_eq]; omega))
    have sb : Heap.SameBut a s.heap (s.heap.update a (Obj.putSet ar t1)) := Heap.SameBut.update ..
    have ho1 := store_at (es' := ar) (t' := t1) ho hd
    generalize s.heap.update a (Obj.putSet ar t1) = h1 at sb ho1 ⊢
    have els1 : ∀ p ∈ L1, El h1 p.2 p.1 := fun p hp => by
      rcases List.mem_cons.mp (pm.mem_iff.mp hp) with e | hp
      · rw [e]; exact hx.kept ho hd sb
      · exact (R.els p hp).kept ho hd sb
    have nofull : ¬ t1.tooFull = true := by
      unfold SetTable.tooFull
      rw [decide_eq_true_eq, q9, List.length_map, q4]
      omega
    first
      | refine wp_if_neg (by simp [nofull]) ?_
      | (refine wpAny_bind ?_; refine wp_if_neg (by simp [nofull]) ?_; refine wpAny_pure ?_)
    refine wpAny_pure (q true h1 L1 ar (ep + 1) t1 sb ⟨⟨_, ho1, ⟨hex.1, hex.2.1, hex.2.2⟩, rfl⟩, inl, q3, nd1, els1, pl1, by rw [q5]; exact R.led, by rw [q4]; exact m7, by omega⟩ (fun z => absurd z hm) fun _ => pm)
theorem few_new {h : Heap} (ho : h.get? a = some { cls := .type "set", dict := none, data := .set #[] 0 (.fresh 0 0 (!w.params.followText "set-order")) }) : Few P w h a [] #[] 0 (.fresh 0 0 (!w.params.followText "set-order")) where
  at_ := ⟨_, ho, ⟨rfl, rfl, rfl⟩, rfl⟩
  cells := rfl
  tab := ⟨List.Pairwise.nil, rfl, rfl, .inl rfl, fun x hx => (by cases hx), fun i h j hi => (by simp at hi)⟩
  each := List.nodup_nil
  els := fun p hp => (by cases hp)
  pln := rfl
  led := by
    show _ ∨ (!w.params.followText "set-order") = true
    cases w.params.followText "set-order"
    · exact .inr rfl
    · exact .inl rfl
  m7 := rfl
  few := Nat.zero_le _
end
end LK
set_option autoImplicit false
set_option linter.all false
set_option maxRecDepth 100000
set_option Elab.async false
namespace LK
open PySem PySem.Spec L2
/-! ### {x for ..} of such data, and sorted of it -/
structure Few0 (P : Program) (w : World) (h : Heap) (a : Addr) (L : Els) : Prop where
  ex : ∃ (es : Array (Int × Value)) (ep : Nat) (t : SetTable), (∃ o, h.get? a = some o ∧ o.ExactSet ∧ o.data = .set es ep t) ∧ es.toList = pairsOf w L ∧ TabOk t (L.map fun p => hz w p.2) ∧ (L.map (·.2)).Nodup ∧ t.plain = true ∧
    (w.params.followText "set-order" = true ∨ t.led = true) ∧ t.mask = 7 ∧ L.length ≤ 4
def FewO (P : Program) (w : World) (a : Addr) (L : Els) : HO := .ext fun h => Few0 P w h a L
theorem Few.bare {P : Program} {w : World} {h : Heap} {a : Addr} {L : Els} {es : Array (Int × Value)} {ep : Nat} {t : SetTable} (R : Few P w h a L es ep t) : Few0 P w h a L :=
  ⟨es, ep, t, R.at_, R.cells, R.tab, R.each, R.pln, R.led, R.m7, R.few⟩
theorem Few0.full {P : Program} {w : World} {h : Heap} {a : Addr} {L : Els} (R : Few0 P w h a L) (q : ∀ p ∈ L, El h p.2 p.1) : ∃ es ep t, Few P w h a L es ep t := by
  obtain ⟨es, ep, t, h1, h2, h3, h4, h5, h6, h7, h8⟩ := R.ex
  exact ⟨es, ep, t, h1, h2, h3, h4, q, h5, h6, h7, h8⟩
theorem fewO_ok {P : Program} {w : World} {H : Hp} {h : Heap} {a : Addr} {L : Els} (R : Few0 P w h a L) : ObjOk P w H h a (FewO P w a L) := by
  have ⟨es, ep, t, ⟨o, ho, r⟩, q⟩ := R.ex
  refine ⟨R, ⟨o, ho⟩, fun h1 h2 p k => ?_⟩
  have ⟨es', ep', t', ⟨o', ho', r'⟩, q'⟩ := Few0.ex p
  exact ⟨es', ep', t', ⟨o', k o' ho', r'⟩, q'⟩
/-- an element, told -/
def TEl (H : Hp) (d : PyData) (b : Addr) : Prop := Td H (.ref b) d ∧ tame d = true ∧ d.depth ≤ 8
section
variable {X : Cx} {pins : List (Addr × Obj)} {σ : St} {H : Hp} {s : Shared}
theorem TEl.el (I : Inv X pins σ H s) {d : PyData} {b : Addr} (x : TEl H d b) : El s.heap d b := ⟨td_raw I _ _ _ x.1 rfl, x.2⟩
theorem lays_few : LaysNew X (newSet (.type "set")) (fun D => FewO X.prog X.w D []) := fun pins σ H s Q E I h => by
  unfold newSet setsByText
  refine wpAny_bind (wpAny_bind (wpAny_askSetting ?_))
  have hf : Few0 X.prog X.w (s.heap.push { cls := .type "set", dict := none, data := .set #[] 0 (.fresh 0 0 (!X.w.params.followText "set-order")) }) s.heap.objs.size [] :=
    (few_new (P := X.prog) (Heap.get?_push_size _ rfl)).bare
  refine wpAny_pure ?_
  exact wpAny_newObj_type (h s.heap.objs.size { s with heap := s.heap.push { cls := .type "set", dict := none, data := .set #[] 0 (.fresh 0 0 (!X.w.params.followText "set-order")) } } (Nat.le_refl _) (I.laid (t' := s.toks) (fun b o e => Heap.get?_push_of_some _ e) (Nat.le_refl _) (fewO_ok hf)) fun b o e => Heap.get?_push_of_some _ e)
def mSet (e : Expr) : Value → Env → Sem Unit := fun acc env => do
  let v ← eval e env
  standAt e.pos
  let _ ← call (.builtin "set.add") [acc, v]
theorem form_set (e tg iter : Expr) (ifs : List Expr) (scope : Scope) (pos : Pos) : HasForm (.SetComp e [⟨tg, iter, ifs, 0⟩] scope pos) 0 tg iter ifs (mSet e) :=
  ⟨rfl, fun _ _ _ => rfl, fun _ _ _ _ _ => rfl, fun _ _ _ _ _ => rfl, fun _ _ _ _ => rfl, fun _ _ _ _ => rfl⟩
def tmSet (P : Program) (w : World) (te : TE) : TM := fun σ H D Nx => te σ H fun y H1 => ∃ (L : Els) (b : Addr) (d : PyData), y = .ref b ∧ TEl H1 d b ∧ H1 D = some (FewO P w D L) ∧ (∀ p ∈ L, TEl H1 p.2 p.1) ∧ (d ∉ L.map (·.2) → L.length < 4) ∧
  ∀ L', (d ∈ L.map (·.2) → L' = L) → (d ∉ L.map (·.2) → L'.Perm ((b, d) :: L)) → Nx (upd H1 D (FewO P w D L'))
theorem mid_set {e : Expr} {te : TE} {vs : List Nat} (hu : X.A.units + 64 < cLine) (he : PE X e te) (hx : X.xe = fun _ _ => False) : PMid X (mSet e) (tmSet X.prog X.w te) vs := by
  refine ⟨fun pins s σ H D Nx I h => ?_⟩
  refine wpAny_bind (thn (he.run pins s σ H _ I h) fun u s1 ⟨y, H1, I1, r1, L, b, d, ey, td, hD, tL, hl, nx⟩ => ?_)
  subst ey
  obtain rfl : u = Value.ref b := r1
  refine wpAny_bind (wpAny_standAt (wpAny_bind ?_))
  have R0 : Few0 X.prog X.w s1.heap D L := (I1.hok D _ hD).1
  obtain ⟨es, ep, t, R⟩ := R0.full fun p hp => (tL p hp).el I1
  obtain ⟨o, ho, hex, hd⟩ := R.at_
  refine wpAny_call_entry F.slot_set_add ⟨o, ho, hex.1⟩ F.entry_set_add ?_ (F.args_set_add_2 _ _)
  unfold Builtin.«set.add» Builtin.Frozenset.oneOther
  simp only [List.isEmpty_nil, bind_assoc]
  unfold Builtin.Frozenset.addrOf setAdd
  refine wpAny_bind (wpAny_pure ?_)
  try dsimp only
  refine wpAny_bind (wpAny_pure ?_)
  try dsimp only
  refine wpAny_bind ?_
  refine wpAny_holding ?_
  have ru : X.A.in1.units + 8 < cLine := by
    rw [Around.in1_units]
    omega
  refine wpAny_bind ((nestedKind X.prog X.w).pyHash ru (td.el I1).is ?_)
  have I2 := I1.tok (s1.toks + (nestedKind X.prog X.w).draws (kOf d))
  refine put_el (s := { s1 with toks := s1.toks + (nestedKind X.prog X.w).draws (kOf d) }) R (td.el I1) ru hl fun bb h' L' es' ep' t' sb R' k1 k2 => ?_
  show wpAny _ _ (ret Value.none) _ _ _
  refine wpAny_pure ⟨_, rfl, wpAny_pure ?_⟩
  have ⟨o', ho', _⟩ := R'.at_
  exact ⟨σ, upd H1 D (FewO X.prog X.w D L'), I1.write (e := D) (t' := s1.toks + (nestedKind X.prog X.w).draws (kOf d)) (by rw [hD]; trivial) (.inl rfl) (fun b u hb hu => (sb.2 b hb).trans hu) ⟨o', ho'⟩ (fewO_ok R'.bare), rfl, fun _ _ e _ => e, nx L' k1 k2⟩
variable {e tg iter : Expr} {ifs : List Expr} {scope : Scope} {own : List (Str × Nat)} {pos : Pos} {wi : TI} {g : TG} {tt : TT} {te : TE}
theorem pe_scN (hu : X.A.units + 64 < cLine) (hc : X.calm = true) (hN : X.N.Nodup) (hi : PI X tg iter wi) (ok : BlkOk X.N X.env.scope scope own)
    (hg : ∀ (s : Shared) (H : Hp) (C : Addr) (cl : List (Str × Addr)) (fp : List Addr), PG (X.blk s H scope (compEnvC scope cl C X.env) fp) tg g)
    (ht : ∀ (s : Shared) (H : Hp) (C : Addr) (cl : List (Str × Addr)) (fp : List Addr), PTs (X.blk s H scope (compEnvC scope cl C X.env) fp) ifs tt)
    (he : ∀ (s : Shared) (H : Hp) (C : Addr) (cl : List (Str × Addr)) (fp : List Addr), PE (X.blk s H scope (compEnvC scope cl C X.env) fp) e te)
    (hs : ∀ x, foldedSetIterable iter X.env x = pure x := by intro _; rfl) :
    PE X (.SetComp e [⟨tg, iter, ifs, 0⟩] scope pos) (tComp (fun D => FewO X.prog X.w D []) wi g tt (tmSet X.prog X.w te) (own.map (·.2))) := by
  refine ⟨fun pins s σ H Q I h => ?_⟩
  rw [arm_eval_SetComp]
  exact comp_core hc hN I rfl (form_set e tg iter ifs scope pos) hi ok lays_few hg ht (fun s H C cl fp => mid_set (X := X.blk s H scope (compEnvC scope cl C X.env) fp) hu (he s H C cl fp) rfl) hs h comp_val
end
/-- what is a list of images is the images of a list -/
theorem perm_back {α β : Type} (f : α → β) : ∀ (L : List α) (l : List β), l.Perm (L.map f) → ∃ M : List α, M.Perm L ∧ l = M.map f
  | [], l, h => ⟨[], .refl _, by simpa using h.eq_nil⟩
  | x :: L, l, h => by
    have hm : f x ∈ l := h.mem_iff.mpr (by simp)
    obtain ⟨l1, l2, rfl⟩ := List.append_of_mem hm
    have h2 : (l1 ++ l2).Perm (L.map f) := ((List.perm_middle.symm.trans h)).cons_inv
    obtain ⟨M, hM, e⟩ := perm_back f L _ h2
    obtain ⟨A, B, rfl, rfl, rfl⟩ := List.map_eq_append_iff.mp e.symm
    refine ⟨A ++ x :: B, List.perm_middle.trans (hM.cons x), by simp⟩
section
variable {X : Cx} {α : Type}
def elsOf (E : Enc α) (M : List (Addr × α)) : Els := M.map fun p => (p.1, E.e p.2)
theorem each_of {β : Type} {R : Value → β → Prop} : ∀ (M : List (Value × β)), (∀ p, p ∈ M → R p.1 p.2) → PySem.W.EachIs R (M.map (·.1)) (M.map (·.2))
  | [], _ => .nil
  | p :: M, h => .cons (h p List.mem_cons_self) (each_of M fun q hq => h q (List.mem_cons_of_mem _ hq))
/-- sorted of the set -/
def rSortedN (P : Program) (w : World) (E : Enc α) : List V → Hp → VK → Prop := fun vs H Q => ∃ (a : Addr) (M : List (Addr × α)), vs = [V.ref a] ∧ H a = some (FewO P w a (elsOf E M)) ∧ (∀ p, p ∈ M → Tl E H (.ref p.1) p.2) ∧ (∀ p, p ∈ M → ∃ x r, E.e p.2 = .tuple (x :: r)) ∧ E.d ≤ 8 ∧
  ∀ p ys, H p = none → Ts E H ys ((M.map (·.2)).mergeSort (le E)) → Q (.ref p) (upd H p (.lst ys))
theorem cr_sortedN (E : Enc α) (hc : X.calm = true) (hu : X.A.units + 64 < cLine) : CallR X (.builtin "sorted") (rSortedN X.prog X.w E) := by
  intro pins s σ H vs us Q I r h
  obtain ⟨a, M, rfl, ha, ht, hne, hdd, q⟩ := h
  rw [Vals.ref1 r]
  have R0 : Few0 X.prog X.w s.heap a (elsOf E M) := (I.hok a _ ha).1
  have tels : ∀ p, p ∈ elsOf E M → TEl H p.2 p.1 := fun p hp => by
    obtain ⟨m, hm, rfl⟩ := List.mem_map.mp hp
    exact ⟨ht m hm, E.tame _, Nat.le_trans (E.dep _) hdd⟩
  obtain ⟨es, ep, t, R⟩ := R0.full fun p hp => (tels p hp).el I
  obtain ⟨o, ho, hex, hd⟩ := R.at_
  have esz := R.sz
  have few := R.few
  have lenM : (elsOf E M).length = M.length := List.length_map ..
  refine Calls.call_function_entry PyProof.Rows.kind_sorted PyProof.Rows.plain_sorted PyProof.Rows.entry_sorted (PyProof.Rows.args_sorted1 _) ?_
  unfold Builtin.«sorted»
  refine wpAny_bind (m := checkCount "sorted" 1 1 _) (wpAny_pure ?_)
  refine wpAny_bind (collect_set (A := X.A.in1) (I.ok.hd hc) ⟨o, ho, hex.1, hd⟩ R.fit (by unfold scanBound; omega) R.tab.ris R.led fun s1 vs k1 hz1 g1 o1 pm => ?_)
  have hes : es.toList.map (·.2) = M.map fun p => Value.ref p.1 := by
    rw [R.cells]
    unfold pairsOf elsOf
    rw [List.map_map, List.map_map]
    rfl
  rw [hes] at pm
  obtain ⟨N, hN, rfl⟩ := perm_back _ _ _ pm
  have lenN : N.length = M.length := hN.length_eq
  refine wpAny_bind (wpAny_newList ?_ (by rw [sizeLine_eq, List.length_map]; omega))
  have hoL : (s1.heap.push (PyProof.Rows.seqObj "list" (N.map fun p => Value.ref p.1).toArray 0)).get? s1.heap.objs.size = some (PyProof.Rows.seqObj "list" (N.map fun p => Value.ref p.1).toArray 0) := Heap.get?_push_size _ rfl
  have lt1 : ∀ b o, s.heap.get? b = some o → (s1.heap.push (PyProof.Rows.seqObj "list" (N.map fun p => Value.ref p.1).toArray 0)).get? b = some o := fun b o e => Heap.get?_push_of_some _ (k1 b o e)
  have raw : ∀ p, p ∈ N → Raw s.heap (E.e p.2) (.ref p.1) := fun p hp => td_raw I _ _ _ (ht p (hN.mem_iff.mp hp)) rfl
  have each : PySem.W.EachIs (fun (u : Value) (b : α) => ∃ x, RelV x u ∧ Tl E H x b) (N.map fun p => Value.ref p.1) (N.map (·.2)) := by
    have z := each_of (R := fun (u : Value) (b : α) => ∃ x, RelV x u ∧ Tl E H x b) (N.map fun p => (Value.ref p.1, p.2)) fun q hq => by
      obtain ⟨p, hp, rfl⟩ := List.mem_map.mp hq
      exact ⟨.ref p.1, rfl, ht p (hN.mem_iff.mp hp)⟩
    simpa [List.map_map, Function.comp_def] using z
  have J1 : Inv X pins σ H { s with heap := (s1.heap.push (PyProof.Rows.seqObj "list" (N.map fun p => Value.ref p.1).toArray 0)), gens := s1.gens, drawn := s1.drawn, toks := s1.toks } :=
    I.call (ch := []) (Un.kept lt1) (I.hok.kept lt1) (by rw [g1]; exact I.bare) (fun _ z => nomatch z)
  have reads : PySem.W.EachIs (fun (v : Value) (b : α) => ∃ as, Reads (s1.heap.push (PyProof.Rows.seqObj "list" (N.map fun p => Value.ref p.1).toArray 0)) v (E.e b) as ∧ ¬ s1.heap.objs.size ∈ as) (N.map fun p => Value.ref p.1) (N.map (·.2)) :=
    each.mono fun u b z => by
      obtain ⟨x, rx, tx⟩ := z
      obtain ⟨as, ra⟩ := tl_reads I tx rx
      refine ⟨as, PyProof.Rows.Reads.keeps lt1 ra, fun hm => ?_⟩
      obtain ⟨o', ho'⟩ := PyProof.On.reads_mem_get ra _ hm
      exact absurd (Heap.lt_size (k1 _ _ ho')) (Nat.lt_irrefl _)
  refine wpAny_bind (wpAny_holding (PySem.W.list_sort_data (enc := E.e) hoL each reads (PySem.W.AllAlike.of E.alike) (.inl fun d hd => ?_) ?_ ?_ fun out lo eo => ?_))
  · obtain ⟨b, hb, rfl⟩ := List.mem_map.mp hd
    obtain ⟨p, hp, rfl⟩ := List.mem_map.mp hb
    exact hne p (hN.mem_iff.mp hp)
  · rw [List.length_map, sizeLine_eq]
    omega
  · intro b _
    have := E.dep b
    simp only [Around.in1_units]
    omega
  · obtain ⟨ys, ry, ty⟩ := each_vals eo
    obtain ⟨c, hc'⟩ := PyProof.Rows.sortedHeap_at (vs := N.map fun p => Value.ref p.1) (out := out.toArray) hoL
    have lys : ys.length ≤ sizeLine := by
      rw [ry.length, lo, List.length_map, sizeLine_eq]
      omega
    have kk : ∀ b o, s.heap.get? b = some o → (PyProof.Rows.sortedHeap (s1.heap.push (PyProof.Rows.seqObj "list" (N.map fun p => Value.ref p.1).toArray 0)) s1.heap.objs.size (N.map fun p => Value.ref p.1) out.toArray).get? b = some o := fun b o e => by
      have lt := Heap.lt_size (k1 _ _ e)
      rw [PyProof.Rows.sortedHeap_old (Nat.ne_of_lt lt) (by rw [PyProof.Rows.size_push']; exact Nat.lt_succ_of_lt lt)]
      exact lt1 b o e
    have hn : H s1.heap.objs.size = none := I.hok.fresh hz1
    have J : Inv X pins σ (upd H s1.heap.objs.size (.lst ys)) { s with heap := PyProof.Rows.sortedHeap (s1.heap.push (PyProof.Rows.seqObj "list" (N.map fun p => Value.ref p.1).toArray 0)) s1.heap.objs.size (N.map fun p => Value.ref p.1) out.toArray, gens := s1.gens, drawn := s1.drawn, toks := s1.toks } :=
      I.call (ch := []) (Un.laid kk hz1 hn) (I.hok.laid kk hz1 ⟨lys, out, c, ry, hc'⟩) (by rw [g1]; exact I.bare) (fun _ z => nomatch z)
    have eo : s1.os = s.os := o1
    refine wpAny_pure ⟨_, rfl, ?_⟩
    have es1 : ({ heap := PyProof.Rows.sortedHeap (s1.heap.push (PyProof.Rows.seqObj "list" (N.map fun p => Value.ref p.1).toArray 0)) s1.heap.objs.size (N.map fun p => Value.ref p.1) out.toArray, gens := s1.gens, drawn := s1.drawn, toks := s1.toks, os := s1.os } : Shared) = { s with heap := PyProof.Rows.sortedHeap (s1.heap.push (PyProof.Rows.seqObj "list" (N.map fun p => Value.ref p.1).toArray 0)) s1.heap.objs.size (N.map fun p => Value.ref p.1) out.toArray, gens := s1.gens, drawn := s1.drawn, toks := s1.toks } := by rw [eo]
    refine ⟨.ref s1.heap.objs.size, _, by rw [← es1] at J; exact J, rfl, q _ ys hn ?_⟩
    rw [le_eq, sort_ext E (hN.map (·.2))] at ty
    exact ty
end
end LK
set_option autoImplicit false
set_option linter.all false
set_option maxRecDepth 100000
namespace LK
open PySem PySem.Spec L2
def top (i : Nat) : Stmt := PySem.Challenge.pw_likewebs_k26_whole_leaves_of_the_least_w.main.body.getD i (.Pass ⟨0, 0, 0, 0⟩)
abbrev sF_is_whole : Stmt := top 10
abbrev sF_is_colour : Stmt := top 11
abbrev sF_is_mark : Stmt := top 12
abbrev sF_by_colours : Stmt := top 14
abbrev sF_cell_of : Stmt := top 15
abbrev sF_pair : Stmt := top 16
abbrev sF_look : Stmt := top 17
abbrev sF_groups : Stmt := top 19
abbrev sF_next_stand : Stmt := top 20
abbrev sF_rounds : Stmt := top 21
abbrev sF_refined : Stmt := top 22
abbrev sF_root : Stmt := top 23
abbrev sF_told_cell : Stmt := top 24
abbrev sF_telling : Stmt := top 25
abbrev sF_is_row : Stmt := top 27
abbrev sF_check_row : Stmt := top 28
abbrev sF_singled : Stmt := top 29
abbrev sF_row_stand : Stmt := top 30
abbrev sF_told_row : Stmt := top 31
abbrev sF_target : Stmt := top 32
abbrev sF_kids_behind : Stmt := top 33
abbrev sF_worth : Stmt := top 34
abbrev sF_naming_by : Stmt := top 36
abbrev sF_leaves : Stmt := top 37
abbrev sF_is_corner : Stmt := top 39
abbrev sF_is_arrow : Stmt := top 40
abbrev sF_checked_colours : Stmt := top 41
abbrev sF_checked_arrows : Stmt := top 42
abbrev sMinit : Stmt := inClass (top 43) 0
abbrev sMmark : Stmt := inClass (top 43) 1
abbrev sMlen : Stmt := inClass (top 43) 3
abbrev sLdeck : Stmt := top 45
abbrev sLtake : Stmt := top 46
abbrev sLorder : Stmt := top 47
abbrev sLkept : Stmt := top 48
abbrev sLring : Stmt := top 49
abbrev sLrings : Stmt := top 50
abbrev sLweb : Stmt := top 51
abbrev sLmade : Stmt := top 52
abbrev sLrenamed : Stmt := top 53
abbrev sLorders : Stmt := top 54
abbrev sLkeeps : Stmt := top 55
abbrev sLleaf_right : Stmt := top 56
abbrev sF_law : Stmt := top 57
end LK
set_option autoImplicit false
set_option linter.all false
set_option maxRecDepth 100000
set_option synthInstance.maxSize 1000
set_option Elab.async false
namespace LK
open PySem PySem.Spec L2
/-! ### what stays -/
def Firm : HO → Prop
  | .tup _ => True
  | .ins _ _ _ => True
  | .dT _ => True
  | _ => False
/-- tuples, instances and dicts with tuple keys stay -/
def Kp (H H' : Hp) : Prop := ∀ a x, Firm x → H a = some x → H' a = some x
/-- all but D stays -/
def But (D : Addr) (H H' : Hp) : Prop := ∀ b x, b ≠ D → H b = some x → H' b = some x
section
variable {H H' H2 : Hp}
theorem Kp.refl : Kp H H := fun _ _ _ h => h
theorem Kp.trans (a : Kp H H') (b : Kp H' H2) : Kp H H2 := fun c x f h => b c x f (a c x f h)
theorem Kp.same (s : Same H H') : Kp H H' := fun a x _ h => s a x h
theorem Kp.ts (k : Kp H H') : TS H H' := fun a xs h => k a _ trivial h
theorem Kp.upd {p : Addr} {o : HO} (h : ∀ x, Firm x → H p ≠ some x) : Kp H (upd H p o) := fun a x f e => by
  have : a ≠ p := fun q => h x f (q ▸ e)
  rw [upd_ne this]
  exact e
theorem Kp.new {p : Addr} {o : HO} (h : H p = none) : Kp H (L2.upd H p o) := Kp.upd fun x _ e => by rw [h] at e; cases e
theorem Kp.lst {p : Addr} {xs : List V} {o : HO} (h : H p = some (.lst xs)) : Kp H (L2.upd H p o) := Kp.upd fun x f e => by rw [h] at e; cases e; exact f
theorem Kp.dK {p : Addr} {kvs : List (L2.Key × V)} {o : HO} (h : H p = some (.dK kvs)) : Kp H (L2.upd H p o) := Kp.upd fun x f e => by rw [h] at e; cases e; exact f
theorem same_new {p : Addr} {o : HO} (h : H p = none) : Same H (L2.upd H p o) := fun b x e => by
  rw [upd_ne (ne_of_none e h)]
  exact e
theorem same_refl : Same H H := fun _ _ e => e
theorem same_at {H0 : Hp} {p : Addr} {o : HO} (s : Same H0 H) (h : H0 p = none) : Same H0 (L2.upd H p o) := fun b x e => by
  rw [upd_ne (ne_of_none e h)]
  exact s b x e
theorem But.same {D : Addr} (s : Same H H') : But D H H' := fun b x _ h => s b x h
theorem But.upd {D : Addr} {o : HO} : But D H (L2.upd H D o) := fun b x n h => by rw [upd_ne n]; exact h
theorem But.trans {D : Addr} (a : But D H H') (b : But D H' H2) : But D H H2 := fun c x n h => b c x n (a c x n h)
theorem But.ts {D : Addr} (b : But D H H') (h : ∀ xs, H D ≠ some (.tup xs)) : TS H H' := fun a xs e => b a _ (fun q => h xs (q ▸ e)) e
theorem lst_no {D : Addr} (h : ∃ acc, H D = some (.lst acc)) : ∀ xs, H D ≠ some (.tup xs) := fun xs e => by
  obtain ⟨acc, h⟩ := h
  rw [h] at e
  cases e
theorem dK_no {D : Addr} (h : ∃ acc, H D = some (.dK acc)) : ∀ xs, H D ≠ some (.tup xs) := fun xs e => by
  obtain ⟨acc, h⟩ := h
  rw [h] at e
  cases e
theorem take_next' {β : Type} {src : List β} {i : Nat} {b : β} (h : src[i]? = some b) : src.take (i + 1) = src.take i ++ [b] := by
  rw [List.take_succ, h]
  rfl
theorem small_line {n : Nat} (h : n ≤ 1000) : n < sizeLine := by
  rw [sizeLine_eq]
  omega
theorem all2_snoc {α β : Type} {R : α → β → Prop} : ∀ {xs : List α} {ys : List β} {x : α} {y : β}, LW.All2 R xs ys → R x y → LW.All2 R (xs ++ [x]) (ys ++ [y])
  | _, _, _, _, .nil, h => .cons h .nil
  | _, _, _, _, .cons a b, h => .cons a (all2_snoc b h)
/-! ### a comprehension that only makes -/
section
variable {J : It} {n : Nat} {G : Hp → Prop} {Y : Nat → Hp → V → Hp → Prop}
theorem lcP (w : Walk J n G Y) {β γ : Type} {src : List β} (hn : src.length = n) {sel : β → Bool} {val : β → γ} {Rel : Hp → V → γ → Prop} {g : TG} {tt : TT} {te : TE} {vs : List Nat} {σ : St} {H1 : Hp} {D : Addr} {Qd : Hp → Prop}
    (nD : H1 D = none) (mono : ∀ H H' v c, (∃ acc, H D = some (.lst acc)) → But D H H' → Rel H v c → Rel H' v c) (hG : ∀ H, Same H1 H → G H) (hY : ∀ i H x H', Y i H x H' → Same H H') (hz : n ≤ 1000)
    (step : ∀ i b x H H' (N : Hp → Prop) (Kv : V → Hp → Prop), src[i]? = some b → Same H1 H → Y i H x H' → Same H1 H' → H' D ≠ none →
      (∀ H3, sel b = false → Same H' H3 → N H3) → (∀ v H4, sel b = true → Same H' H4 → Rel H4 v (val b) → Kv v H4) →
      g x (wipe σ vs) H' fun σ2 H2 => wipe σ2 vs = wipe σ vs ∧ tt σ2 H2 fun c H3 => if c = true then te σ2 H3 Kv else N H3)
    (done : ∀ H ys, Same H1 H → H D = some (.lst ys) → LW.All2 (Rel H) ys ((src.filter sel).map val) → Qd H) :
    ∃ W : Nat → Nat → Hp → Prop, (∃ m, W 0 m (upd H1 D (.lst []))) ∧ ∀ i m H, W i m H →
      (J.stop i H ∧ Qd H) ∨ (J.go i H ∧ ∃ Nx : Hp → Prop, (∀ H', Nx H' → ∃ m', m' < m ∧ W (i + 1) m' H') ∧ ∀ x H', J.yld i H x H' → g x (wipe σ vs) H' fun σ2 H2 => wipe σ2 vs = wipe σ vs ∧ tt σ2 H2 fun b H3 =>
        if b = true then te σ2 H3 fun y H4 => ∃ acc, H4 D = some (.lst acc) ∧ acc.length < sizeLine ∧ Nx (upd H4 D (.lst (acc ++ [y]))) else Nx H3) := by
  refine lc_it w (fun i H => Same H1 H ∧ ∃ acc, H D = some (.lst acc) ∧ acc.length ≤ i ∧ LW.All2 (Rel H) acc (((src.take i).filter sel).map val)) ⟨same_new nD, [], upd_same, Nat.le_refl _, .nil⟩ (fun i H _ p => hG H p.1) ?_ ?_
  · rintro i x H H' hi ⟨s, acc, hD, hl, ha⟩ y
    have hs := hY i H x H' y
    have hb : src[i]? = some (src[i]'(by omega)) := List.getElem?_eq_getElem _
    have tk := take_next' hb
    refine step i _ x H H' _ _ hb s y (s.trans hs) (by rw [hs D _ hD]; exact fun z => nomatch z) (fun H3 e s3 => ?_) fun v H4 e s4 r => ?_
    · refine ⟨(s.trans hs).trans s3, acc, s3 _ _ (hs _ _ hD), by omega, ?_⟩
      rw [tk, List.filter_append, List.map_append]
      simp only [List.filter_cons, e, Bool.false_eq_true, if_false, List.filter_nil, List.map_nil, List.append_nil]
      exact ha.imp fun v c q => mono _ _ v c ⟨_, hD⟩ (But.same (hs.trans s3)) q
    · have hD4 : H4 D = some (.lst acc) := s4 _ _ (hs _ _ hD)
      refine ⟨acc, hD4, Nat.lt_of_le_of_lt hl (small_line (by omega)), same_at ((s.trans hs).trans s4) nD, _, upd_same, ?_, ?_⟩
      · rw [List.length_append]
        simp only [List.length_cons, List.length_nil]
        omega
      · rw [tk, List.filter_append, List.map_append]
        simp only [List.filter_cons, e, if_true, List.filter_nil, List.map_cons, List.map_nil]
        exact all2_snoc (ha.imp fun v c q => mono _ _ v c ⟨_, hD4⟩ But.upd (mono _ _ v c ⟨_, hD⟩ (But.same (hs.trans s4)) q)) (mono _ _ v _ ⟨_, hD4⟩ But.upd r)
  · rintro H ⟨s, acc, hD, _, ha⟩
    rw [← hn, List.take_length] at ha
    exact done H acc s hD ha
/-- any comprehension by a word of the turn -/
theorem tc_it (w : Walk J n G Y) {g : TG} {tt : TT} {tm : TM} {vs : List Nat} {σ : St} {H1 : Hp} {D : Addr} {Qd : Hp → Prop} {o0 : HO} (Pv : Nat → Hp → Prop) (h0 : Pv 0 (upd H1 D o0)) (hG : ∀ i H, i ≤ n → Pv i H → G H)
    (hs : ∀ i x H H', i < n → Pv i H → Y i H x H' → g x (wipe σ vs) H' fun σ2 H2 => wipe σ2 vs = wipe σ vs ∧ tt σ2 H2 fun b H3 => if b = true then tm σ2 H3 D (Pv (i + 1)) else Pv (i + 1) H3) (hd : ∀ H, Pv n H → Qd H) :
    ∃ W : Nat → Nat → Hp → Prop, (∃ m, W 0 m (upd H1 D o0)) ∧ ∀ i m H, W i m H →
      (J.stop i H ∧ Qd H) ∨ (J.go i H ∧ ∃ Nx : Hp → Prop, (∀ H', Nx H' → ∃ m', m' < m ∧ W (i + 1) m' H') ∧ ∀ x H', J.yld i H x H' → g x (wipe σ vs) H' fun σ2 H2 => wipe σ2 vs = wipe σ vs ∧ tt σ2 H2 fun b H3 =>
        if b = true then tm σ2 H3 D Nx else Nx H3) := by
  refine ⟨fun i m H => m = n - i ∧ i ≤ n ∧ Pv i H, ⟨n, by simp, Nat.zero_le _, h0⟩, ?_⟩
  rintro i m H ⟨rfl, hi, p⟩
  have q := hG i H hi p
  by_cases hlt : i < n
  · exact .inr ⟨w.goes i H hlt q, Pv (i + 1), fun H' p' => ⟨n - (i + 1), by omega, rfl, hlt, p'⟩, fun x H' y => hs i x H H' hlt p (w.yields i H x H' hlt q y)⟩
  · have e : i = n := by omega
    subst e
    exact .inl ⟨w.stops H q, hd H p⟩
/-- the second clause of one -/
theorem ti_it (w : Walk J n G Y) {g : TG} {tt : TT} {tm : TM} {vs : List Nat} {σ : St} {H1 : Hp} {D : Addr} {Qd : Hp → Prop} (Pv : Nat → Hp → Prop) (h0 : Pv 0 H1) (hG : ∀ i H, i ≤ n → Pv i H → G H)
    (hs : ∀ i x H H', i < n → Pv i H → Y i H x H' → g x (wipe σ vs) H' fun σ2 H2 => wipe σ2 vs = wipe σ vs ∧ tt σ2 H2 fun b H3 => if b = true then tm σ2 H3 D (Pv (i + 1)) else Pv (i + 1) H3) (hd : ∀ H, Pv n H → Qd H) :
    ∃ W : Nat → Nat → Hp → Prop, (∃ m, W 0 m H1) ∧ ∀ i m H, W i m H →
      (J.stop i H ∧ Qd H) ∨ (J.go i H ∧ ∃ Nx : Hp → Prop, (∀ H', Nx H' → ∃ m', m' < m ∧ W (i + 1) m' H') ∧ ∀ x H', J.yld i H x H' → g x (wipe σ vs) H' fun σ2 H2 => wipe σ2 vs = wipe σ vs ∧ tt σ2 H2 fun b H3 =>
        if b = true then tm σ2 H3 D Nx else Nx H3) := by
  refine ⟨fun i m H => m = n - i ∧ i ≤ n ∧ Pv i H, ⟨n, by simp, Nat.zero_le _, h0⟩, ?_⟩
  rintro i m H ⟨rfl, hi, p⟩
  have q := hG i H hi p
  by_cases hlt : i < n
  · exact .inr ⟨w.goes i H hlt q, Pv (i + 1), fun H' p' => ⟨n - (i + 1), by omega, rfl, hlt, p'⟩, fun x H' y => hs i x H H' hlt p (w.yields i H x H' hlt q y)⟩
  · have e : i = n := by omega
    subst e
    exact .inl ⟨w.stops H q, hd H p⟩
/-- a dict comprehension that only makes, its keys unlike -/
theorem dcP (w : Walk J n G Y) {β γ : Type} {src : List β} (hn : src.length = n) {key : β → Int} {val : β → γ} {Rel : Hp → V → γ → Prop} {g : TG} {tt : TT} {tm : TM} {vs : List Nat} {σ : St} {H1 : Hp} {D : Addr} {Qd : Hp → Prop}
    (nD : H1 D = none) (nd : (src.map key).Nodup) (mono : ∀ H H' v c, (∃ acc, H D = some (.dK acc)) → But D H H' → Rel H v c → Rel H' v c) (hG : ∀ H, Same H1 H → G H) (hY : ∀ i H x H', Y i H x H' → Same H H') (hz : n ≤ 1000)
    (step : ∀ i b x H H' (N : Hp → Prop), src[i]? = some b → Same H1 H → Y i H x H' → Same H1 H' → H' D ≠ none →
      (∀ v H5, Same H' H5 → Rel H5 v (val b) → ∃ kvs k, V.int (key b) = kV k ∧ H5 D = some (.dK kvs) ∧ kvs.length < sizeLine ∧ N (upd H5 D (.dK (putK kvs k v)))) →
      g x (wipe σ vs) H' fun σ2 H2 => wipe σ2 vs = wipe σ vs ∧ tt σ2 H2 fun c H3 => if c = true then tm σ2 H3 D N else N H3)
    (done : ∀ H kvs, Same H1 H → H D = some (.dK kvs) → (∀ b, b ∈ src → ∃ v, valV kvs (.inl (key b)) = some v ∧ Rel H v (val b)) → Qd H) :
    ∃ W : Nat → Nat → Hp → Prop, (∃ m, W 0 m (upd H1 D (.dK []))) ∧ ∀ i m H, W i m H →
      (J.stop i H ∧ Qd H) ∨ (J.go i H ∧ ∃ Nx : Hp → Prop, (∀ H', Nx H' → ∃ m', m' < m ∧ W (i + 1) m' H') ∧ ∀ x H', J.yld i H x H' → g x (wipe σ vs) H' fun σ2 H2 => wipe σ2 vs = wipe σ vs ∧ tt σ2 H2 fun b H3 =>
        if b = true then tm σ2 H3 D Nx else Nx H3) := by
  refine tc_it w (fun i H => Same H1 H ∧ ∃ kvs, H D = some (.dK kvs) ∧ kvs.length ≤ i ∧ ∀ b, b ∈ src.take i → ∃ v, valV kvs (.inl (key b)) = some v ∧ Rel H v (val b)) ⟨same_new nD, [], upd_same, Nat.le_refl _, fun b hb => by simp at hb⟩ (fun i H _ p => hG H p.1) ?_ ?_
  · rintro i x H H' hi ⟨s, kvs, hD, hl, ha⟩ y
    have hs := hY i H x H' y
    have hb : src[i]? = some (src[i]'(by omega)) := List.getElem?_eq_getElem _
    have tk := take_next' hb
    refine step i _ x H H' _ hb s y (s.trans hs) (by rw [hs D _ hD]; exact fun z => nomatch z) fun v H5 s5 r => ?_
    have hD5 : H5 D = some (.dK kvs) := s5 _ _ (hs _ _ hD)
    refine ⟨kvs, .inl (key (src[i]'(by omega))), rfl, hD5, Nat.lt_of_le_of_lt hl (small_line (by omega)), same_at ((s.trans hs).trans s5) nD, _, upd_same, ?_, fun b hb' => ?_⟩
    · have := length_putK kvs (.inl (key (src[i]'(by omega)))) v
      omega
    · rw [tk, List.mem_append, List.mem_singleton] at hb'
      rcases hb' with hb' | rfl
      · obtain ⟨u, hu, ru⟩ := ha b hb'
        refine ⟨u, ?_, mono _ _ u _ ⟨_, hD5⟩ But.upd (mono _ _ u _ ⟨_, hD⟩ (But.same (hs.trans s5)) ru)⟩
        rw [valV_put, if_neg]
        · exact hu
        · intro e
          have e' : key b = key (src[i]'(by omega)) := Sum.inl.inj e
          obtain ⟨j, hj, ej⟩ := List.getElem_of_mem hb'
          rw [List.length_take] at hj
          rw [List.getElem_take] at ej
          have := (List.pairwise_iff_getElem.mp nd) j i (by rw [List.length_map]; omega) (by rw [List.length_map]; omega) (by omega)
          rw [List.getElem_map, List.getElem_map] at this
          rw [← ej] at e'
          exact this e'
      · refine ⟨v, ?_, mono _ _ v _ ⟨_, hD5⟩ But.upd r⟩
        rw [valV_put, if_pos rfl]
  · rintro H ⟨s, kvs, hD, _, ha⟩
    rw [← hn, List.take_length] at ha
    exact done H kvs s hD ha
end
end
section
variable {α : Type} {E : Enc α} {H H' : Hp} {D : Addr} {v : V} {a : α}
theorem tl_but (h : ∃ acc, H D = some (.lst acc)) (b : But D H H') (t : Tl E H v a) : Tl E H' v a := tl_mono (b.ts (lst_no h)) t
theorem tl_butK (h : ∃ acc, H D = some (.dK acc)) (b : But D H H') (t : Tl E H v a) : Tl E H' v a := tl_mono (b.ts (dK_no h)) t
theorem tl_same (s : Same H H') (t : Tl E H v a) : Tl E H' v a := tl_mono (TS.same s) t
theorem tl_kp (s : Kp H H') (t : Tl E H v a) : Tl E H' v a := tl_mono s.ts t
theorem ts_same {vs : List V} {l : List α} (s : Same H H') (t : Ts E H vs l) : Ts E H' vs l := ts_mono (TS.same s) t
/-- a list of the things -/
theorem ts_get {vs : List V} {l : List α} (t : Ts E H vs l) {i : Nat} {x : V} (h : vs[i]? = some x) : ∃ b, l[i]? = some b ∧ Tl E H x b := by
  exact t.get h
theorem tl_tup {p : Addr} {ys : List V} {l : List α} (h : H p = some (.tup ys)) (t : Ts E H ys l) : Tl E.row H (.ref p) l := tl_row.mpr ⟨p, ys, rfl, h, t⟩
end
/-- a new tuple of what is told -/
theorem tl_newrow {α : Type} {E : Enc α} {H : Hp} {p : Addr} {ys : List V} {l : List α} (np : H p = none) (t : Ts E H ys l) : Tl E.row (upd H p (.tup ys)) (.ref p) l := tl_tup upd_same (ts_mono (TS.same (same_new np)) t)
theorem nats_ts {H : Hp} (l : List Nat) : Ts Enc.nat H (l.map fun (i : Nat) => V.int (i : Int)) l := ts_nat.mpr rfl
theorem nums_ts {H : Hp} (l : List Int) : Ts Enc.num H (l.map V.int) l := ts_num.mpr rfl
/-! ### {k: v for x in ..} -/
theorem pe_dcK {X : Cx} {kx vx tg iter : Expr} {ifs : List Expr} {scope : Scope} {own : List (Str × Nat)} {pos : Pos} {wi : TI} {g : TG} {tt : TT} {tk tv : TE} (hc : X.calm = true) (hN : X.N.Nodup) (hi : PI X tg iter wi) (ok : BlkOk X.N X.env.scope scope own)
    (hg : ∀ (s : Shared) (H : Hp) (C : Addr) (cl : List (Str × Addr)) (fp : List Addr), PG (X.blk s H scope (compEnvC scope cl C X.env) fp) tg g)
    (ht : ∀ (s : Shared) (H : Hp) (C : Addr) (cl : List (Str × Addr)) (fp : List Addr), PTs (X.blk s H scope (compEnvC scope cl C X.env) fp) ifs tt)
    (hk : ∀ (s : Shared) (H : Hp) (C : Addr) (cl : List (Str × Addr)) (fp : List Addr), PE (X.blk s H scope (compEnvC scope cl C X.env) fp) kx tk)
    (hv : ∀ (s : Shared) (H : Hp) (C : Addr) (cl : List (Str × Addr)) (fp : List Addr), PE (X.blk s H scope (compEnvC scope cl C X.env) fp) vx tv)
    (hs : ∀ x, foldedSetIterable iter X.env x = pure x := by intro _; rfl) :
    PE X (.DictComp kx vx [⟨tg, iter, ifs, 0⟩] scope pos) (tComp (fun _ => .dK []) wi g tt (tmDict tk tv) (own.map (·.2))) := by
  refine ⟨fun pins s σ H Q I h => ?_⟩
  rw [arm_eval_DictComp]
  exact comp_core hc hN I rfl (form_dict kx vx tg iter ifs scope pos) hi ok lays_dK hg ht (fun s H C cl fp => mid_dict (hk s H C cl fp) (hv s H C cl fp) rfl) hs h comp_val
theorem tyes {σ : St} {H : Hp} {A B : Hp → Prop} (h : A H) : tYes σ H fun b H3 => if b = true then A H3 else B H3 := by
  show if true = true then A H else B H
  rw [if_pos rfl]
  exact h
/-! ### y = {..} -/
theorem sw_dict {kx vx : Expr} {gs : List Comprehension} {scope : Scope} {pos py : Pos} {y : Str} {l : Nat} {env : Env} (hk : env.scope.kind = .function) (hy : env.scope.names.lookup y = some .local) (hl : (py.line == pos.line) = true)
    (ha : (scope.names.any fun (n, k) => n == y && (k == .local || k == .cell)) = false) : swapsWith (.DictComp kx vx gs scope pos) (some (.Name y py)) l env = pure true := by
  have ky : env.kindOf y = some .local := hy
  have hb : env.blockKind = .function := by unfold Env.blockKind; rw [hk]; rfl
  unfold swapsWith
  simp only [hb, ky, ha, Expr.pos, hl]
  rfl
theorem ps_setDc2 {X : Cx} {vs1 : List Nat} {i : Nat} {y : Str} {py spos : Pos} {kx vx tg iter tg1 iter1 : Expr} {ifs ifs1 : List Expr} {scope : Scope} {own : List (Str × Nat)} {pos : Pos} {wi wi1 : TI} {g g1 : TG} {tt tt1 : TT} {tk tv : TE} (hv1 : ∀ i ∈ vs1, i ∈ own.map (·.2)) (hc : X.calm = true) (hN : X.N.Nodup) (hy : X.N[i]? = some y) (hyl : X.env.scope.names.lookup y = some .local)
    (hsw : swapsWith (.DictComp kx vx [⟨tg, iter, ifs, 0⟩, ⟨tg1, iter1, ifs1, 0⟩] scope pos) (some (.Name y py)) spos.line X.env = pure true) (hi : PI X tg iter wi) (ok : BlkOk X.N X.env.scope scope own)
    (hg : ∀ (s : Shared) (H : Hp) (C : Addr) (cl : List (Str × Addr)) (fp : List Addr), PG (X.blk s H scope (compEnvC scope cl C X.env) fp) tg g)
    (ht : ∀ (s : Shared) (H : Hp) (C : Addr) (cl : List (Str × Addr)) (fp : List Addr), PTs (X.blk s H scope (compEnvC scope cl C X.env) fp) ifs tt)
    (hi1 : ∀ (s : Shared) (H : Hp) (C : Addr) (cl : List (Str × Addr)) (fp : List Addr), PI (X.blk s H scope (compEnvC scope cl C X.env) fp) tg1 iter1 wi1)
    (hg1 : ∀ (s : Shared) (H : Hp) (C : Addr) (cl : List (Str × Addr)) (fp : List Addr), PG (X.blk s H scope (compEnvC scope cl C X.env) fp) tg1 g1)
    (ht1 : ∀ (s : Shared) (H : Hp) (C : Addr) (cl : List (Str × Addr)) (fp : List Addr), PTs (X.blk s H scope (compEnvC scope cl C X.env) fp) ifs1 tt1)
    (hk : ∀ (s : Shared) (H : Hp) (C : Addr) (cl : List (Str × Addr)) (fp : List Addr), PE (X.blk s H scope (compEnvC scope cl C X.env) fp) kx tk)
    (hv : ∀ (s : Shared) (H : Hp) (C : Addr) (cl : List (Str × Addr)) (fp : List Addr), PE (X.blk s H scope (compEnvC scope cl C X.env) fp) vx tv)
    (hs : ∀ x, foldedSetIterable iter X.env x = pure x := by intro _; rfl) (hs1 : ∀ env x, foldedSetIterable iter1 env x = pure x := by intro _ _; rfl) :
    PS X (.Assign [.Name y py] (.DictComp kx vx [⟨tg, iter, ifs, 0⟩, ⟨tg1, iter1, ifs1, 0⟩] scope pos) spos) (tAsg (tComp (fun _ => .dK []) wi g tt (tInner wi1 g1 tt1 (tmDict tk tv) vs1) (own.map (·.2))) (gName i)) := by
  refine ⟨fun pins s σ H D I h => ?_⟩
  rw [exec_Assign_Name_used _ _ _ _ hsw]
  refine wpAny_bind (wpAny_standAt (wpAny_bind ?_))
  show wpAny _ X.A (do let _ ← comprehension (.DictComp kx vx [⟨tg, iter, ifs, 0⟩, ⟨tg1, iter1, ifs1, 0⟩] scope pos) scope X.env (firstIterPos [⟨tg, iter, ifs, 0⟩, ⟨tg1, iter1, ifs1, 0⟩] pos) newDict false (eval iter X.env) (some (assign (.Name y py) X.env))) _ _ s
  have h' : tComp (fun _ => .dK []) wi g tt (tInner wi1 g1 tt1 (tmDict tk tv) vs1) (own.map (·.2)) σ H (fun x H1 => gName i x σ H1 D.nx) := h
  exact wpAny_bind (thn (comp_core (Qf := fun _ s' => SP X pins D .next s') hc hN I rfl (form_dict20 kx vx tg iter tg1 iter1 ifs ifs1 scope pos) hi ok lays_dK hg ht
    (fun s H C cl fp => (mid_inner (X := X.blk s H scope (compEnvC scope cl C X.env) fp) (vs := vs1) hc (form_dict21 kx vx tg iter tg1 iter1 ifs ifs1 scope pos) (hi1 s H C cl fp) (hg1 s H C cl fp) (ht1 s H C cl fp) (mid_dict (hk s H C cl fp) (hv s H C cl fp) rfl) rfl (hs1 _)).more hv1) hs h' (comp_put hN hy hyl)) fun _ s' hq => wpAny_pure (wpAny_pure hq))
theorem ps_setDcK {X : Cx} {i : Nat} {y : Str} {py spos : Pos} {kx vx tg iter : Expr} {ifs : List Expr} {scope : Scope} {own : List (Str × Nat)} {pos : Pos} {wi : TI} {g : TG} {tt : TT} {tk tv : TE} (hc : X.calm = true) (hN : X.N.Nodup) (hy : X.N[i]? = some y) (hyl : X.env.scope.names.lookup y = some .local)
    (hsw : swapsWith (.DictComp kx vx [⟨tg, iter, ifs, 0⟩] scope pos) (some (.Name y py)) spos.line X.env = pure true) (hi : PI X tg iter wi) (ok : BlkOk X.N X.env.scope scope own)
    (hg : ∀ (s : Shared) (H : Hp) (C : Addr) (cl : List (Str × Addr)) (fp : List Addr), PG (X.blk s H scope (compEnvC scope cl C X.env) fp) tg g)
    (ht : ∀ (s : Shared) (H : Hp) (C : Addr) (cl : List (Str × Addr)) (fp : List Addr), PTs (X.blk s H scope (compEnvC scope cl C X.env) fp) ifs tt)
    (hk : ∀ (s : Shared) (H : Hp) (C : Addr) (cl : List (Str × Addr)) (fp : List Addr), PE (X.blk s H scope (compEnvC scope cl C X.env) fp) kx tk)
    (hv : ∀ (s : Shared) (H : Hp) (C : Addr) (cl : List (Str × Addr)) (fp : List Addr), PE (X.blk s H scope (compEnvC scope cl C X.env) fp) vx tv)
    (hs : ∀ x, foldedSetIterable iter X.env x = pure x := by intro _; rfl) :
    PS X (.Assign [.Name y py] (.DictComp kx vx [⟨tg, iter, ifs, 0⟩] scope pos) spos) (tAsg (tComp (fun _ => .dK []) wi g tt (tmDict tk tv) (own.map (·.2))) (gName i)) := by
  refine ⟨fun pins s σ H D I h => ?_⟩
  rw [exec_Assign_Name_used _ _ _ _ hsw]
  refine wpAny_bind (wpAny_standAt (wpAny_bind ?_))
  show wpAny _ X.A (do let _ ← comprehension (.DictComp kx vx [⟨tg, iter, ifs, 0⟩] scope pos) scope X.env (firstIterPos [⟨tg, iter, ifs, 0⟩] pos) newDict false (eval iter X.env) (some (assign (.Name y py) X.env))) _ _ s
  have h' : tComp (fun _ => .dK []) wi g tt (tmDict tk tv) (own.map (·.2)) σ H (fun x H1 => gName i x σ H1 D.nx) := h
  exact wpAny_bind (thn (comp_core (Qf := fun _ s' => SP X pins D .next s') hc hN I rfl (form_dict kx vx tg iter ifs scope pos) hi ok lays_dK hg ht
    (fun s H C cl fp => mid_dict (hk s H C cl fp) (hv s H C cl fp) rfl) hs h' (comp_put hN hy hyl)) fun _ s' hq => wpAny_pure (wpAny_pure hq))
end LK
set_option autoImplicit false
set_option linter.all false
set_option maxRecDepth 100000
set_option synthInstance.maxSize 1000
set_option Elab.async false
namespace LK
open PySem PySem.Spec L2
/-! ### the program's things -/
/-- a web stands at a -/
structure WebAt (C : Addr) (H : Hp) (a : Addr) (W : LW.Web) : Prop where
  ex : ∃ (dx c r m : Addr) (kvs : List (List L2.Key × V)), H a = some (.ins C dx [("colours", .ref c), ("arrows", .ref r), ("marks", .ref m)]) ∧ H c = some (.tup (W.cs.map V.int)) ∧ H m = some (.dT kvs) ∧
    ∀ i j : Nat, (valV kvs [.inl (i : Int), .inl (j : Int)]).getD (.int 0) = .int (W.mrk i j)
theorem WebAt.kp {C : Addr} {H H' : Hp} {a : Addr} {W : LW.Web} (k : Kp H H') (h : WebAt C H a W) : WebAt C H' a W := by
  obtain ⟨dx, c, r, m, kvs, h1, h2, h3, h4⟩ := h
  exact ⟨dx, c, r, m, kvs, k _ _ trivial h1, k _ _ trivial h2, k _ _ trivial h3, h4⟩
theorem WebAt.same {C : Addr} {H H' : Hp} {a : Addr} {W : LW.Web} (k : Same H H') (h : WebAt C H a W) : WebAt C H' a W := h.kp (Kp.same k)
/-- what the top has left -/
structure Tx (K : PySem.W.Frag) (mg : Str → Option Value) (C : Addr) : Prop where
  cl : Cls K C
  nC : NoAttr K C "colours"
  nA : NoAttr K C "arrows"
  nM : NoAttr K C "marks"
  abs : mg "abs" = none
  len : mg "len" = none
  isi : mg "isinstance" = none
  enu : mg "enumerate" = none
  rng : mg "range" = none
  tup : mg "tuple" = none
  lst : mg "list" = none
  srt : mg "sorted" = none
  mn : mg "min" = none
  mx : mg "max" = none
  rev : mg "reversed" = none
  zp : mg "zip" = none
  al : mg "all" = none
  int : mg "int" = none
  bl : mg "bool" = none
abbrev FN (K : PySem.W.Frag) (x : Str) (s : Stmt) (f : Addr) (fd : FuncData) : Prop := FunD K x x (defArgs s) (defBody s) (defScope s) [] [] f fd
theorem lk_c {c r m : V} : ([("colours", c), ("arrows", r), ("marks", m)] : List (Str × V)).lookup ("colours" : Str) = some c := by
  rw [List.lookup_cons, show (("colours" : Str) == "colours") = true by decide +kernel]
theorem lk_a {c r m : V} : ([("colours", c), ("arrows", r), ("marks", m)] : List (Str × V)).lookup ("arrows" : Str) = some r := by
  rw [List.lookup_cons, show (("arrows" : Str) == "colours") = false by decide +kernel]
  show List.lookup _ _ = _
  rw [List.lookup_cons, show (("arrows" : Str) == "arrows") = true by decide +kernel]
theorem lk_m {c r m : V} : ([("colours", c), ("arrows", r), ("marks", m)] : List (Str × V)).lookup ("marks" : Str) = some m := by
  rw [List.lookup_cons, show (("marks" : Str) == "colours") = false by decide +kernel]
  show List.lookup _ _ = _
  rw [List.lookup_cons, show (("marks" : Str) == "arrows") = false by decide +kernel]
  show List.lookup _ _ = _
  rw [List.lookup_cons, show (("marks" : Str) == "marks") = true by decide +kernel]
theorem lk_k {c r m : V} : ([("colours", c), ("arrows", r), ("marks", m)] : List (Str × V)).lookup ("mark" : Str) = none := by
  rw [List.lookup_cons, show (("mark" : Str) == "colours") = false by decide +kernel]
  show List.lookup _ _ = _
  rw [List.lookup_cons, show (("mark" : Str) == "arrows") = false by decide +kernel]
  show List.lookup _ _ = _
  rw [List.lookup_cons, show (("mark" : Str) == "marks") = false by decide +kernel]
  rfl
/-- a def of the module that keeps a promise -/
structure Gf (P : Program) (w : World) (K : PySem.W.Frag) (mg : Str → Option Value) (base : Heap) (k : Nat) (x : Str) (ps : List Str) (sp : Sp) : Prop where
  ex : ∃ (f : Addr) (fd : FuncData), mg x = some (.ref f) ∧ PySem.W.keepIn K (.ref f) = true ∧ Binds K fd ps [] ∧ FnOk P w K mg base CX0 k f fd ps sp
theorem pe_f {X : Cx} {x : Str} {ps : List Str} {sp : Sp} {k : Nat} {e : Expr} {es : List Expr} {t : TA} {p pos : Pos} (G : Gf X.prog X.w X.K X.mg X.base k x ps sp) (hr : Room k X.A) (hg : Gl X x)
    (ha : PA X (e :: es) t) (hdb : (x == ("__debug__" : Str)) = false := by decide) (he : starEach (e :: es) X.env = (false, eval e X.env) :: starEach es X.env := by rfl) (hpl : (backTo pos (starEach es X.env)).any (·.1) = false := by rfl) :
    PE X (.Call (.Name x p) (e :: es) [] pos) (tCall sp [] E0 t) := by
  obtain ⟨f, fd, hm, hk, hb, F⟩ := G
  exact pe_call F hr hg hm hk hb .nil pass0 ha hdb he hpl
section
variable {P : Program} {w : World} {K : PySem.W.Frag} {mg : Str → Option Value} {base : Heap} {C : Addr}
/-- the rule of a def that lets nothing out -/
theorem FDok {x qual : Str} {params : Arguments} {body : List Stmt} {scope : Scope} {dvs : List V} {kws : List (Str × V)} {f : Addr} {fd : FuncData} {N ps : List Str} {k : Nat} {sp : Sp} (F : FunD K x qual params body scope dvs kws f fd) (S : FnScope N ps scope) (len : ∀ vs H Q E, sp vs H Q E → vs.length = ps.length)
    (hb : ∀ (cdv : Value) (A : Around) (outer : List Env) (s : Shared) (H : Hp) (vs : List V) (Q : VK) (E : XK), Room k (A.deeper (PyProof.Rows.envOfC qual scope s.heap.objs.size f cdv)) → sp vs H Q E →
      ∃ t, PSs (cxOf CX0 P w K mg base N qual scope f cdv A outer s H E).nox body t ∧ t { nx := fun _ H' => Q .non H', rt := Q } (start N vs) H) : FnOk P w K mg base CX0 (k + 1) f fd ps sp :=
  F.ok S len fun cdv A outer s H vs Q E hr hsp => by
    obtain ⟨t, h, q⟩ := hb cdv A outer s H vs Q E hr hsp
    exact ⟨t, h.nox, q⟩
/-! #### Web.mark, Web.__len__ -/
theorem scMark : FnScope ["self", "a", "b"] ["self", "a", "b"] (defScope sMmark) := ⟨rfl, rfl, rfl, by decide +kernel, rfl, by decide +kernel, by decide +kernel⟩
def spMark (C : Addr) : Sp := fun vs H Q _ => ∃ (a : Addr) (W : LW.Web) (i j : Nat), vs = [.ref a, .int i, .int j] ∧ WebAt C H a W ∧ ∀ H', Same H H' → Q (.int (W.mrk i j)) H'
theorem ok_mark {f : Addr} {fd : FuncData} (T : Tx K mg C) (F : FunD K "mark" "Web.mark" (defArgs sMmark) (defBody sMmark) (defScope sMmark) [] [] f fd) : FnOk P w K mg base CX0 1 f fd ["self", "a", "b"] (spMark C) := by
  refine FDok F scMark (fun vs H Q E h => ?_) (fun cdv A outer s H vs Q E hr h => ?_)
  · obtain ⟨a, W, i, j, rfl, _⟩ := h
    rfl
  · obtain ⟨a, W, i, j, rfl, ⟨dx, c, r, m, kvs, h1, h2, h3, h4⟩, q⟩ := h
    refine ⟨_, pss_one (ps_ret (pe_dget2 (hu_of hr) (pe_fld (pv 0) rfl) (pe_tup (pa_cons (pv 1) (pa_cons (pv 2) pa_nil))) pe_int ⟨rfl, rfl, rfl, rfl⟩)), ?_⟩
    refine ⟨.ref a, rfl, a, C, dx, _, .ref m, rfl, h1, T.cl, T.nM, lk_m, m, rfl, .inr ⟨kvs, .inl h3⟩, .int i, rfl, .int j, rfl, ?_, fun p np => ?_⟩
    · show 2 ≤ sizeLine
      decide
    · have n1 : m ≠ p := ne_of_none h3 np
      refine ⟨_, DGet.t (k := [.inl (i : Int), .inl (j : Int)]) (by rw [upd_ne n1]; exact h3) upd_same, ?_⟩
      rw [h4]
      exact q _ (same_new np)
theorem scLen : FnScope ["self"] ["self"] (defScope sMlen) := ⟨rfl, rfl, rfl, by decide +kernel, rfl, by decide +kernel, by decide +kernel⟩
def spLen (C : Addr) : Sp := fun vs H Q _ => ∃ (a : Addr) (W : LW.Web), vs = [.ref a] ∧ WebAt C H a W ∧ Q (.int W.n) H
theorem ok_len {f : Addr} {fd : FuncData} (T : Tx K mg C) (F : FunD K "__len__" "Web.__len__" (defArgs sMlen) (defBody sMlen) (defScope sMlen) [] [] f fd) : FnOk P w K mg base CX0 1 f fd ["self"] (spLen C) := by
  refine FDok F scLen (fun vs H Q E h => ?_) (fun cdv A outer s H vs Q E hr h => ?_)
  · obtain ⟨a, W, rfl, _⟩ := h
    rfl
  · obtain ⟨a, W, rfl, ⟨dx, c, r, m, kvs, h1, h2, h3, h4⟩, q⟩ := h
    refine ⟨_, pss_one (ps_ret (pe_callB call_len_seq (by rfl) T.len PySem.boot_len (pa_cons (pe_fld (pv 0) rfl) pa_nil))), ?_⟩
    refine ⟨.ref a, rfl, a, C, dx, _, .ref c, rfl, h1, T.cl, T.nC, lk_c, c, _, rfl, .inr (.inl (.inl h2)), ?_⟩
    rw [List.length_map]
    exact q
/-! #### pair -/
theorem scPair : FnScope ["web", "corner", "other"] ["web", "corner", "other"] (defScope sF_pair) := ⟨rfl, rfl, rfl, by decide +kernel, rfl, by decide +kernel, by decide +kernel⟩
def spPair (C : Addr) : Sp := fun vs H Q _ => ∃ (a : Addr) (W : LW.Web) (i j : Nat), vs = [.ref a, .int i, .int j] ∧ WebAt C H a W ∧ ∀ v H', Same H H' → Tl eP H' v (LW.pair W i j) → Q v H'
theorem ok_pair {f fM : Addr} {fd fdM : FuncData} (T : Tx K mg C) (F : FN K "pair" sF_pair f fd) (M : Meth K C "mark" fM) (GM : FnOk P w K mg base CX0 1 fM fdM ["self", "a", "b"] (spMark C)) (bM : Binds K fdM ["self", "a", "b"] []) :
    FnOk P w K mg base CX0 2 f fd ["web", "corner", "other"] (spPair C) := by
  refine FDok F scPair (fun vs H Q E h => ?_) (fun cdv A outer s H vs Q E hr h => ?_)
  · obtain ⟨a, W, i, j, rfl, _⟩ := h
    rfl
  · obtain ⟨a, W, i, j, rfl, hW, q⟩ := h
    obtain ⟨dx, c, r, m, kvs, h1, h2, h3, h4⟩ := id hW
    refine ⟨_, pss_one (ps_ret (pe_tup (pa_cons (pe_meth (pv 0) T.cl M GM hr bM .nil pass0 (pa_cons (pv 1) (pa_cons (pv 2) pa_nil))) (pa_cons (pe_meth (pv 0) T.cl M GM hr bM .nil pass0 (pa_cons (pv 2) (pa_cons (pv 1) pa_nil))) pa_nil)))), ?_⟩
    refine ⟨.ref a, rfl, a, dx, _, rfl, h1, lk_k, .int i, rfl, .int j, rfl, a, W, i, j, rfl, hW, fun H1 s1 => ?_⟩
    refine ⟨.ref a, rfl, a, dx, _, rfl, s1 _ _ h1, lk_k, .int j, rfl, .int i, rfl, a, W, j, i, rfl, hW.same s1, fun H2 s2 => ?_⟩
    refine ⟨by show 2 ≤ sizeLine; decide, fun p np => ?_⟩
    refine q _ _ (s1.trans (s2.trans (same_new np))) (tl_two.mpr ⟨p, _, _, rfl, upd_same, tl_num.mpr rfl, tl_num.mpr rfl⟩)
end
end LK
set_option autoImplicit false
set_option linter.all false
set_option maxRecDepth 100000
set_option synthInstance.maxSize 1000
set_option Elab.async false
namespace LK
open PySem PySem.Spec L2
theorem y_at {xs : List V} {i : Nat} {H H' : Hp} {x : V} (y : YAt xs i H x H') : Same H H' := by
  obtain ⟨rfl, _⟩ := y
  exact same_refl
theorem y_pair {f g : Nat → Option V} {i : Nat} {H H' : Hp} {x : V} (y : YPair f g i H x H') : Same H H' := by
  obtain ⟨T, a, b, rfl, n, rfl, _⟩ := y
  exact same_new n
section
variable {P : Program} {w : World} {K : PySem.W.Frag} {mg : Str → Option Value} {base : Heap} {C : Addr}
/-! #### cell_of -/
theorem scCell : FnScope ["stand", "corner", "numbers", "at", "cell", "member"] ["stand", "corner"] (defScope sF_cell_of) := ⟨rfl, rfl, rfl, by decide +kernel, rfl, by decide +kernel, by decide +kernel⟩
def spCell : Sp := fun vs H Q _ => ∃ (v : V) (s : LW.Stand) (n c : Nat), vs = [v, .int c] ∧ Tl eSt H v s ∧ LW.Part n s ∧ n ≤ 5 ∧ c < n ∧ ∀ H', Same H H' → Q (.int (LW.cellOf s c)) H'
theorem ok_cell {f : Addr} {fd : FuncData} (T : Tx K mg C) (F : FN K "cell_of" sF_cell_of f fd) : FnOk P w K mg base CX0 1 f fd ["stand", "corner"] spCell := by
  refine FDok F scCell (fun vs H Q E h => ?_) (fun cdv A outer s H vs Q E hr h => ?_)
  · obtain ⟨a, W, i, j, rfl, _⟩ := h
    rfl
  · obtain ⟨v, s, n, c, rfl, hv, hP, hn, hc, q⟩ := h
    obtain ⟨a, xs, rfl, ha, hts⟩ := tl_row.mp hv
    refine ⟨_, pss_cons (ps_setDc2 (vs1 := [5]) (i := 2) (own := [("member", 5), ("at", 3), ("cell", 4)]) (g := gTup K 2 (gCons (gName 3) (gCons (gName 4) gNil))) (wi1 := iTup K (tVar 4)) (tt := tYes) (tt1 := tYes) (by decide) rfl scCell.nd rfl rfl (sw_dict rfl rfl rfl (by kernel_rfl)) (pi_enumT (by rfl) T.enu (pa_cons (pv 0) pa_nil)) (blkOk_by (by kernel_rfl))
        (fun _ _ _ _ _ => pg_tup rfl (pgs_cons (pg_name (i := 3) scCell.nd rfl (.inl rfl)) (pgs_cons (pg_name (i := 4) scCell.nd rfl (.inl rfl)) pgs_nil))) (fun _ _ _ _ _ => pts_nil) (fun _ _ _ _ _ => pi_tup (pv 4)) (fun _ _ _ _ _ => pg_name (i := 5) scCell.nd rfl (.inl rfl)) (fun _ _ _ _ _ => pts_nil)
        (fun _ _ _ _ _ => pv 5) (fun _ _ _ _ _ => pv 3))
      (pss_one (ps_ret (pe_dget (hu_of hr) (pv 2) (pv 1) (fun _ _ => rfl)))), ?_⟩
    have flat : s.flatten.length = n := by rw [hP.perm.length_eq, List.length_range]
    refine ⟨.ref a, rfl, a, xs, rfl, SqT.of ha, fun D nD => ?_⟩
    refine tc_it (walk_enumT (xs := xs)) (fun i H1 => Same H H1 ∧ ∃ kvs, H1 D = some (.dK kvs) ∧ kvs.length ≤ (s.take i).flatten.length ∧ ∀ j cell x, j < i → s[j]? = some cell → x ∈ cell → valV kvs (.inl (x : Int)) = some (.int (j : Nat)))
      ⟨same_new nD, [], upd_same, Nat.le_refl _, fun j _ _ hj => absurd hj (Nat.not_lt_zero _)⟩ (fun i H1 _ p => SqT.of (p.1 _ _ ha)) ?_ ?_
    · rintro i x H1 H1' hi ⟨s1, kvs, hD, hl, hk⟩ y
      obtain ⟨tp, x1, x2, rfl, ntp, rfl, e1, e2⟩ := y
      obtain rfl := Option.some.inj e1
      obtain ⟨cell, hcell, tcell⟩ := hts.get e2
      obtain ⟨ca, cxs, rfl, hca, hcts⟩ := tl_row.mp (show Tl eNs H x2 cell from tcell)
      rw [ts_nat.mp hcts] at hca
      have s1' : Same H (upd H1 tp (.tup [.int (i : Nat), .ref ca])) := s1.trans (same_new ntp)
      have nDt : D ≠ tp := ne_of_none hD ntp
      refine ⟨tp, _, rfl, SqT.of upd_same, rfl, _, _, rfl, _, _, rfl, rfl, rfl, ?_⟩
      refine tyes ⟨.ref ca, rfl, ca, rfl, ⟨_, SqT.of (s1' _ _ hca)⟩, ?_⟩
      have tki := take_next' hcell
      refine ti_it (walk_tup (xs := cell.map fun (i : Nat) => V.int (i : Int))) (fun j H2 => Same H H2 ∧ ∃ kvs, H2 D = some (.dK kvs) ∧ kvs.length ≤ (s.take i).flatten.length + j ∧ (∀ j cell x, j < i → s[j]? = some cell → x ∈ cell → valV kvs (.inl (x : Int)) = some (.int (j : Nat))) ∧ ∀ x, x ∈ cell.take j → valV kvs (.inl (x : Int)) = some (.int (i : Nat)))
        ⟨s1', kvs, by rw [upd_ne nDt]; exact hD, hl, hk, fun x hx => by simp at hx⟩ (fun j H2 _ p => SqT.of (p.1 _ _ hca)) ?_ ?_
      · rintro j x H2 H2' hj ⟨s2, kvs2, hD2, hl2, hk2, hc2⟩ ⟨rfl, hx⟩
        rw [List.getElem?_map] at hx
        obtain ⟨m, hm, rfl⟩ := Option.map_eq_some_iff.mp hx
        have mc := List.mem_of_getElem? hm
        refine ⟨rfl, tyes ⟨_, rfl, _, rfl, kvs2, .inl (m : Int), rfl, hD2, ?_, same_at s2 nD, _, upd_same, ?_, ?_, ?_⟩⟩
        · have : ((s.take i).flatten).length + cell.length ≤ n := by
            rw [← flat]
            have e : s.flatten = (s.take i).flatten ++ (s.drop i).flatten := by rw [← List.flatten_append, List.take_append_drop]
            rw [e, List.length_append]
            have hil : i < s.length := (List.getElem?_eq_some_iff.mp hcell).1
            have e2 : s.drop i = cell :: s.drop (i + 1) := by
              rw [List.drop_eq_getElem_cons hil]
              rw [List.getElem?_eq_getElem hil] at hcell
              rw [Option.some.inj hcell]
            rw [e2, List.flatten_cons, List.length_append]
            omega
          have hjl : j < cell.length := by rw [List.length_map] at hj; exact hj
          exact small1000 (by omega) |> fun h => h
        · have := length_putK kvs2 (.inl (m : Int)) (.int (i : Nat))
          omega
        · intro j' cell' x' hj' hc' hx'
          rw [valV_put, if_neg]
          · exact hk2 j' cell' x' hj' hc' hx'
          · intro e
            have e' : x' = m := Int.ofNat.inj (Sum.inl.inj e)
            subst e'
            have := hP.one hc' hcell hx' mc
            omega
        · intro x' hx'
          rw [valV_put]
          by_cases e : (Sum.inl (x' : Int) : L2.Key) = .inl (m : Int)
          · rw [if_pos e]
          · rw [if_neg e]
            rw [take_next' hm, List.mem_append, List.mem_singleton] at hx'
            rcases hx' with hx' | rfl
            · exact hc2 x' hx'
            · exact absurd rfl e
      · rintro H2 ⟨s2, kvs2, hD2, hl2, hk2, hc2⟩
        rw [List.length_map] at hl2 hc2
        refine ⟨s2, kvs2, hD2, ?_, fun j cell' x hj hcl hx => ?_⟩
        · rw [tki, List.flatten_append, List.length_append]
          simpa using hl2
        · by_cases e : j = i
          · subst e
            rw [hcell] at hcl
            cases hcl
            exact hc2 x (by rw [List.take_length]; exact hx)
          · exact hk2 j cell' x (by omega) hcl hx
    · rintro H1 ⟨s1, kvs, hD, hl, hk⟩
      obtain ⟨cell, h1, h2, h3⟩ := hP.cellOf hc
      rw [hts.len] at hk
      refine ⟨.ref D, rfl, _, rfl, D, .int (LW.cellOf s c), rfl, ?_, q _ s1⟩
      rw [← hk _ _ _ h3 h1 h2]
      exact DGet.k (k := Sum.inl (c : Int)) hD
/-! #### target -/
theorem scTgt : FnScope ["stand", "at", "cell"] ["stand"] (defScope sF_target) := ⟨rfl, rfl, rfl, by decide +kernel, rfl, by decide +kernel, by decide +kernel⟩
def tgt (s : LW.Stand) : Int := if LW.target s = s.length then -1 else (LW.target s : Int)
def spTgt : Sp := fun vs H Q _ => ∃ (v : V) (s : LW.Stand), vs = [v] ∧ Tl eSt H v s ∧ ∀ H', Same H H' → Q (.int (tgt s)) H'
theorem ok_tgt {f : Addr} {fd : FuncData} (T : Tx K mg C) (F : FN K "target" sF_target f fd) : FnOk P w K mg base CX0 1 f fd ["stand"] spTgt := by
  refine FDok F scTgt (fun vs H Q E h => ?_) (fun cdv A outer s H vs Q E hr h => ?_)
  · obtain ⟨a, W, rfl, _⟩ := h
    rfl
  · obtain ⟨v, s, rfl, hv, q⟩ := h
    obtain ⟨a, xs, rfl, ha, hts⟩ := tl_row.mp hv
    refine ⟨_, pss_cons (ps_for PassesOwn.never rfl (pi_enumT (by rfl) T.enu (pa_cons (pv 0) pa_nil)) (pg_tup rfl (pgs_cons (pg_name (i := 1) scTgt.nd rfl (.inl rfl)) (pgs_cons (pg_name (i := 2) scTgt.nd rfl (.inl rfl)) pgs_nil)))
        (pss_one (ps_if (pt_cmpR op_gt (pe_callB call_len_seq (by rfl) T.len PySem.boot_len (pa_cons (pv 2) pa_nil)) pe_int (nomark _)) (pss_one (ps_ret (pv 1))) pss_nil)))
      (pss_one (ps_ret (pe_un un_neg pe_int))), ?_⟩
    refine ⟨.ref a, rfl, a, xs, rfl, SqT.of ha, ?_⟩
    refine for_it (walk_enumT (xs := xs)) (fun i σ H1 => (∃ y1 y2, σ = [some (.ref a), y1, y2]) ∧ Same H H1 ∧ i ≤ LW.target s) ⟨⟨_, _, rfl⟩, same_refl, Nat.zero_le _⟩ (fun i σ H1 _ p => SqT.of (p.2.1 _ _ ha)) ?_ ?_
    · rintro i x σ H1 H1' hi ⟨⟨y1, y2, rfl⟩, s1, hle⟩ y
      obtain ⟨tp, x1, x2, rfl, ntp, rfl, e1, e2⟩ := y
      obtain rfl := Option.some.inj e1
      obtain ⟨cell, hcell, tcell⟩ := hts.get e2
      obtain ⟨ca, cxs, rfl, hca, hcts⟩ := tl_row.mp (show Tl eNs H x2 cell from tcell)
      have s1' : Same H (upd H1 tp (.tup [.int (i : Nat), .ref ca])) := s1.trans (same_new ntp)
      refine ⟨tp, _, rfl, SqT.of upd_same, rfl, _, _, rfl, _, _, rfl, rfl, .ref ca, rfl, ca, cxs, rfl, .inr (SqT.of (s1' _ _ hca)), _, _, rfl, rfl, _, rfl, ?_⟩
      have il : i < s.length := (List.getElem?_eq_some_iff.mp hcell).1
      have gi : s[i] = cell := by rw [List.getElem?_eq_getElem il] at hcell; exact Option.some.inj hcell
      have lc : cxs.length = cell.length := hcts.len
      refine ite2 (fun e => ?_) fun e => ?_
      · have big := of_decide_eq_true e
        have et : LW.target s = i := by
          refine Nat.le_antisymm ?_ hle
          refine Nat.le_of_not_lt fun hlt => ?_
          have := List.not_of_lt_findIdx hlt
          rw [gi] at this
          simp only [decide_eq_false_iff_not] at this
          rw [← lc] at this
          omega
        refine ⟨_, rfl, ?_⟩
        have : tgt s = (i : Int) := by
          unfold tgt
          rw [et, if_neg (by omega)]
        have z := q _ s1'
        rw [this] at z
        exact z
      · have small : ¬ 1 < cell.length := fun z => e (decide_eq_true (by rw [← lc] at z; omega))
        refine ⟨⟨_, _, rfl⟩, s1', ?_⟩
        refine Nat.lt_of_le_of_ne hle fun z => ?_
        have hl : LW.target s < s.length := by omega
        have := List.findIdx_getElem (w := hl) (p := fun cell : List Nat => decide (1 < cell.length)) (xs := s)
        simp only [decide_eq_true_eq] at this
        have e3 : ∀ (j : Nat) (hj : j < s.length), i = j → s[j] = cell := fun j hj e => by
          subst e
          exact gi
        have t2 : 1 < (s[LW.target s]'hl).length := this
        rw [e3 _ hl z] at t2
        exact small t2
    · rintro σ H1 ⟨⟨y1, y2, rfl⟩, s1, hle⟩
      refine ⟨_, rfl, ?_⟩
      have hx := List.findIdx_le_length (xs := s) (p := fun cell => decide (1 < cell.length))
      have et : LW.target s = s.length := Nat.le_antisymm hx (by rw [← hts.len]; exact hle)
      have : tgt s = -1 := by
        unfold tgt
        rw [if_pos et]
      have z := q _ s1
      rw [this] at z
      exact z
end
end LK
set_option autoImplicit false
set_option linter.all false
set_option maxRecDepth 100000
set_option synthInstance.maxSize 1000
set_option Elab.async false
namespace LK
open PySem PySem.Spec L2
theorem part_small {n : Nat} {s : LW.Stand} (h : LW.Part n s) (hn : n ≤ 5) : s.length ≤ 5 ∧ ∀ cell, cell ∈ s → cell.length ≤ 5 := by
  refine ⟨Nat.le_trans h.len hn, fun cell hc => ?_⟩
  have h1 := h.room hc
  have h2 : 0 < s.length := List.length_pos_of_mem hc
  omega
theorem ne_nat (a b : Nat) : (!decide ((V.int (a : Int)) = V.int (b : Int))) = (a != b) := by
  by_cases h : a = b
  · subst h
    simp
  · have : ¬ (V.int (a : Int)) = V.int (b : Int) := fun e => h (by injection e with e; exact Int.ofNat.inj e)
    rw [decide_eq_false this]
    exact (bne_iff_ne.mpr h).symm
section
variable {P : Program} {w : World} {K : PySem.W.Frag} {mg : Str → Option Value} {base : Heap} {C : Addr}
/-! #### look -/
theorem scLook : FnScope ["web", "stand", "corner", "cell", "other"] ["web", "stand", "corner"] (defScope sF_look) := ⟨rfl, rfl, rfl, by decide +kernel, rfl, by decide +kernel, by decide +kernel⟩
def spLook (C : Addr) : Sp := fun vs H Q _ => ∃ (a : Addr) (W : LW.Web) (v : V) (s : LW.Stand) (n c : Nat), vs = [.ref a, v, .int c] ∧ WebAt C H a W ∧ Tl eSt H v s ∧ LW.Part n s ∧ n ≤ 5 ∧ ∀ u H', Same H H' → Tl eL H' u (LW.look opsD W s c) → Q u H'
theorem ok_look {f : Addr} {fd : FuncData} (T : Tx K mg C) (F : FN K "look" sF_look f fd) (GP : Gf P w K mg base 2 "pair" ["web", "corner", "other"] (spPair C)) : FnOk P w K mg base CX0 3 f fd ["web", "stand", "corner"] (spLook C) := by
  refine FDok F scLook (fun vs H Q E h => ?_) (fun cdv A outer s H vs Q E hr h => ?_)
  · obtain ⟨a, W, i, j, n, c, rfl, _⟩ := h
    rfl
  · obtain ⟨a, W, v, s, n, c, rfl, hW, hv, hP, hn, q⟩ := h
    obtain ⟨b, xs, rfl, hb, hts⟩ := tl_row.mp hv
    refine ⟨_, pss_one (ps_ret (pe_callTy call_tuple_of (by rfl) T.tup PyProof.Rows.boot_tuple (pa_cons (pe_lc (own := [("cell", 3)]) (g := gName 3) (tt := tYes)
      (te := tCB (fun xs H Q => ∃ p ys, xs = [.ref p] ∧ ((SqL K H p ys ∧ ∀ l, H l = none → Q (.ref l) (upd H l (.tup ys))) ∨ (SqT K H p ys ∧ Q (.ref p) H))) (tCons (tCB (rSortD K eP) (tCons (tLc (iTup K (tVar 3)) (gName 4) (tTest (tOp rNe (tVar 4) (tVar 2))) (tCall (spPair C) [] E0 (tCons (tVar 0) (tCons (tVar 2) (tCons (tVar 4) tNil)))) [4]) tNil)) tNil))
      rfl scLook.nd (pi_tup (pv 1)) (blkOk_by (by kernel_rfl)) (fun _ _ _ _ _ => pg_name (i := 3) scLook.nd rfl (.inl rfl)) (fun _ _ _ _ _ => pts_nil)
      (fun _ _ _ _ _ => pe_callTy call_tuple_of (by rfl) T.tup PyProof.Rows.boot_tuple (pa_cons (pe_callB (cr_sortD eP hr.units) (by rfl) T.srt PyProof.Rows.boot_sorted
        (pa_cons (pe_lc (own := [("other", 4)]) (g := gName 4) (tt := tTest (tOp rNe (tVar 4) (tVar 2))) rfl scLook.nd (pi_tup (pv 3)) (blkOk_by (by kernel_rfl)) (fun _ _ _ _ _ => pg_name (i := 4) scLook.nd rfl (.inl rfl)) (fun _ _ _ _ _ => pts_one (pt_cmpR op_ne (pv 4) (pv 2) (nomark _)))
          (fun _ _ _ _ _ => pe_f GP hr (by rfl) (pa_cons (pv 0) (pa_cons (pv 2) (pa_cons (pv 4) pa_nil))))) pa_nil)) pa_nil))) pa_nil))), ?_⟩
    obtain ⟨hs5, hc5⟩ := part_small hP hn
    refine ⟨.ref b, rfl, b, rfl, ⟨_, SqT.of hb⟩, fun D nD => ?_⟩
    refine lcP (walk_tup (xs := xs)) (src := s) hts.len.symm (sel := fun _ => true) (val := LW.cellLook opsD W c) (Rel := fun H v l => Tl ePs H v l) nD (fun _ _ _ _ h k t => tl_but h k t) (fun H1 s1 => SqT.of (s1 _ _ hb)) (fun i H1 x H1' y => y_at y) (by rw [hts.len]; omega) ?_ ?_
    · rintro i cell x H1 H1' N Kv hcell s1 ⟨rfl, hx⟩ s1' _ hN hK
      obtain ⟨cell', hcell', tcell⟩ := hts.get hx
      rw [hcell] at hcell'
      cases hcell'
      obtain ⟨ca, cxs, rfl, hca, hcts⟩ := tl_row.mp (show Tl eNs H x cell from tcell)
      have memc := List.mem_of_getElem? hcell
      refine ⟨rfl, tyes ?_⟩
      have hca1 := s1 _ _ hca
      refine ⟨.ref ca, rfl, ca, rfl, ⟨_, SqT.of hca1⟩, fun D2 nD2 => ?_⟩
      refine lcP (walk_tup (xs := cxs)) (src := cell) hcts.len.symm (sel := fun o => o != c) (val := LW.pair W c) (Rel := fun H v l => Tl eP H v l) nD2 (fun _ _ _ _ h k t => tl_but h k t) (fun H2 s2 => SqT.of (s2 _ _ hca1)) (fun i H2 x H2' y => y_at y) (by rw [hcts.len]; have := hc5 _ memc; omega) ?_ ?_
      · rintro j o x H2 H2' N2 Kv2 ho s2 ⟨rfl, hx2⟩ s2' _ hN2 hK2
        obtain ⟨o', ho', to⟩ := hcts.get hx2
        rw [ho] at ho'
        cases ho'
        obtain rfl := tl_nat.mp to
        refine ⟨rfl, _, rfl, _, rfl, rfl, _, rfl, ?_⟩
        rw [ne_nat]
        cases e : (o != c) with
        | false => exact iteF (hN2 _ e same_refl)
        | true =>
          refine iteT ⟨_, rfl, _, rfl, _, rfl, a, W, c, o, rfl, hW.same (s1.trans s2), fun v H3 s3 t3 => ?_⟩
          exact hK2 v H3 e s3 t3
      · intro H2 zs s2 hD2 hz
        refine ⟨D2, zs, _, rfl, SqL.of hD2, hz, fun b _ => ⟨_, _, rfl⟩, by decide, fun p ys np hys => ?_⟩
        have nD2p : D2 ≠ p := ne_of_none hD2 np
        refine ⟨p, ys, rfl, .inl ⟨SqL.of upd_same, fun l nl => ?_⟩⟩
        refine hK _ _ rfl ((s2.trans (same_new np)).trans (same_new nl)) ?_
        exact tl_newrow nl (ts_same (same_new np) hys)
    · intro H1 zs s1 hD hz
      rw [List.filter_eq_self.mpr (fun _ _ => rfl)] at hz
      refine ⟨D, zs, rfl, .inl ⟨SqL.of hD, fun l nl => ?_⟩⟩
      exact q _ _ (s1.trans (same_new nl)) (tl_newrow (E := ePs) nl hz)
/-! #### groups -/
theorem scGroups : FnScope ["web", "stand", "cell", "looks", "found", "one", "corner"] ["web", "stand", "cell"] (defScope sF_groups) := ⟨rfl, rfl, rfl, by decide +kernel, rfl, by decide +kernel, by decide +kernel⟩
def spGroups (C : Addr) : Sp := fun vs H Q _ => ∃ (a : Addr) (W : LW.Web) (v u : V) (s : LW.Stand) (n : Nat) (cell : List Nat), vs = [.ref a, v, u] ∧ WebAt C H a W ∧ Tl eSt H v s ∧ LW.Part n s ∧ n ≤ 5 ∧ Tl eNs H u cell ∧ cell ∈ s ∧ cell.length ≤ 4 ∧
  ∀ p ys H', Same H H' → H p = none → H' p = some (.lst ys) → Ts eNs H' ys (LW.groups opsD W s cell) → Q (.ref p) H'
theorem ok_groups {f : Addr} {fd : FuncData} (T : Tx K mg C) (F : FN K "groups" sF_groups f fd) (GL : Gf P w K mg base 3 "look" ["web", "stand", "corner"] (spLook C)) : FnOk P w K mg base CX0 4 f fd ["web", "stand", "cell"] (spGroups C) := by
  refine FDok F scGroups (fun vs H Q E h => ?_) (fun cdv A outer s H vs Q E hr h => ?_)
  · obtain ⟨a, W, i, j, n, c, d, rfl, _⟩ := h
    rfl
  · obtain ⟨a, W, v, u, s, n, cell, rfl, hW, hv, hP, hn, hu, hcs, hc4, q⟩ := h
    obtain ⟨b, xs, rfl, hb, hts⟩ := tl_row.mp hv
    obtain ⟨ca, cxs, rfl, hca, hcts⟩ := tl_row.mp hu
    have ecx := ts_nat.mp hcts
    refine ⟨_, pss_cons (ps_set (i := 3) scGroups.nd rfl (.inr rfl) (pe_dcK (own := [("corner", 6)]) (g := gName 6) (tt := tYes) rfl scGroups.nd (pi_tup (pv 2)) (blkOk_by (by kernel_rfl)) (fun _ _ _ _ _ => pg_name (i := 6) scGroups.nd rfl (.inl rfl)) (fun _ _ _ _ _ => pts_nil) (fun _ _ _ _ _ => pv 6)
        (fun _ _ _ _ _ => pe_f GL hr (by rfl) (pa_cons (pv 0) (pa_cons (pv 1) (pa_cons (pv 6) pa_nil))))))
      (pss_cons (ps_set (i := 4) scGroups.nd rfl (.inl rfl) (pe_lst pa_nil))
      (pss_cons (ps_for PassesOwn.never rfl (pi_list (pe_callB (cr_sortedN eL rfl hr.units) (by rfl) T.srt PyProof.Rows.boot_sorted (pa_cons (pe_scN (own := [("corner", 6)]) (g := gName 6) (tt := tYes) (te := tDGet (tVar 3) (tVar 6)) hr.units rfl scGroups.nd (pi_tup (pv 2)) (blkOk_by (by kernel_rfl))
            (fun _ _ _ _ _ => pg_name (i := 6) scGroups.nd rfl (.inl rfl)) (fun _ _ _ _ _ => pts_nil) (fun _ _ _ _ _ => pe_dget (hu_of hr) (pv 3) (pv 6) (fun _ _ => rfl))) pa_nil))) (pg_name (i := 5) scGroups.nd rfl (.inr rfl))
          (pss_one (ps_expr (pe_bm PySem.F.plainAttrs_list PySem.F.slot_list_append PySem.F.type_list_append mt_append (pv 4) (pa_cons (pe_callTy call_tuple_of (by rfl) T.tup PyProof.Rows.boot_tuple
            (pa_cons (pe_lc (own := [("corner", 6)]) (g := gName 6) (tt := tTest (tOp (rEqE eL) (tDGet (tVar 3) (tVar 6)) (tVar 5))) rfl scGroups.nd (pi_tup (pv 2)) (blkOk_by (by kernel_rfl)) (fun _ _ _ _ _ => pg_name (i := 6) scGroups.nd rfl (.inl rfl))
              (fun _ _ _ _ _ => pts_one (pt_cmpR (op_eqE eL hr.units) (pe_dget (hu_of hr) (pv 3) (pv 6) (fun _ _ => rfl)) (pv 5) (nomark _))) (fun _ _ _ _ _ => pv 6)) pa_nil)) pa_nil)))))
      (pss_one (ps_ret (pv 4))))), ?_⟩
    have hnd : cell.Nodup := hP.cellNd hcs
    have lcx : cxs.length = cell.length := hcts.len
    -- looks = {..}
    refine ⟨.ref ca, rfl, ca, rfl, ⟨_, SqT.of hca⟩, fun D nD => ?_⟩
    refine dcP (walk_tup (xs := cxs)) (src := cell) hcts.len.symm (key := fun c => (c : Int)) (val := LW.look opsD W s) (Rel := fun H v l => Tl eL H v l) nD (hnd.map (f := fun c : Nat => (c : Int)) fun x y h => by omega) (fun _ _ _ _ h k t => tl_butK h k t)
      (fun H1 s1 => SqT.of (s1 _ _ hca)) (fun i H1 x H1' y => y_at y) (by omega) ?_ ?_
    · rintro i c x H1 H1' N hc s1 ⟨rfl, hx⟩ s1' _ hK
      obtain ⟨c', hc', tc⟩ := hcts.get hx
      rw [hc] at hc'
      cases hc'
      obtain rfl := tl_nat.mp tc
      refine ⟨rfl, tyes ⟨_, rfl, _, rfl, _, rfl, _, rfl, a, W, .ref b, s, n, c, rfl, hW.same s1, tl_same s1 hv, hP, hn, fun u H2 s2 t2 => ?_⟩⟩
      exact hK u H2 s2 t2
    · intro H1 kvs s1 hD hk
      -- found = []
      refine ⟨Nat.zero_le _, fun o no => ?_⟩
      have s2 : Same H (upd H1 o (.lst [])) := s1.trans (same_new no)
      have nDo : D ≠ o := ne_of_none hD no
      generalize eH2 : upd H1 o (.lst []) = H2 at s2
      have hD2 : H2 D = some (.dK kvs) := by rw [← eH2, upd_ne nDo]; exact hD
      have ho2 : H2 o = some (.lst []) := by rw [← eH2, upd_same]
      have s12 : Same H1 H2 := by rw [← eH2]; exact same_new no
      have hk2 : ∀ c, c ∈ cell → ∃ v, valV kvs (.inl (c : Int)) = some v ∧ Tl eL H2 v (LW.look opsD W s c) := fun c hc => by
        obtain ⟨v, e, t⟩ := hk c hc
        exact ⟨v, e, tl_same s12 t⟩
      clear hk
      -- the set
      refine ⟨.ref ca, rfl, ca, rfl, ⟨_, SqT.of (s2 _ _ hca)⟩, fun D2 nD2 => ?_⟩
      refine tc_it (walk_tup (xs := cxs)) (fun i H3 => But D2 H2 H3 ∧ ∃ M : List (Addr × LW.Look), H3 D2 = some (FewO P w D2 (elsOf eL M)) ∧ (∀ p, p ∈ M → Tl eL H2 (.ref p.1) p.2) ∧ (∀ l, l ∈ M.map (·.2) ↔ l ∈ (cell.take i).map (LW.look opsD W s)) ∧ (M.map (·.2)).Nodup ∧ M.length ≤ i)
        ⟨But.same (same_new nD2), [], upd_same, fun p hp => (by cases hp), fun l => by simp, List.nodup_nil, Nat.le_refl _⟩ (fun i H3 _ p => SqT.of (p.1 _ _ (ne_of_none (s2 _ _ hca) nD2) (s2 _ _ hca))) ?_ ?_
      · rintro i x H3 H3' hi ⟨b3, M, hD3, hM, hl, ndM, lenM⟩ ⟨rfl, hx⟩
        obtain ⟨c, hc, tc⟩ := hcts.get hx
        obtain rfl := tl_nat.mp tc
        obtain ⟨v, ev, tv⟩ := hk2 c (List.mem_of_getElem? hc)
        obtain ⟨bv, vxs, rfl, hbv, hvts⟩ := tl_row.mp (show Tl eL H2 v _ from tv)
        have D2f : ∀ x y, H2 x = some y → x ≠ D2 := fun x y e => ne_of_none e nD2
        have ts3 : TS H2 H3' := fun x ys e => b3 _ _ (D2f _ _ e) e
        have tk := take_next' hc
        have kk : (∀ p ∈ elsOf eL M, TEl H3' p.2 p.1) := fun p hp => by
          obtain ⟨m, hm, rfl⟩ := List.mem_map.mp hp
          exact ⟨tl_mono ts3 (hM m hm), eL.tame _, Nat.le_trans (eL.dep _) (by decide)⟩
        have memI : eL.e (LW.look opsD W s c) ∈ (elsOf eL M).map (·.2) ↔ LW.look opsD W s c ∈ M.map (·.2) := by
          unfold elsOf
          rw [List.map_map, List.mem_map, List.mem_map]
          exact ⟨fun ⟨m, h1, h2⟩ => ⟨m, h1, eL.inj _ _ h2⟩, fun ⟨m, h1, h2⟩ => ⟨m, h1, congrArg eL.e h2⟩⟩
        have lenE : (elsOf eL M).length = M.length := List.length_map ..
        refine ⟨rfl, tyes ⟨.ref D, rfl, .int c, rfl, D, .ref bv, rfl, ?_, elsOf eL M, bv, eL.e (LW.look opsD W s c), rfl, ⟨tl_mono ts3 tv, eL.tame _, Nat.le_trans (eL.dep _) (by decide)⟩, hD3, kk, fun _ => ?_, fun L' k1 k2 => ?_⟩⟩
        · have := DGet.k (k := Sum.inl (c : Int)) (b3 _ _ (D2f _ _ hD2) hD2)
          rw [ev] at this
          exact this
        · omega
        · have bt : But D2 H2 (upd H3' D2 (FewO P w D2 L')) := b3.trans But.upd
          by_cases hm : LW.look opsD W s c ∈ M.map (·.2)
          · rw [k1 (memI.mpr hm)] at bt ⊢
            refine ⟨bt, M, upd_same, hM, fun l => ?_, ndM, by omega⟩
            rw [hl l, tk, List.map_append, List.mem_append]
            refine ⟨.inl, fun z => ?_⟩
            rcases z with z | z
            · exact z
            · simp only [List.map_cons, List.map_nil, List.mem_singleton] at z
              rw [z]
              exact (hl _).mp hm
          · have pm := k2 fun z => hm (memI.mp z)
            obtain ⟨M', hM', rfl⟩ := perm_back (fun p : Addr × LW.Look => (p.1, eL.e p.2)) ((bv, LW.look opsD W s c) :: M) L' pm
            refine ⟨bt, M', upd_same, fun p hp => ?_, fun l => ?_, ?_, ?_⟩
            · rcases List.mem_cons.mp (hM'.mem_iff.mp hp) with rfl | hp
              · exact tv
              · exact hM p hp
            · rw [(hM'.map (·.2)).mem_iff, tk, List.map_append, List.mem_append, List.map_cons, List.mem_cons, hl l]
              simp only [List.map_cons, List.map_nil, List.mem_singleton]
              exact ⟨fun z => z.elim .inr .inl, fun z => z.elim .inr .inl⟩
            · exact (hM'.map (·.2)).nodup_iff.mpr (List.nodup_cons.mpr ⟨hm, ndM⟩)
            · rw [hM'.length_eq, List.length_cons]
              omega
      · rintro H3 ⟨b3, M, hD3, hM, hl, ndM, lenM⟩
        have D2f : ∀ x y, H2 x = some y → x ≠ D2 := fun x y e => ne_of_none e nD2
        have s3 : Same H2 H3 := fun x y e => b3 _ _ (D2f _ _ e) e
        rw [lcx, List.take_length] at hl
        have s5 : 0 < s.length := List.length_pos_of_mem hcs
        refine ⟨D2, M, rfl, hD3, fun p hp => tl_same s3 (hM p hp), fun p hp => ?_, by decide, fun p ys np hys => ?_⟩
        · obtain ⟨c, _, e⟩ := List.mem_map.mp ((hl p.2).mp (List.mem_map.mpr ⟨p, hp, rfl⟩))
          rw [← e]
          cases s with
          | nil => simp at s5
          | cons c0 s => exact ⟨_, _, rfl⟩
        · have esrt : (M.map (·.2)).mergeSort (le eL) = opsD.srtL (cell.map (LW.look opsD W s)) := srtD_of eL ndM hl
          rw [esrt] at hys
          have s4 : Same H (upd H3 p (.lst ys)) := (s2.trans s3).trans (same_new np)
          have s24 : Same H2 (upd H3 p (.lst ys)) := s3.trans (same_new np)
          have ts4 : Ts eL (upd H3 p (.lst ys)) ys (opsD.srtL (cell.map (LW.look opsD W s))) := ts_same (same_new np) hys
          have hp4 : (upd H3 p (.lst ys)) p = some (.lst ys) := upd_same
          have npo : p ≠ o := fun e => by rw [e] at np; rw [s3 _ _ ho2] at np; cases np
          generalize upd H3 p (.lst ys) = H4 at s4 s24 ts4 hp4
          refine ⟨p, rfl, ⟨_, SqL.of hp4⟩, ?_⟩
          have lys : ys.length = (opsD.srtL (cell.map (LW.look opsD W s))).length := hys.len
          have lls : (opsD.srtL (cell.map (LW.look opsD W s))).length ≤ 5 := by
            rw [← esrt, (List.mergeSort_perm _ _).length_eq, List.length_map]
            omega
          refine for_it (walk_list (xs := ys)) (fun i σ H5 => (∃ y5 y6, σ = [some (.ref a), some (.ref b), some (.ref ca), some (.ref D), some (.ref o), y5, y6]) ∧ But o H4 H5 ∧ ∃ acc, H5 o = some (.lst acc) ∧ acc.length ≤ i ∧
              Ts eNs H5 acc (((opsD.srtL (cell.map (LW.look opsD W s))).take i).map fun l => cell.filter fun c => decide (LW.look opsD W s c = l)))
            ⟨⟨_, _, rfl⟩, But.same same_refl, [], s24 _ _ ho2, Nat.le_refl _, .nil⟩ (fun i σ H5 _ z => SqL.of (z.2.1 _ _ npo hp4)) ?_ ?_
          · rintro i x σ H5 H5' hi ⟨⟨y5, y6, rfl⟩, b5, acc, ho5, lacc, tacc⟩ ⟨rfl, hx⟩
            obtain ⟨l, hl5, tl5⟩ := ts4.get hx
            have ts5 : TS H4 H5' := fun x ys e => b5 _ _ (fun z => by rw [z, s24 _ _ ho2] at e; cases e) e
            have tk := take_next' hl5
            have hca5 : H5' ca = some (.tup cxs) := ts5 _ _ (s4 _ _ hca)
            refine ⟨.ref o, rfl, .inl ⟨rfl, _, SqL.of ho5⟩, ?_⟩
            refine ⟨.ref ca, rfl, ca, rfl, ⟨_, SqT.of hca5⟩, fun D3 nD3 => ?_⟩
            refine lcP (walk_tup (xs := cxs)) (src := cell) hcts.len.symm (sel := fun c => decide (LW.look opsD W s c = l)) (val := fun c => c) (Rel := fun H v c => Tl Enc.nat H v c) nD3 (fun _ _ _ _ h k t => tl_but h k t) (fun H6 s6 => SqT.of (s6 _ _ hca5)) (fun i H6 x H6' y => y_at y) (by omega) ?_ ?_
            · rintro j c x2 H6 H6' N6 K6 hc s6 ⟨rfl, hx6⟩ s6' _ hN6 hK6
              obtain ⟨c', hc', tc⟩ := hcts.get hx6
              rw [hc] at hc'
              cases hc'
              obtain rfl := tl_nat.mp tc
              obtain ⟨v, ev, tv⟩ := hk2 c (List.mem_of_getElem? hc)
              have hD6 : H6' D = some (.dK kvs) := s6 _ _ (b5 _ _ nDo (s24 _ _ hD2))
              have tv6 : Tl eL H6' v (LW.look opsD W s c) := tl_mono (TS.trans ts5 (TS.same s6)) (tl_same s24 tv)
              refine ⟨rfl, .ref D, rfl, .int c, rfl, D, v, rfl, ?_, x, rfl, LW.look opsD W s c, l, tv6, tl_mono (TS.trans ts5 (TS.same s6)) tl5, by decide, _, rfl, ?_⟩
              · have := DGet.k (k := Sum.inl (c : Int)) hD6
                rw [ev] at this
                exact this
              · cases e : decide (LW.look opsD W s c = l) with
                | false => exact iteF (hN6 _ e same_refl)
                | true => exact iteT ⟨_, rfl, hK6 _ _ e same_refl (tl_nat.mpr rfl)⟩
            · intro H6 zs s6 hD6 hz
              rw [List.map_id'] at hz
              refine ⟨D3, zs, rfl, .inl ⟨SqL.of hD6, fun t nt => ?_⟩⟩
              have ho6 : (upd H6 t (.tup zs)) o = some (.lst acc) := (same_new nt) _ _ (s6 _ _ ho5)
              have s56 : Same H5' (upd H6 t (.tup zs)) := s6.trans (same_new nt)
              refine ⟨o, acc, .ref t, rfl, rfl, ho6, ?_, ?_⟩
              · rw [sizeLine_eq]
                omega
              · refine ⟨⟨_, _, rfl⟩, (b5.trans (But.same s56)).trans But.upd, _, upd_same, ?_, ?_⟩
                · rw [List.length_append]
                  simp only [List.length_cons, List.length_nil]
                  omega
                · rw [tk, List.map_append]
                  have tup6 : TS (upd H6 t (.tup zs)) (upd (upd H6 t (.tup zs)) o (.lst (acc ++ [.ref t]))) := TS.upd fun xs e => by rw [ho6] at e; cases e
                  exact all2_snoc (ts_mono (TS.trans (TS.same s56) tup6) tacc) (tl_mono tup6 (tl_newrow (E := Enc.nat) nt hz))
          · rintro σ H5 ⟨⟨y5, y6, rfl⟩, b5, acc, ho5, lacc, tacc⟩
            rw [lys, List.take_length] at tacc
            refine ⟨_, rfl, q o acc H5 (fun x y e => ?_) (by
              cases z : H o with
              | none => rfl
              | some y => rw [s1 _ _ z] at no; cases no) ho5 tacc⟩
            refine b5 _ _ (fun z => ?_) (s4 _ _ e)
            rw [z] at e
            rw [s1 _ _ e] at no
            cases no
end
end LK
set_option autoImplicit false
set_option linter.all false
set_option maxRecDepth 100000
set_option synthInstance.maxSize 1000
set_option Elab.async false
namespace LK
open PySem PySem.Spec L2
/-- a stand of a small web -/
structure Good (W : LW.Web) (s : LW.Stand) : Prop where
  part : LW.Part W.n s
  n5 : W.n ≤ 5
  sm : ∀ cell, cell ∈ s → cell.length ≤ 4
theorem good_next {W : LW.Web} {s : LW.Stand} (g : Good W s) : Good W (LW.next opsD W s) := by
  refine ⟨LW.part_next opsD W g.part, g.n5, fun cell hc => ?_⟩
  obtain ⟨c0, h0, hg⟩ := List.mem_flatMap.mp hc
  obtain ⟨l, _, rfl⟩ := List.mem_map.mp hg
  exact Nat.le_trans (List.length_filter_le _ _) (g.sm c0 h0)
theorem good_refF {W : LW.Web} : ∀ (f : Nat) {s : LW.Stand}, Good W s → Good W (LW.refF opsD W f s)
  | 0, s, g => by
    unfold LW.refF
    exact g
  | f + 1, s, g => by
    unfold LW.refF
    split
    · exact good_refF f (good_next g)
    · exact g
theorem good_refined {W : LW.Web} {s : LW.Stand} (g : Good W s) : Good W (LW.refined opsD W s) := good_refF _ g
theorem good_split {W : LW.Web} {s : LW.Stand} (g : Good W s) {c : Nat} (hc : c < W.n) : Good W (LW.split s c) := by
  refine ⟨LW.part_split g.part hc, g.n5, fun cell h => ?_⟩
  unfold LW.split at h
  split at h
  · rcases List.mem_append.mp h with h | h
    · exact g.sm cell (List.mem_of_mem_take h)
    · rcases List.mem_cons.mp h with rfl | h
      · simp
      · rcases List.mem_cons.mp h with rfl | h
        · refine Nat.le_trans (List.length_filter_le _ _) ?_
          rename_i z
          rw [List.getD_eq_getElem?_getD] at z ⊢
          cases e : s[LW.cellOf s c]? with
          | none => simp
          | some cl => exact g.sm _ (List.mem_of_getElem? e)
        · exact g.sm cell (List.mem_of_mem_drop h)
  · exact g.sm cell h
theorem good_singled {W : LW.Web} {s : LW.Stand} (g : Good W s) {c : Nat} (hc : c < W.n) : Good W (LW.singled opsD W s c) := good_refined (good_split g hc)
theorem groups_few {W : LW.Web} {s : LW.Stand} (cell : List Nat) : (LW.groups opsD W s cell).length ≤ cell.length := by
  have h1 := LW.flat_len (s := LW.groups opsD W s cell) fun g hg => LW.groups_ne opsD W s cell g hg
  rw [(LW.groups_perm opsD W s cell).length_eq] at h1
  exact h1
def tmLst (te : TE) : TM := fun σ H D Nx => te σ H fun y H4 => ∃ acc, H4 D = some (.lst acc) ∧ acc.length < sizeLine ∧ Nx (upd H4 D (.lst (acc ++ [y])))
section
variable {P : Program} {w : World} {K : PySem.W.Frag} {mg : Str → Option Value} {base : Heap} {C : Addr}
/-! #### next_stand -/
theorem scNext : FnScope ["web", "stand", "cell", "group"] ["web", "stand"] (defScope sF_next_stand) := ⟨rfl, rfl, rfl, by decide +kernel, rfl, by decide +kernel, by decide +kernel⟩
def spNext (C : Addr) : Sp := fun vs H Q _ => ∃ (a : Addr) (W : LW.Web) (v : V) (s : LW.Stand), vs = [.ref a, v] ∧ WebAt C H a W ∧ Tl eSt H v s ∧ Good W s ∧ ∀ u H', Same H H' → Tl eSt H' u (LW.next opsD W s) → Q u H'
theorem ok_next {f : Addr} {fd : FuncData} (T : Tx K mg C) (F : FN K "next_stand" sF_next_stand f fd) (GG : Gf P w K mg base 4 "groups" ["web", "stand", "cell"] (spGroups C)) : FnOk P w K mg base CX0 5 f fd ["web", "stand"] (spNext C) := by
  refine FDok F scNext (fun vs H Q E h => ?_) (fun cdv A outer s H vs Q E hr h => ?_)
  · obtain ⟨a, W, i, j, rfl, _⟩ := h
    rfl
  · obtain ⟨a, W, v, s, rfl, hW, hv, hg, q⟩ := h
    obtain ⟨b, xs, rfl, hb, hts⟩ := tl_row.mp hv
    have n5 := hg.n5
    obtain ⟨hs5, hc5⟩ := part_small hg.part n5
    have lxs := hts.len
    refine ⟨_, pss_one (ps_ret (pe_callTy call_tuple_of (by rfl) T.tup PyProof.Rows.boot_tuple (pa_cons (pe_lc2 (own := [("cell", 2), ("group", 3)]) (vs1 := [3]) (g := gName 2) (g1 := gName 3) (tt := tYes) (tt1 := tYes) (te := tVar 3) (wi1 := iList K (tCall (spGroups C) [] E0 (tCons (tVar 0) (tCons (tVar 1) (tCons (tVar 2) tNil)))))
      rfl scNext.nd (pi_tup (pv 1)) (blkOk_by (by kernel_rfl)) (by decide) (fun _ _ _ _ _ => pg_name (i := 2) scNext.nd rfl (.inl rfl)) (fun _ _ _ _ _ => pts_nil) (fun _ _ _ _ _ => pi_list (pe_f GG hr (by rfl) (pa_cons (pv 0) (pa_cons (pv 1) (pa_cons (pv 2) pa_nil)))))
      (fun _ _ _ _ _ => pg_name (i := 3) scNext.nd rfl (.inl rfl)) (fun _ _ _ _ _ => pts_nil) (fun _ _ _ _ _ => pv 3)) pa_nil))), ?_⟩
    refine ⟨.ref b, rfl, b, rfl, ⟨_, SqT.of hb⟩, fun D nD => ?_⟩
    refine tc_it (tm := tInner (iList K (tCall (spGroups C) [] E0 (tCons (tVar 0) (tCons (tVar 1) (tCons (tVar 2) tNil))))) (gName 3) tYes (tmLst (tVar 3)) [3]) (walk_tup (xs := xs))
      (fun i H1 => Same H H1 ∧ ∃ acc, H1 D = some (.lst acc) ∧ acc.length ≤ 5 * i ∧ Ts eNs H1 acc ((s.take i).flatMap (LW.groups opsD W s))) ⟨same_new nD, [], upd_same, Nat.le_refl _, .nil⟩ (fun i H1 _ p => SqT.of (p.1 _ _ hb)) ?_ ?_
    · rintro i x H1 H1' hi ⟨s1, acc, hD, lacc, tacc⟩ ⟨rfl, hx⟩
      obtain ⟨cell, hcell, tcell⟩ := hts.get hx
      have memc := List.mem_of_getElem? hcell
      have tk := take_next' hcell
      refine ⟨rfl, tyes ⟨_, rfl, _, rfl, _, rfl, a, W, .ref b, x, s, W.n, cell, rfl, hW.same s1, tl_same s1 hv, hg.part, n5, tl_same s1 tcell, memc, hg.sm _ memc, fun p ys H2 s2 np hp hys => ?_⟩⟩
      have lys := hys.len
      have lgr := groups_few (W := W) (s := s) cell
      have lce := hc5 _ memc
      have npD : p ≠ D := fun e => by rw [e, hD] at np; cases np
      refine ⟨p, rfl, ⟨_, SqL.of hp⟩, ?_⟩
      refine ti_it (tm := tmLst (tVar 3)) (walk_list (xs := ys)) (fun j H3 => But D H2 H3 ∧ ∃ acc, H3 D = some (.lst acc) ∧ acc.length ≤ 5 * i + j ∧ Ts eNs H3 acc ((s.take i).flatMap (LW.groups opsD W s) ++ (LW.groups opsD W s cell).take j))
        ⟨But.same same_refl, acc, s2 _ _ hD, lacc, by simpa using ts_same s2 tacc⟩ (fun j H3 _ z => SqL.of (z.1 _ _ npD hp)) ?_ ?_
      · rintro j y H3 H3' hj ⟨b3, acc3, hD3, l3, t3⟩ ⟨rfl, hy⟩
        obtain ⟨gr, hgr, tgr⟩ := hys.get hy
        have lst2 : ∃ acc, H2 D = some (.lst acc) := ⟨_, s2 _ _ hD⟩
        have ty : Tl eNs H3' y gr := tl_but lst2 b3 tgr
        have tup3 : TS H3' (upd H3' D (.lst (acc3 ++ [y]))) := TS.upd fun xs e => by rw [hD3] at e; cases e
        refine ⟨rfl, tyes ⟨_, rfl, acc3, hD3, ?_, b3.trans But.upd, _, upd_same, ?_, ?_⟩⟩
        · rw [sizeLine_eq]
          omega
        · rw [List.length_append]
          simp only [List.length_cons, List.length_nil]
          omega
        · rw [take_next' hgr, ← List.append_assoc]
          exact all2_snoc (ts_mono tup3 t3) (tl_mono tup3 ty)
      · rintro H3 ⟨b3, acc3, hD3, l3, t3⟩
        rw [lys, List.take_length] at t3
        refine ⟨fun x y e => ?_, acc3, hD3, by omega, ?_⟩
        · by_cases z : x = D
          · rw [z, nD] at e; cases e
          · exact b3 _ _ z (s2 _ _ (s1 _ _ e))
        · rw [tk, List.flatMap_append]
          simpa using t3
    · rintro H1 ⟨s1, acc, hD, lacc, tacc⟩
      rw [hts.len, List.take_length] at tacc
      refine ⟨D, acc, rfl, .inl ⟨SqL.of hD, fun l nl => ?_⟩⟩
      exact q _ _ (s1.trans (same_new nl)) (tl_newrow (E := eNs) nl tacc)
/-! #### rounds, refined -/
theorem scRounds : FnScope ["web", "stand", "found", "after"] ["web", "stand"] (defScope sF_rounds) := ⟨rfl, rfl, rfl, by decide +kernel, rfl, by decide +kernel, by decide +kernel⟩
def spRounds (C : Addr) : Sp := fun vs H Q _ => ∃ (a : Addr) (W : LW.Web) (v : V) (s : LW.Stand), vs = [.ref a, v] ∧ WebAt C H a W ∧ Tl eSt H v s ∧ Good W s ∧ ∀ p fs u H', Same H H' → H' p = some (.lst (fs ++ [u])) → Tl eSt H' u (LW.refined opsD W s) → Q (.ref p) H'
theorem ok_rounds {f : Addr} {fd : FuncData} (T : Tx K mg C) (F : FN K "rounds" sF_rounds f fd) (GN : Gf P w K mg base 5 "next_stand" ["web", "stand"] (spNext C)) : FnOk P w K mg base CX0 6 f fd ["web", "stand"] (spRounds C) := by
  refine FDok F scRounds (fun vs H Q E h => ?_) (fun cdv A outer s H vs Q E hr h => ?_)
  · obtain ⟨a, W, i, j, rfl, _⟩ := h
    rfl
  · obtain ⟨a, W, v, s, rfl, hW, hv, hg, q⟩ := h
    refine ⟨_, pss_cons (ps_set (i := 2) scRounds.nd rfl (.inl rfl) (pe_lst (pa_cons (pv 1) pa_nil)))
      (pss_cons (ps_set (i := 3) scRounds.nd rfl (.inl rfl) (pe_f GN hr (by rfl) (pa_cons (pv 0) (pa_cons (pv 1) pa_nil))))
      (pss_cons (ps_while PassesOwn.never (pt_cmpR op_gt (pe_callB call_len_seq (by rfl) T.len PySem.boot_len (pa_cons (pv 3) pa_nil)) (pe_callB call_len_seq (by rfl) T.len PySem.boot_len (pa_cons (pe_ix ix_list (pv 2) (pe_un un_neg pe_int) (fun _ _ => rfl)) pa_nil)) (nomark _))
        (pss_cons (ps_expr (pe_bm PySem.F.plainAttrs_list PySem.F.slot_list_append PySem.F.type_list_append mt_append (pv 2) (pa_cons (pv 3) pa_nil)))
        (pss_one (ps_set (i := 3) scRounds.nd rfl (.inl rfl) (pe_f GN hr (by rfl) (pa_cons (pv 0) (pa_cons (pv 3) pa_nil)))))))
      (pss_one (ps_ret (pv 2))))), ?_⟩
    refine ⟨v, rfl, by show 1 ≤ sizeLine; decide, fun o no => ?_⟩
    have s1 : Same H (upd H o (.lst [v])) := same_new no
    refine ⟨.ref a, rfl, v, rfl, a, W, v, s, rfl, hW.same s1, tl_same s1 hv, hg, fun u H2 s2 t2 => ?_⟩
    refine ⟨fun m σ H3 => ∃ fs v3 u3 s3, σ = [some (.ref a), some v, some (.ref o), some u3] ∧ Same H H3 ∧ H3 o = some (.lst (fs ++ [v3])) ∧ Tl eSt H3 v3 s3 ∧ Tl eSt H3 u3 (LW.next opsD W s3) ∧ Good W s3 ∧ LW.refined opsD W s = LW.refined opsD W s3 ∧ fs.length ≤ s3.length ∧ m = W.n - s3.length,
      ⟨_, [], v, u, s, rfl, s1.trans s2, s2 _ _ upd_same, tl_same (s1.trans s2) hv, t2, hg, rfl, Nat.zero_le _, rfl⟩, ?_⟩
    rintro m σ H3 ⟨fs, v3, u3, s3, rfl, s03, ho3, tv3, tu3, g3, er, lf, rfl⟩
    obtain ⟨bu, xu, rfl, hbu, tsu⟩ := tl_row.mp tu3
    obtain ⟨bv, xv, rfl, hbv, tsv⟩ := tl_row.mp tv3
    have lu := tsu.len
    have lv := tsv.len
    have step := LW.refined_step opsD W g3.part
    have nlen := (good_next g3).part.len
    have n5 := hg.n5
    refine ⟨_, rfl, bu, xu, rfl, .inr (SqT.of hbu), .ref o, rfl, 1, rfl, o, _, -1, .ref bv, rfl, rfl, SqL.of ho3, atI_last _ _, bv, xv, rfl, .inr (SqT.of hbv), _, _, rfl, rfl, _, rfl, ite2 (fun e => ?_) fun e => ?_⟩
    · have big := of_decide_eq_true e
      rw [if_pos (by omega)] at step
      refine ⟨fun σ' H4 => ∃ fs v3 u3 s4, σ' = [some (.ref a), some v, some (.ref o), some u3] ∧ Same H H4 ∧ H4 o = some (.lst (fs ++ [v3])) ∧ Tl eSt H4 v3 s4 ∧ Tl eSt H4 u3 (LW.next opsD W s4) ∧ Good W s4 ∧ LW.refined opsD W s = LW.refined opsD W s4 ∧ fs.length ≤ s4.length ∧ W.n - s4.length < W.n - s3.length, fun σ' H4 h => ?_, ?_⟩
      · obtain ⟨fs4, v4, u4, s4, h1, h2, h3, h4, h5, h6, h7, h8, h9⟩ := h
        exact ⟨_, h9, fs4, v4, u4, s4, h1, h2, h3, h4, h5, h6, h7, h8, rfl⟩
      · refine ⟨.ref o, rfl, .inl ⟨rfl, _, SqL.of ho3⟩, .ref bu, rfl, o, _, _, rfl, rfl, ho3, ?_, ?_⟩
        · rw [List.length_append, sizeLine_eq]
          simp only [List.length_cons, List.length_nil]
          have := g3.part.len
          omega
        · have k4 : Kp H3 (upd H3 o (.lst (fs ++ [.ref bv] ++ [.ref bu]))) := Kp.lst ho3
          have s04 : Same H (upd H3 o (.lst (fs ++ [.ref bv] ++ [.ref bu]))) := same_at s03 no
          have tu4 := tl_kp k4 tu3
          refine ⟨.ref a, rfl, .ref bu, rfl, a, W, .ref bu, _, rfl, hW.same s04, tu4, good_next g3, fun u5 H5 s5 t5 => ?_⟩
          refine ⟨fs ++ [.ref bv], .ref bu, u5, LW.next opsD W s3, rfl, s04.trans s5, s5 _ _ upd_same, tl_same s5 tu4, t5, good_next g3, er.trans step, ?_, ?_⟩
          · rw [List.length_append]
            simp only [List.length_cons, List.length_nil]
            omega
          · omega
    · have small : ¬ xv.length < xu.length := fun z => e (decide_eq_true (by omega))
      rw [if_neg (by omega)] at step
      refine ⟨_, rfl, q o fs _ H3 s03 ho3 ?_⟩
      rw [er, step]
      exact tv3
theorem scRefined : FnScope ["web", "stand"] ["web", "stand"] (defScope sF_refined) := ⟨rfl, rfl, rfl, by decide +kernel, rfl, by decide +kernel, by decide +kernel⟩
def spRefined (C : Addr) : Sp := fun vs H Q _ => ∃ (a : Addr) (W : LW.Web) (v : V) (s : LW.Stand), vs = [.ref a, v] ∧ WebAt C H a W ∧ Tl eSt H v s ∧ Good W s ∧ ∀ u H', Same H H' → Tl eSt H' u (LW.refined opsD W s) → Q u H'
theorem ok_refined {f : Addr} {fd : FuncData} (F : FN K "refined" sF_refined f fd) (GR : Gf P w K mg base 6 "rounds" ["web", "stand"] (spRounds C)) : FnOk P w K mg base CX0 7 f fd ["web", "stand"] (spRefined C) := by
  refine FDok F scRefined (fun vs H Q E h => ?_) (fun cdv A outer s H vs Q E hr h => ?_)
  · obtain ⟨a, W, i, j, rfl, _⟩ := h
    rfl
  · obtain ⟨a, W, v, s, rfl, hW, hv, hg, q⟩ := h
    refine ⟨_, pss_one (ps_ret (pe_ix ix_list (pe_f GR hr (by rfl) (pa_cons (pv 0) (pa_cons (pv 1) pa_nil))) (pe_un un_neg pe_int) (fun _ _ => rfl))), ?_⟩
    refine ⟨.ref a, rfl, v, rfl, a, W, v, s, rfl, hW, hv, hg, fun p fs u H1 s1 hp t1 => ?_⟩
    exact ⟨1, rfl, p, _, -1, u, rfl, rfl, SqL.of hp, atI_last _ _, q u H1 s1 t1⟩
end
end LK
set_option autoImplicit false
set_option linter.all false
set_option maxRecDepth 100000
set_option synthInstance.maxSize 1000
set_option Elab.async false
namespace LK
open PySem PySem.Spec L2
/-! ### slices and sums of tuples, either way -/
def rSlZ : V → Option Int → Option Int → Hp → VK → Prop := fun x lo hi H Q => ∃ a xs, x = .ref a ∧ H a = some (.tup xs) ∧ ∀ p H', Same H H' → H' p = some (.tup (cutV xs lo hi)) → Q (.ref p) H'
theorem cut_whole {xs : List V} {lo hi : Option Int} (h : HT.sIx xs.length 0 lo = 0 ∧ HT.sIx xs.length xs.length hi = xs.length) : cutV xs lo hi = xs := by
  unfold cutV
  rw [h.1, h.2]
  simp
theorem sl_tupZ {X : Cx} : SlR X rSlZ := by
  intro pins s σ H x v vl vu lo hi sl Q I rx hs pl pu h
  obtain ⟨a, xs, rfl, ha, q⟩ := h
  refine sl_tupA pins s σ H (.ref a) v vl vu lo hi sl Q I rx hs pl pu ⟨a, xs, rfl, SqT.of ha, fun hw => ?_, fun _ p np => ?_⟩
  · exact q a H same_refl (by rw [cut_whole hw]; exact ha)
  · exact q p _ (same_new np) upd_same
theorem cut_take (xs : List V) (n : Nat) : cutV xs none (some (n : Int)) = xs.take n := by
  unfold cutV
  rw [HT.sIx_none, HT.sIx_nat]
  simp only [List.drop_zero, Nat.sub_zero]
  rcases Nat.le_total n xs.length with h | h
  · rw [Nat.min_eq_left h]
  · rw [Nat.min_eq_right h, List.take_length, List.take_of_length_le h]
theorem cut_drop (xs : List V) (n : Nat) : cutV xs (some (n : Int)) none = xs.drop n := by
  unfold cutV
  rw [HT.sIx_none, HT.sIx_nat]
  rcases Nat.le_total n xs.length with h | h
  · rw [Nat.min_eq_left h, List.take_of_length_le (by rw [List.length_drop]; omega)]
  · rw [Nat.min_eq_right h, List.drop_of_length_le h, List.drop_of_length_le (Nat.le_refl _)]
    simp
def rCatZ : R2 := fun x y H Q => ∃ a b xs ys, x = .ref a ∧ y = .ref b ∧ H a = some (.tup xs) ∧ H b = some (.tup ys) ∧ xs.length + ys.length ≤ sizeLine ∧ ∀ p H', Same H H' → H' p = some (.tup (xs ++ ys)) → Q (.ref p) H'
theorem op_catZ {X : Cx} : OpR X (binaryOp .Add) rCatZ := by
  intro pins s σ H x y v u Q I rx ry h
  obtain ⟨a, b, xs, ys, rfl, rfl, ha, hb, hz, q⟩ := h
  refine op_catA pins s σ H (.ref a) (.ref b) v u Q I rx ry ⟨a, b, xs, ys, rfl, rfl, SqT.of ha, SqT.of hb, hz, fun e => ?_, fun _ e => ?_, fun _ _ p np => ?_⟩
  · exact q b H same_refl (by rw [e]; exact hb)
  · exact q a H same_refl (by rw [e, List.append_nil]; exact ha)
  · exact q p _ (same_new np) upd_same
/-- x in a tuple of numbers -/
theorem inV_nat (x : Nat) (l : List Nat) : inV (.int (x : Int)) (l.map fun (i : Nat) => V.int (i : Int)) = decide (x ∈ l) := by
  unfold inV
  rw [List.any_map]
  rw [Bool.eq_iff_iff, List.any_eq_true, decide_eq_true_eq]
  constructor
  · rintro ⟨y, hy, e⟩
    have e' : ((y : Int) == (x : Int)) = true := e
    rw [beq_iff_eq] at e'
    rw [← Int.ofNat.inj e']
    exact hy
  · intro h
    exact ⟨x, h, show ((x : Int) == (x : Int)) = true from beq_self_eq_true _⟩
theorem flat_nats (l : List Nat) : (l.map fun (i : Nat) => V.int (i : Int)).all flatV = true := by
  rw [List.all_map, List.all_eq_true]
  intro x _
  rfl
/-- the order of numbers -/
theorem le_num (a b : Int) : le Enc.num a b = decide (a ≤ b) := by
  unfold le
  show (!PySem.W.dataLt (.int b) (.int a)) = _
  simp only [PySem.W.dataLt, PySem.W.keyToks, PyProof.Rows.lexLt, Bool.and_false, Bool.or_false]
  show (!decide (b < a)) = decide (a ≤ b)
  by_cases h : a ≤ b
  · rw [decide_eq_true h, decide_eq_false (by omega)]
    rfl
  · rw [decide_eq_false h, decide_eq_true (by omega)]
    rfl
theorem srt_nums {cs ks ys : List Int} (nd : ks.Nodup) (h : ∀ x, x ∈ ks ↔ x ∈ cs) (pm : ys.Perm ks) (pw : ys.Pairwise (· ≤ ·)) : ys = opsD.srtI cs := by
  show ys = srtD Enc.num cs
  rw [← srtD_of Enc.num nd h]
  refine List.Perm.eq_of_pairwise (fun a b _ _ => le_anti Enc.num a b) (pw.imp fun {a b} z => ?_) (List.pairwise_mergeSort (le_trans Enc.num) (le_total Enc.num) ks) (pm.trans (List.mergeSort_perm _ _).symm)
  rw [le_num]
  exact decide_eq_true z
theorem valV_no {kvs : List (L2.Key × V)} {k : L2.Key} (h : k ∉ kvs.map (·.1)) : valV kvs k = none := by
  cases e : valV kvs k with
  | none => rfl
  | some v => exact absurd (valV_in e) h
abbrev rTup (K : PySem.W.Frag) : List V → Hp → VK → Prop := fun xs H Q => ∃ p ys, xs = [.ref p] ∧ ((SqL K H p ys ∧ ∀ l, H l = none → Q (.ref l) (upd H l (.tup ys))) ∨ (SqT K H p ys ∧ Q (.ref p) H))
/-- a web whose corners are few, and no colour of more than four -/
structure Fit (W : LW.Web) : Prop where
  n5 : W.n ≤ 5
  low : ∀ k, ((List.range W.n).filter fun c => decide (W.col c = k)).length ≤ 4
theorem good_by {W : LW.Web} (h : Fit W) : Good W (LW.byColours opsD W) := ⟨LW.part_byColours opsD W, h.n5, fun cell hc => by
  obtain ⟨k, _, rfl⟩ := List.mem_map.mp hc
  exact h.low k⟩
theorem good_root {W : LW.Web} (h : Fit W) : Good W (LW.root opsD W) := good_refined (good_by h)
theorem good_fold {W : LW.Web} : ∀ (row : List Nat) {s : LW.Stand}, Good W s → (∀ x, x ∈ row → x < W.n) → Good W (row.foldl (LW.singled opsD W) s)
  | [], _, g, _ => g
  | c :: row, _, g, h => good_fold row (good_singled g (h c List.mem_cons_self)) fun x hx => h x (List.mem_cons_of_mem _ hx)
theorem good_row {W : LW.Web} (h : Fit W) {row : List Nat} (hr : ∀ x, x ∈ row → x < W.n) : Good W (LW.rowStand opsD W row) := good_fold row (good_root h) hr
end LK
set_option autoImplicit false
set_option linter.all false
set_option maxRecDepth 100000
set_option synthInstance.maxSize 1000
set_option Elab.async false
namespace LK
open PySem PySem.Spec L2
section
variable {P : Program} {w : World} {K : PySem.W.Frag} {mg : Str → Option Value} {base : Heap} {C : Addr}
/-! #### by_colours, root -/
theorem scByC : FnScope ["web", "rows", "corner", "colour"] ["web"] (defScope sF_by_colours) := ⟨rfl, rfl, rfl, by decide +kernel, rfl, by decide +kernel, by decide +kernel⟩
def spByC (C : Addr) : Sp := fun vs H Q _ => ∃ (a : Addr) (W : LW.Web), vs = [.ref a] ∧ WebAt C H a W ∧ W.n ≤ 5 ∧ ∀ u H', Same H H' → Tl eSt H' u (LW.byColours opsD W) → Q u H'
theorem range_filter_snoc (p : Nat → Bool) (i : Nat) : (List.range (i + 1)).filter p = (List.range i).filter p ++ (if p i = true then [i] else []) := by
  rw [List.range_succ, List.filter_append]
  cases h : p i <;> simp [h]
theorem ok_byC {f : Addr} {fd : FuncData} (T : Tx K mg C) (F : FN K "by_colours" sF_by_colours f fd) : FnOk P w K mg base CX0 1 f fd ["web"] (spByC C) := by
  refine FDok F scByC (fun vs H Q E h => ?_) (fun cdv A outer s H vs Q E hr h => ?_)
  · obtain ⟨a, W, rfl, _⟩ := h
    rfl
  · obtain ⟨a, W, rfl, hW, n5, q⟩ := h
    obtain ⟨dx, c, r, m, kv0, h1, h2, h3, h4⟩ := id hW
    refine ⟨_, pss_cons (ps_set (i := 1) scByC.nd rfl (.inr rfl) pe_dnewK)
      (pss_cons (ps_for PassesOwn.never rfl (pi_enumT (by rfl) T.enu (pa_cons (pe_fld (pv 0) rfl) pa_nil)) (pg_tup rfl (pgs_cons (pg_name (i := 2) scByC.nd rfl (.inl rfl)) (pgs_cons (pg_name (i := 3) scByC.nd rfl (.inl rfl)) pgs_nil)))
        (pss_one (ps_expr (pe_bm PySem.F.plainAttrs_list PySem.F.slot_list_append PySem.F.type_list_append mt_append (pe_dsetd (pv 1) (pv 3) (pe_lst pa_nil) ⟨rfl, rfl, rfl, rfl⟩) (pa_cons (pv 2) pa_nil)))))
      (pss_one (ps_ret (pe_callTy call_tuple_of (by rfl) T.tup PyProof.Rows.boot_tuple (pa_cons (pe_lc (own := [("colour", 3)]) (g := gName 3) (tt := tYes) (te := tCB (rTup K) (tCons (tDGet (tVar 1) (tVar 3)) tNil)) rfl scByC.nd (pi_list (pe_callB (call_sortedDI rfl) (by rfl) T.srt PyProof.Rows.boot_sorted (pa_cons (pv 1) pa_nil)))
        (blkOk_by (by kernel_rfl)) (fun _ _ _ _ _ => pg_name (i := 3) scByC.nd rfl (.inl rfl)) (fun _ _ _ _ _ => pts_nil) (fun _ _ _ _ _ => pe_callTy call_tuple_of (by rfl) T.tup PyProof.Rows.boot_tuple (pa_cons (pe_dget (hu_of hr) (pv 1) (pv 3) (fun _ _ => rfl)) pa_nil))) pa_nil))))), ?_⟩
    refine fun D nD => ?_
    have s1 : Same H (upd H D (.dK [])) := same_new nD
    refine ⟨.ref a, rfl, a, C, dx, _, .ref c, rfl, s1 _ _ h1, T.cl, T.nC, lk_c, c, _, rfl, SqT.of (s1 _ _ h2), ?_⟩
    refine for_it (walk_enumT (xs := W.cs.map V.int)) (fun i σ H1 => (∃ y2 y3, σ = [some (.ref a), some (.ref D), y2, y3]) ∧ Same H H1 ∧ ∃ (kvs : List (L2.Key × V)) (ks : List Int) (f : Int → Addr), H1 D = some (.dK kvs) ∧ kvs.map (·.1) = ks.map Sum.inl ∧ ks.Nodup ∧ ks.length ≤ i ∧ (∀ k, k ∈ ks ↔ k ∈ W.cs.take i) ∧
        (∀ k, k ∈ ks → valV kvs (.inl k) = some (.ref (f k)) ∧ H (f k) = none ∧ H1 (f k) = some (.lst (((List.range i).filter fun x => decide (W.col x = k)).map fun (x : Nat) => V.int (x : Int)))) ∧ ∀ k k', k ∈ ks → k' ∈ ks → f k = f k' → k = k')
      ⟨⟨_, _, rfl⟩, s1, [], [], fun _ => D, upd_same, rfl, List.nodup_nil, Nat.le_refl _, fun k => by simp, fun k hk => (by cases hk), fun k k' hk => (by cases hk)⟩ (fun i σ H1 _ p => SqT.of (p.2.1 _ _ h2)) ?_ ?_
    · rintro i x σ H1 H1' hi ⟨⟨y2, y3, rfl⟩, s2, kvs, ks, f, hD, hks, ndk, lks, mem, hf, inj⟩ y
      obtain ⟨tp, x1, x2, rfl, ntp, rfl, e1, e2⟩ := y
      obtain rfl := Option.some.inj e1
      have e2' : (W.cs.map V.int)[i]? = some x2 := e2
      rw [List.getElem?_map] at e2'
      obtain ⟨k, hk, rfl⟩ := Option.map_eq_some_iff.mp e2'
      rw [List.length_map] at hi
      have lcs : W.cs.length ≤ 5 := n5
      have ck : W.col i = k := by
        unfold LW.Web.col
        rw [List.getD_eq_getElem?_getD, hk]
        rfl
      have tk := take_next' hk
      have st : Same H1 (upd H1 tp (.tup [.int (i : Nat), .int k])) := same_new ntp
      have hDt := st _ _ hD
      have lkv : kvs.length = ks.length := by
        have := congrArg List.length hks
        simpa using this
      have old : ∀ k', k' ∈ ks → k' ≠ k → ((List.range (i + 1)).filter fun x => decide (W.col x = k')) = (List.range i).filter fun x => decide (W.col x = k') := fun k' _ ne => by
        rw [range_filter_snoc, if_neg (by rw [decide_eq_true_eq, ck]; exact fun z => ne z.symm), List.append_nil]
      have new : ((List.range (i + 1)).filter fun x => decide (W.col x = k)) = ((List.range i).filter fun x => decide (W.col x = k)) ++ [i] := by
        rw [range_filter_snoc, if_pos (decide_eq_true ck)]
      refine ⟨tp, _, rfl, SqT.of upd_same, rfl, _, _, rfl, _, _, rfl, rfl, ?_⟩
      refine ⟨.ref D, rfl, D, rfl, .inl ⟨kvs, .inl hDt⟩, .int k, rfl, Nat.zero_le _, fun z nz => ?_⟩
      have nzD : D ≠ z := ne_of_none hDt nz
      have sz : Same (upd H1 tp (.tup [.int (i : Nat), .int k])) (upd (upd H1 tp (.tup [.int (i : Nat), .int k])) z (.lst [])) := same_new nz
      generalize eHz : upd (upd H1 tp (.tup [.int (i : Nat), .int k])) z (.lst []) = Hz at sz
      have hDz := sz _ _ hDt
      have hz0 : Hz z = some (.lst []) := by rw [← eHz, upd_same]
      refine ⟨kvs, .inl k, hDz, rfl, ?_, fun v hv => ?_, fun hn => ?_⟩
      · rw [lkv, sizeLine_eq]
        omega
      · -- the colour is there
        have mk : k ∈ ks := by
          have := valV_in hv
          rw [hks] at this
          obtain ⟨k', h', e⟩ := List.mem_map.mp this
          rw [← Sum.inl.inj e]
          exact h'
        obtain ⟨f1, f2, f3⟩ := hf k mk
        rw [f1] at hv
        cases hv
        have f3z := sz _ _ (st _ _ f3)
        refine ⟨.inl ⟨rfl, _, SqL.of f3z⟩, _, rfl, f k, _, _, rfl, rfl, f3z, ?_, ⟨_, _, rfl⟩, ?_, kvs, ks, f, ?_, hks, ndk, by omega, fun k' => ?_, fun k' hk' => ?_, inj⟩
        · rw [List.length_map, sizeLine_eq]
          have := List.length_filter_le (fun x => decide (W.col x = k)) (List.range i)
          rw [List.length_range] at this
          omega
        · exact same_at ((s2.trans st).trans sz) f2
        · have : D ≠ f k := fun e => by rw [← e, hD] at f3; cases f3
          rw [upd_ne this]
          exact hDz
        · rw [mem, tk, List.mem_append, List.mem_singleton]
          exact ⟨.inl, fun z => z.elim id fun e => by rw [e]; exact (mem k).mp mk⟩
        · obtain ⟨g1, g2, g3⟩ := hf k' hk'
          refine ⟨g1, g2, ?_⟩
          by_cases e : k' = k
          · subst e
            rw [upd_same, new, List.map_append]
            rfl
          · rw [upd_ne (fun z => e (inj k' k hk' mk z)), old k' hk' e]
            exact sz _ _ (st _ _ g3)
      · -- a new colour
        have nk : k ∉ ks := fun hk' => by
          rw [(hf k hk').1] at hn
          cases hn
        have hz1 : (upd Hz D (.dK (putK kvs (.inl k) (.ref z)))) z = some (.lst []) := by rw [upd_ne nzD.symm]; exact hz0
        have hfz : H z = none := by
          cases e : H z with
          | none => rfl
          | some y => rw [(s2.trans st) _ _ e] at nz; cases nz
        have hnD : H D = none := nD
        have emp : ((List.range i).filter fun x => decide (W.col x = k)) = [] := by
          rw [List.filter_eq_nil_iff]
          intro x hx e
          rw [decide_eq_true_eq] at e
          have hxi := List.mem_range.mp hx
          refine nk ((mem k).mpr ?_)
          rw [← e]
          unfold LW.Web.col
          have hxl : x < W.cs.length := by omega
          rw [List.getD_eq_getElem?_getD, List.getElem?_eq_getElem hxl]
          exact List.mem_take_iff_getElem.mpr ⟨x, by omega, rfl⟩
        refine ⟨.inl ⟨rfl, _, SqL.of hz1⟩, _, rfl, z, _, _, rfl, rfl, hz1, by decide, ⟨_, _, rfl⟩, ?_, kvs ++ [(.inl k, .ref z)], ks ++ [k], fun k' => if k' = k then z else f k', ?_, ?_, ?_, ?_, fun k' => ?_, fun k' hk' => ?_, fun k1 k2 hk1 hk2 e => ?_⟩
        · exact same_at (same_at ((s2.trans st).trans sz) hnD) hfz
        · rw [upd_ne nzD, upd_same, putK_new _ hn]
        · rw [List.map_append, hks, List.map_append]
          rfl
        · exact List.nodup_append.mpr ⟨ndk, by simp, fun x hx y hy e => by rw [List.mem_singleton.mp hy] at e; exact nk (e ▸ hx)⟩
        · rw [List.length_append]
          simp only [List.length_cons, List.length_nil]
          omega
        · rw [tk, List.mem_append, List.mem_append, mem]
        · show valV _ (Sum.inl k' : L2.Key) = some (.ref (if k' = k then z else f k')) ∧ H (if k' = k then z else f k') = none ∧ upd _ z _ (if k' = k then z else f k') = _
          by_cases e : k' = k
          · subst e
            rw [if_pos rfl, valV_snoc _ _ _ _ hn, if_pos rfl]
            refine ⟨rfl, hfz, ?_⟩
            rw [upd_same, new, emp]
            rfl
          · have hk2 : k' ∈ ks := by
              rcases List.mem_append.mp hk' with z | z
              · exact z
              · exact absurd (List.mem_singleton.mp z) e
            obtain ⟨g1, g2, g3⟩ := hf k' hk2
            have g3z := sz _ _ (st _ _ g3)
            rw [if_neg e, valV_snoc _ _ _ _ hn, if_neg (fun z => e (Sum.inl.inj z))]
            refine ⟨g1, g2, ?_⟩
            have n1 : f k' ≠ z := fun w => by
              have := st _ _ g3
              rw [w, nz] at this
              cases this
            have n2 : f k' ≠ D := fun w => by rw [w, hDz] at g3z; cases g3z
            rw [upd_ne n1, upd_ne n2, old k' hk2 e]
            exact g3z
        · have nf : ∀ k', k' ∈ ks → f k' ≠ z := fun k' hk' w => by
            have := st _ _ (hf k' hk').2.2
            rw [w, nz] at this
            cases this
          have cases' : ∀ k', k' ∈ ks ++ [k] → k' ∈ ks ∨ k' = k := fun k' hk' => by
            rcases List.mem_append.mp hk' with z | z
            · exact .inl z
            · exact .inr (List.mem_singleton.mp z)
          by_cases a1 : k1 = k
          · by_cases a2 : k2 = k
            · rw [a1, a2]
            · simp only [if_pos a1, if_neg a2] at e
              exact absurd e.symm (nf k2 ((cases' k2 hk2).resolve_right a2))
          · by_cases a2 : k2 = k
            · simp only [if_neg a1, if_pos a2] at e
              exact absurd e (nf k1 ((cases' k1 hk1).resolve_right a1))
            · simp only [if_neg a1, if_neg a2] at e
              exact inj k1 k2 ((cases' k1 hk1).resolve_right a1) ((cases' k2 hk2).resolve_right a2) e
    · rintro σ H1 ⟨⟨y2, y3, rfl⟩, s2, kvs, ks, f, hD, hks, ndk, lks, mem, hf, inj⟩
      rw [List.length_map] at hf lks mem
      rw [List.take_length] at mem
      have lcs : W.cs.length ≤ 5 := n5
      refine ⟨.ref D, rfl, D, kvs, ks, rfl, .inl hD, hks, by omega, fun ys p pm pw np => ?_⟩
      have ey := srt_nums ndk mem pm pw
      have sp : Same H1 (upd H1 p (.lst (ys.map V.int))) := same_new np
      have hp : (upd H1 p (.lst (ys.map V.int))) p = some (.lst (ys.map V.int)) := upd_same
      generalize upd H1 p (.lst (ys.map V.int)) = H2 at sp hp
      refine ⟨p, rfl, ⟨_, SqL.of hp⟩, fun D2 nD2 => ?_⟩
      refine lcP (walk_list (xs := ys.map V.int)) (src := ys) (by rw [List.length_map]) (sel := fun _ => true) (val := fun k => (List.range W.n).filter fun x => decide (W.col x = k)) (Rel := fun H v l => Tl eNs H v l) nD2 (fun _ _ _ _ h k t => tl_but h k t) (fun H3 s3 => SqL.of (s3 _ _ hp)) (fun i H1 x H1' y => y_at y) (by rw [List.length_map, pm.length_eq]; omega) ?_ ?_
      · rintro i k x H3 H3' N Kv hk s3 ⟨rfl, hx⟩ s3' _ _ hK
        rw [List.getElem?_map, hk] at hx
        cases hx
        have mk : k ∈ ks := pm.mem_iff.mp (List.mem_of_getElem? hk)
        obtain ⟨f1, f2, f3⟩ := hf k mk
        have g := DGet.k (k := Sum.inl k) (s3 _ _ (sp _ _ hD))
        rw [f1] at g
        refine ⟨rfl, tyes ⟨.ref D, rfl, .int k, rfl, D, .ref (f k), rfl, g, f k, _, rfl, .inl ⟨SqL.of (s3 _ _ (sp _ _ f3)), fun l nl => ?_⟩⟩⟩
        exact hK _ _ rfl (same_new nl) (tl_newrow (E := Enc.nat) nl (nats_ts _))
      · intro H3 zs s3 hD2 hz
        rw [List.filter_eq_self.mpr (fun _ _ => rfl)] at hz
        refine ⟨D2, zs, rfl, .inl ⟨SqL.of hD2, fun l nl => ?_⟩⟩
        refine q _ _ (((s2.trans sp).trans s3).trans (same_new nl)) (tl_newrow (E := eNs) nl ?_)
        rw [ey] at hz
        exact hz
theorem scRoot : FnScope ["web"] ["web"] (defScope sF_root) := ⟨rfl, rfl, rfl, by decide +kernel, rfl, by decide +kernel, by decide +kernel⟩
def spRoot (C : Addr) : Sp := fun vs H Q _ => ∃ (a : Addr) (W : LW.Web), vs = [.ref a] ∧ WebAt C H a W ∧ Fit W ∧ ∀ u H', Same H H' → Tl eSt H' u (LW.root opsD W) → Q u H'
theorem ok_root {f : Addr} {fd : FuncData} (F : FN K "root" sF_root f fd) (GB : Gf P w K mg base 1 "by_colours" ["web"] (spByC C)) (GR : Gf P w K mg base 7 "refined" ["web", "stand"] (spRefined C)) : FnOk P w K mg base CX0 8 f fd ["web"] (spRoot C) := by
  refine FDok F scRoot (fun vs H Q E h => ?_) (fun cdv A outer s H vs Q E hr h => ?_)
  · obtain ⟨a, W, rfl, _⟩ := h
    rfl
  · obtain ⟨a, W, rfl, hW, hF, q⟩ := h
    refine ⟨_, pss_one (ps_ret (pe_f GR hr (by rfl) (pa_cons (pv 0) (pa_cons (pe_f GB (hr.mono (by decide)) (by rfl) (pa_cons (pv 0) pa_nil)) pa_nil)))), ?_⟩
    refine ⟨.ref a, rfl, .ref a, rfl, a, W, rfl, hW, hF.n5, fun u H1 s1 t1 => ?_⟩
    exact ⟨a, W, u, _, rfl, hW.same s1, t1, good_by hF, fun u2 H2 s2 t2 => q u2 H2 (s1.trans s2) t2⟩
end
end LK
set_option autoImplicit false
set_option linter.all false
set_option maxRecDepth 100000
set_option synthInstance.maxSize 1000
set_option Elab.async false
namespace LK
open PySem PySem.Spec L2
theorem col_at {W : LW.Web} {c : Nat} (h : c < W.n) : W.cs[c]? = some (W.col c) := by
  unfold LW.Web.n at h
  unfold LW.Web.col
  rw [List.getD_eq_getElem?_getD, List.getElem?_eq_getElem h]
  rfl
section
variable {P : Program} {w : World} {K : PySem.W.Frag} {mg : Str → Option Value} {base : Heap} {C : Addr}
/-! #### told_cell, telling -/
theorem scToldC : FnScope ["web", "stand", "cell", "colour", "corner"] ["web", "stand", "cell"] (defScope sF_told_cell) := ⟨rfl, rfl, rfl, by decide +kernel, rfl, by decide +kernel, by decide +kernel⟩
def spToldC (C : Addr) : Sp := fun vs H Q _ => ∃ (a : Addr) (W : LW.Web) (v u : V) (s : LW.Stand) (cell : List Nat), vs = [.ref a, v, u] ∧ WebAt C H a W ∧ Tl eSt H v s ∧ Good W s ∧ Tl eNs H u cell ∧ cell ∈ s ∧ ∀ z H', Same H H' → Tl eC H' z (LW.toldCell opsD W s cell) → Q z H'
theorem ok_toldC {f : Addr} {fd : FuncData} (T : Tx K mg C) (F : FN K "told_cell" sF_told_cell f fd) (GL : Gf P w K mg base 3 "look" ["web", "stand", "corner"] (spLook C)) : FnOk P w K mg base CX0 4 f fd ["web", "stand", "cell"] (spToldC C) := by
  refine FDok F scToldC (fun vs H Q E h => ?_) (fun cdv A outer s H vs Q E hr h => ?_)
  · obtain ⟨a, W, v, u, s, c, rfl, _⟩ := h
    rfl
  · obtain ⟨a, W, v, u, s, cell, rfl, hW, hv, hg, hu, hcs, q⟩ := h
    obtain ⟨ca, cxs, rfl, hca, hcts⟩ := tl_row.mp hu
    obtain ⟨dx, c, r, m, kv0, h1, h2, h3, h4⟩ := id hW
    have n5 := hg.n5
    have lce := (part_small hg.part n5).2 _ hcs
    have lcx := hcts.len
    have cne := hg.part.ne _ hcs
    refine ⟨_, pss_cons (ps_set (i := 3) scToldC.nd rfl (.inl rfl) (pe_callB (cr_minD Enc.num rfl hr.units) (by rfl) T.mn PyProof.Rows.boot_min (pa_cons (pe_lc (own := [("corner", 4)]) (g := gName 4) (tt := tYes) (te := tOp (rIxT K) (tFld K (tVar 0) "colours") (tVar 4)) rfl scToldC.nd (pi_tup (pv 2))
        (blkOk_by (by kernel_rfl)) (fun _ _ _ _ _ => pg_name (i := 4) scToldC.nd rfl (.inl rfl)) (fun _ _ _ _ _ => pts_nil) (fun _ _ _ _ _ => pe_ix ix_tup (pe_fld (pv 0) rfl) (pv 4) (fun _ _ => rfl))) pa_nil)))
      (pss_one (ps_ret (pe_tup (pa_cons (pv 3) (pa_cons (pe_callB call_len_seq (by rfl) T.len PySem.boot_len (pa_cons (pv 2) pa_nil)) (pa_cons (pe_callB (cr_minD eL rfl hr.units) (by rfl) T.mn PyProof.Rows.boot_min (pa_cons (pe_lc (own := [("corner", 4)]) (g := gName 4) (tt := tYes)
        (te := tCall (spLook C) [] E0 (tCons (tVar 0) (tCons (tVar 1) (tCons (tVar 4) tNil)))) rfl scToldC.nd (pi_tup (pv 2)) (blkOk_by (by kernel_rfl)) (fun _ _ _ _ _ => pg_name (i := 4) scToldC.nd rfl (.inl rfl)) (fun _ _ _ _ _ => pts_nil)
        (fun _ _ _ _ _ => pe_f GL hr (by rfl) (pa_cons (pv 0) (pa_cons (pv 1) (pa_cons (pv 4) pa_nil))))) pa_nil)) pa_nil)))))), ?_⟩
    refine ⟨.ref ca, rfl, ca, rfl, ⟨_, SqT.of hca⟩, fun D nD => ?_⟩
    refine lcP (walk_tup (xs := cxs)) (src := cell) lcx.symm (sel := fun _ => true) (val := W.col) (Rel := fun H v l => Tl Enc.num H v l) nD (fun _ _ _ _ h k t => tl_but h k t) (fun H1 s1 => SqT.of (s1 _ _ hca)) (fun i H1 x H1' y => y_at y) (by omega) ?_ ?_
    · rintro i k x H1 H1' N Kv hk s1 ⟨rfl, hx⟩ s1' _ _ hK
      obtain ⟨k', hk', tk⟩ := hcts.get hx
      rw [hk] at hk'
      cases hk'
      obtain rfl := tl_nat.mp tk
      have klt := hg.part.lt hcs (List.mem_of_getElem? hk)
      refine ⟨rfl, tyes ⟨.ref a, rfl, a, C, dx, _, .ref c, rfl, s1 _ _ h1, T.cl, T.nC, lk_c, .int k, rfl, c, _, k, .int (W.col k), rfl, rfl, SqT.of (s1 _ _ h2), atI_nat ?_, ?_⟩⟩
      · rw [List.getElem?_map, col_at klt]
        rfl
      · exact hK _ _ rfl same_refl (tl_num.mpr rfl)
    · intro H1 zs s1 hD hz
      rw [List.filter_eq_self.mpr (fun _ _ => rfl)] at hz
      refine ⟨D, zs, _, rfl, SqL.of hD, hz, by simpa using cne, by decide, fun z _ tz => ?_⟩
      obtain rfl := tl_num.mp tz
      have hca1 := s1 _ _ hca
      refine ⟨_, rfl, .ref ca, rfl, ca, cxs, rfl, .inr (SqT.of hca1), ?_⟩
      refine ⟨.ref ca, rfl, ca, rfl, ⟨_, SqT.of hca1⟩, fun D2 nD2 => ?_⟩
      refine lcP (walk_tup (xs := cxs)) (src := cell) lcx.symm (sel := fun _ => true) (val := LW.look opsD W s) (Rel := fun H v l => Tl eL H v l) nD2 (fun _ _ _ _ h k t => tl_but h k t) (fun H1 s1 => SqT.of (s1 _ _ hca1)) (fun i H1 x H1' y => y_at y) (by omega) ?_ ?_
      · rintro i k x H2 H2' N Kv hk s2 ⟨rfl, hx⟩ s2' _ _ hK
        obtain ⟨k', hk', tk⟩ := hcts.get hx
        rw [hk] at hk'
        cases hk'
        obtain rfl := tl_nat.mp tk
        refine ⟨rfl, tyes ⟨_, rfl, _, rfl, _, rfl, a, W, v, s, W.n, k, rfl, hW.same (s1.trans s2), tl_same (s1.trans s2) hv, hg.part, n5, fun u H3 s3 t3 => ?_⟩⟩
        exact hK u H3 rfl s3 t3
      · intro H2 ys s2 hD2 hy
        rw [List.filter_eq_self.mpr (fun _ _ => rfl)] at hy
        refine ⟨D2, ys, _, rfl, SqL.of hD2, hy, by simpa using cne, by decide, fun z _ tz => ?_⟩
        refine ⟨by show 3 ≤ sizeLine; decide, fun p np => ?_⟩
        refine q _ _ ((s1.trans s2).trans (same_new np)) (tl_three.mpr ⟨p, _, _, _, rfl, upd_same, tl_num.mpr rfl, ?_, tl_same (same_new np) tz⟩)
        rw [lcx]
        exact tl_nat.mpr rfl
theorem scTelling : FnScope ["web", "stand", "cell"] ["web", "stand"] (defScope sF_telling) := ⟨rfl, rfl, rfl, by decide +kernel, rfl, by decide +kernel, by decide +kernel⟩
def spTelling (C : Addr) : Sp := fun vs H Q _ => ∃ (a : Addr) (W : LW.Web) (v : V) (s : LW.Stand), vs = [.ref a, v] ∧ WebAt C H a W ∧ Tl eSt H v s ∧ Good W s ∧ ∀ z H', Same H H' → Tl eT H' z (LW.telling opsD W s) → Q z H'
theorem ok_telling {f : Addr} {fd : FuncData} (T : Tx K mg C) (F : FN K "telling" sF_telling f fd) (GT : Gf P w K mg base 4 "told_cell" ["web", "stand", "cell"] (spToldC C)) : FnOk P w K mg base CX0 5 f fd ["web", "stand"] (spTelling C) := by
  refine FDok F scTelling (fun vs H Q E h => ?_) (fun cdv A outer s H vs Q E hr h => ?_)
  · obtain ⟨a, W, v, s, rfl, _⟩ := h
    rfl
  · obtain ⟨a, W, v, s, rfl, hW, hv, hg, q⟩ := h
    obtain ⟨b, xs, rfl, hb, hts⟩ := tl_row.mp hv
    have n5 := hg.n5
    have l5 := (part_small hg.part n5).1
    have lxs := hts.len
    refine ⟨_, pss_one (ps_ret (pe_callTy call_tuple_of (by rfl) T.tup PyProof.Rows.boot_tuple (pa_cons (pe_lc (own := [("cell", 2)]) (g := gName 2) (tt := tYes) (te := tCall (spToldC C) [] E0 (tCons (tVar 0) (tCons (tVar 1) (tCons (tVar 2) tNil)))) rfl scTelling.nd (pi_tup (pv 1))
        (blkOk_by (by kernel_rfl)) (fun _ _ _ _ _ => pg_name (i := 2) scTelling.nd rfl (.inl rfl)) (fun _ _ _ _ _ => pts_nil) (fun _ _ _ _ _ => pe_f GT hr (by rfl) (pa_cons (pv 0) (pa_cons (pv 1) (pa_cons (pv 2) pa_nil))))) pa_nil))), ?_⟩
    refine ⟨.ref b, rfl, b, rfl, ⟨_, SqT.of hb⟩, fun D nD => ?_⟩
    refine lcP (walk_tup (xs := xs)) (src := s) lxs.symm (sel := fun _ => true) (val := LW.toldCell opsD W s) (Rel := fun H v l => Tl eC H v l) nD (fun _ _ _ _ h k t => tl_but h k t) (fun H1 s1 => SqT.of (s1 _ _ hb)) (fun i H1 x H1' y => y_at y) (by omega) ?_ ?_
    · rintro i cell x H1 H1' N Kv hc s1 ⟨rfl, hx⟩ s1' _ _ hK
      obtain ⟨c', hc', tc⟩ := hts.get hx
      rw [hc] at hc'
      cases hc'
      refine ⟨rfl, tyes ⟨_, rfl, _, rfl, _, rfl, a, W, .ref b, x, s, cell, rfl, hW.same s1, tl_same s1 hv, hg, tl_same s1 tc, List.mem_of_getElem? hc, fun z H2 s2 t2 => ?_⟩⟩
      exact hK z H2 rfl s2 t2
    · intro H1 zs s1 hD hz
      rw [List.filter_eq_self.mpr (fun _ _ => rfl)] at hz
      exact ⟨D, zs, rfl, .inl ⟨SqL.of hD, fun l nl => q _ _ (s1.trans (same_new nl)) (tl_newrow (E := eC) nl hz)⟩⟩
/-! #### is_whole, is_row, check_row -/
theorem scWhole : FnScope ["thing"] ["thing"] (defScope sF_is_whole) := ⟨rfl, rfl, rfl, by decide +kernel, rfl, by decide +kernel, by decide +kernel⟩
def spWhole : Sp := fun vs H Q _ => ∃ i : Int, vs = [.int i] ∧ Q (.bl true) H
theorem ok_whole {f : Addr} {fd : FuncData} (T : Tx K mg C) (F : FN K "is_whole" sF_is_whole f fd) : FnOk P w K mg base CX0 1 f fd ["thing"] spWhole := by
  refine FDok F scWhole (fun vs H Q E h => ?_) (fun cdv A outer s H vs Q E hr h => ?_)
  · obtain ⟨i, rfl, _⟩ := h
    rfl
  · obtain ⟨i, rfl, q⟩ := h
    refine ⟨_, pss_one (ps_ret (pe_and (pe_callB call_isi (by rfl) T.isi PyProof.Rows.boot_isinstance (pa_cons (pv 0) (pa_cons (pe_bltn (v := .ty "int") (by rfl) T.int PyProof.Rows.boot_int rfl) pa_nil)))
      (pe_one (pe_not (pe_callB call_isi (by rfl) T.isi PyProof.Rows.boot_isinstance (pa_cons (pv 0) (pa_cons (pe_bltn (v := .ty "bool") (by rfl) T.bl PyProof.Rows.boot_bool rfl) pa_nil))))))), ?_⟩
    refine ⟨_, rfl, .int i, .ty "int", .type "int", .type "int", true, rfl, .ty _, .base (.int i), kit_ty (by decide +kernel), true, rfl, ?_⟩
    refine iteT ⟨_, rfl, .int i, .ty "bool", .type "int", .type "bool", false, rfl, .ty _, .base (.int i), kit_ty (by decide +kernel), false, rfl, ?_⟩
    exact q
theorem scIsRow : FnScope ["web", "thing", "at", "corner"] ["web", "thing"] (defScope sF_is_row) := ⟨rfl, rfl, rfl, by decide +kernel, rfl, by decide +kernel, by decide +kernel⟩
def spIsRow (C : Addr) : Sp := fun vs H Q _ => ∃ (a : Addr) (W : LW.Web) (v : V) (row : List Nat), vs = [.ref a, v] ∧ WebAt C H a W ∧ W.n ≤ 5 ∧ Tl eNs H v row ∧ row.Nodup ∧ (∀ x, x ∈ row → x < W.n) ∧ ∀ H', Same H H' → Q (.bl true) H'
theorem ok_isRow {f fL : Addr} {fd fdL : FuncData} (T : Tx K mg C) (F : FN K "is_row" sF_is_row f fd) (GW : Gf P w K mg base 1 "is_whole" ["thing"] spWhole) (M : Meth K C "__len__" fL) (GLn : FnOk P w K mg base CX0 1 fL fdL ["self"] (spLen C)) (bL : Binds K fdL ["self"] []) :
    FnOk P w K mg base CX0 3 f fd ["web", "thing"] (spIsRow C) := by
  refine FDok F scIsRow (fun vs H Q E h => ?_) (fun cdv A outer s H vs Q E hr h => ?_)
  · obtain ⟨a, W, v, row, rfl, _⟩ := h
    rfl
  · obtain ⟨a, W, v, row, rfl, hW, n5, hv, nd, lt, q⟩ := h
    obtain ⟨b, xs, rfl, hb, hts⟩ := tl_row.mp hv
    have ex := ts_nat.mp hts
    obtain ⟨dx, c, r, m, kv0, h1, h2, h3, h4⟩ := id hW
    refine ⟨_, pss_cons (ps_if (pt_not (pt_val (pe_callB call_isi (by rfl) T.isi PyProof.Rows.boot_isinstance (pa_cons (pv 1) (pa_cons (pe_bltn (v := .ty "tuple") (by rfl) T.tup PyProof.Rows.boot_tuple rfl) pa_nil))))) (pss_one (ps_ret pe_bl)) pss_nil)
      (pss_cons (ps_for PassesOwn.never rfl (pi_enumT (by rfl) T.enu (pa_cons (pv 1) pa_nil)) (pg_tup rfl (pgs_cons (pg_name (i := 2) scIsRow.nd rfl (.inl rfl)) (pgs_cons (pg_name (i := 3) scIsRow.nd rfl (.inl rfl)) pgs_nil)))
        (pss_one (ps_if (PW.pt (pw_or (pt_not (pt_val (pe_f GW (hr.mono (by decide)) (by rfl) (pa_cons (pv 3) pa_nil)))) (pw_or (pt_not (pt_chain op_le op_lt pe_int (pv 3) (pe_callB (call_lenO M GLn (hr.mono (by decide)) bL) (by rfl) T.len PySem.boot_len (pa_cons (pv 0) pa_nil))))
          (pw_or1 (pt_cmpR op_in_seq (pv 3) (pe_slice sl_tupZ (pv 1) po_none (po_some (pv 2))) rfl))))) (pss_one (ps_ret pe_bl)) pss_nil)))
      (pss_one (ps_ret pe_bl))), ?_⟩
    refine ⟨_, rfl, .ref b, .ty "tuple", .type "tuple", .type "tuple", true, rfl, .ty _, .base (.tup hb), kit_ty (by decide +kernel), true, rfl, ?_⟩
    refine iteF ?_
    refine ⟨.ref b, rfl, b, xs, rfl, SqT.of hb, ?_⟩
    refine for_it (walk_enumT (xs := xs)) (fun i σ H1 => (∃ y2 y3, σ = [some (.ref a), some (.ref b), y2, y3]) ∧ Same H H1) ⟨⟨_, _, rfl⟩, same_refl⟩ (fun i σ H1 _ p => SqT.of (p.2 _ _ hb)) ?_ ?_
    · rintro i x σ H1 H1' hi ⟨⟨y2, y3, rfl⟩, s1⟩ y
      obtain ⟨tp, x1, x2, rfl, ntp, rfl, e1, e2⟩ := y
      obtain rfl := Option.some.inj e1
      obtain ⟨k, hk, tk⟩ := hts.get e2
      obtain rfl := tl_nat.mp tk
      have klt := lt k (List.mem_of_getElem? hk)
      have s2 : Same H (upd H1 tp (.tup [.int (i : Nat), .int k])) := s1.trans (same_new ntp)
      refine ⟨tp, _, rfl, SqT.of upd_same, rfl, _, _, rfl, _, _, rfl, rfl, ?_⟩
      refine ⟨_, rfl, k, rfl, true, rfl, ?_⟩
      refine iteF ?_
      refine ⟨_, rfl, 0, k, rfl, rfl, _, rfl, ite2 (fun _ => ?_) fun e => absurd (decide_eq_true (by omega)) e⟩
      refine ⟨.ref a, rfl, a, dx, _, rfl, s2 _ _ h1, a, W, rfl, hW.same s2, W.n, rfl, by omega, k, W.n, rfl, rfl, _, rfl, ?_⟩
      rw [decide_eq_true (show (k : Int) < (W.n : Int) by omega)]
      refine iteF ?_
      refine ⟨_, rfl, .ref b, rfl, _, rfl, _, rfl, b, xs, rfl, s2 _ _ hb, fun p H3 s3 hp => ?_⟩
      rw [cut_take, ex, ← List.map_take] at hp
      refine ⟨p, _, rfl, .inr (SqT.of hp), rfl, flat_nats _, _, rfl, ?_⟩
      have e0 : inV (.int (k : Int)) ((row.take i).map fun (i : Nat) => V.int (i : Int)) = false := by
        rw [inV_nat]
        refine decide_eq_false fun hm => ?_
        obtain ⟨j, hj, ej⟩ := List.mem_take_iff_getElem.mp hm
        have hil := (List.getElem?_eq_some_iff.mp hk).1
        have eil := (List.getElem?_eq_some_iff.mp hk).2
        have := (List.pairwise_iff_getElem.mp nd) j i (by omega) hil (by omega)
        exact this (ej.trans eil.symm)
      rw [if_neg Bool.false_ne_true, e0]
      exact iteF ⟨⟨_, _, rfl⟩, s2.trans s3⟩
    · rintro σ H1 ⟨⟨y2, y3, rfl⟩, s1⟩
      exact q _ s1
theorem scCheck : FnScope ["web", "thing"] ["web", "thing"] (defScope sF_check_row) := ⟨rfl, rfl, rfl, by decide +kernel, rfl, by decide +kernel, by decide +kernel⟩
def spCheck (C : Addr) : Sp := fun vs H Q _ => ∃ (a : Addr) (W : LW.Web) (v : V) (row : List Nat), vs = [.ref a, v] ∧ WebAt C H a W ∧ W.n ≤ 5 ∧ Tl eNs H v row ∧ row.Nodup ∧ (∀ x, x ∈ row → x < W.n) ∧ ∀ H', Same H H' → Q .non H'
theorem ok_check {f : Addr} {fd : FuncData} (F : FN K "check_row" sF_check_row f fd) (GI : Gf P w K mg base 3 "is_row" ["web", "thing"] (spIsRow C)) : FnOk P w K mg base CX0 4 f fd ["web", "thing"] (spCheck C) := by
  refine FDok F scCheck (fun vs H Q E h => ?_) (fun cdv A outer s H vs Q E hr h => ?_)
  · obtain ⟨a, W, v, row, rfl, _⟩ := h
    rfl
  · obtain ⟨a, W, v, row, rfl, hW, n5, hv, nd, lt, q⟩ := h
    refine ⟨_, pss_one (ps_if (pt_not (pt_val (pe_f GI hr (by rfl) (pa_cons (pv 0) (pa_cons (pv 1) pa_nil))))) (pss_one ps_never) pss_nil), ?_⟩
    refine ⟨_, rfl, _, rfl, a, W, v, row, rfl, hW, n5, hv, nd, lt, fun H1 s1 => ⟨true, rfl, iteF ?_⟩⟩
    exact q H1 s1
end
end LK
set_option autoImplicit false
set_option linter.all false
set_option maxRecDepth 100000
set_option synthInstance.maxSize 1000
set_option Elab.async false
namespace LK
open PySem PySem.Spec L2
theorem getD_of {s : LW.Stand} {i : Nat} {cell : List Nat} (h : s[i]? = some cell) : s.getD i [] = cell := by
  rw [List.getD_eq_getElem?_getD, h]
  rfl
theorem ts_at {α : Type} {E : Enc α} {H : Hp} {xs : List V} {l : List α} (t : Ts E H xs l) {i : Nat} {b : α} (h : l[i]? = some b) : ∃ x, xs[i]? = some x ∧ Tl E H x b := t.get' h
section
variable {P : Program} {w : World} {K : PySem.W.Frag} {mg : Str → Option Value} {base : Heap} {C : Addr}
/-! #### singled -/
theorem scSing : FnScope ["web", "stand", "corner", "at", "rest", "member"] ["web", "stand", "corner"] (defScope sF_singled) := ⟨rfl, rfl, rfl, by decide +kernel, rfl, by decide +kernel, by decide +kernel⟩
def spSing (C : Addr) : Sp := fun vs H Q _ => ∃ (a : Addr) (W : LW.Web) (v : V) (s : LW.Stand) (c : Nat), vs = [.ref a, v, .int c] ∧ WebAt C H a W ∧ Tl eSt H v s ∧ Good W s ∧ c < W.n ∧ ∀ u H', Same H H' → Tl eSt H' u (LW.singled opsD W s c) → Q u H'
theorem ok_sing {f : Addr} {fd : FuncData} (T : Tx K mg C) (F : FN K "singled" sF_singled f fd) (GC : Gf P w K mg base 1 "cell_of" ["stand", "corner"] spCell) (GR : Gf P w K mg base 7 "refined" ["web", "stand"] (spRefined C)) : FnOk P w K mg base CX0 8 f fd ["web", "stand", "corner"] (spSing C) := by
  refine FDok F scSing (fun vs H Q E h => ?_) (fun cdv A outer s H vs Q E hr h => ?_)
  · obtain ⟨a, W, v, s, c, rfl, _⟩ := h
    rfl
  · obtain ⟨a, W, v, s, c, rfl, hW, hv, hg, hc, q⟩ := h
    obtain ⟨b, xs, rfl, hb, hts⟩ := tl_row.mp hv
    have n5 := hg.n5
    obtain ⟨l5, c5⟩ := part_small hg.part n5
    have lxs := hts.len
    obtain ⟨cell, hcell, mc, _⟩ := hg.part.cellOf hc
    obtain ⟨u, hu, tu⟩ := ts_at hts hcell
    obtain ⟨ca, cxs, rfl, hca, hcts⟩ := tl_row.mp (show Tl eNs H u cell from tu)
    have lcx := hcts.len
    have lce := c5 _ (List.mem_of_getElem? hcell)
    have gd := getD_of hcell
    refine ⟨_, pss_cons (ps_set (i := 3) scSing.nd rfl (.inl rfl) (pe_f GC (hr.mono (by decide)) (by rfl) (pa_cons (pv 1) (pa_cons (pv 2) pa_nil))))
      (pss_cons (ps_if (pt_cmpR op_gt (pe_callB call_len_seq (by rfl) T.len PySem.boot_len (pa_cons (pe_ix ix_tup (pv 1) (pv 3) (fun _ _ => rfl)) pa_nil)) pe_int (nomark _))
        (pss_cons (ps_set (i := 4) scSing.nd rfl (.inl rfl) (pe_callTy call_tuple_of (by rfl) T.tup PyProof.Rows.boot_tuple (pa_cons (pe_lc (own := [("member", 5)]) (g := gName 5) (tt := tTest (tOp rNe (tVar 5) (tVar 2))) (te := tVar 5) rfl scSing.nd (pi_tup (pe_ix ix_tup (pv 1) (pv 3) (fun _ _ => rfl)))
            (blkOk_by (by kernel_rfl)) (fun _ _ _ _ _ => pg_name (i := 5) scSing.nd rfl (.inl rfl)) (fun _ _ _ _ _ => pts_one (pt_cmpR op_ne (pv 5) (pv 2) (nomark _))) (fun _ _ _ _ _ => pv 5)) pa_nil)))
        (pss_one (ps_set (i := 1) scSing.nd rfl (.inl rfl) (pe_op op_catZ (pe_op op_catZ (pe_slice sl_tupZ (pv 1) po_none (po_some (pv 3))) (pe_tup (pa_cons (pe_tup (pa_cons (pv 2) pa_nil)) (pa_cons (pv 4) pa_nil)))) (pe_slice sl_tupZ (pv 1) (po_some (pe_op op_add (pv 3) pe_int)) po_none))))) pss_nil)
      (pss_one (ps_ret (pe_f GR hr (by rfl) (pa_cons (pv 0) (pa_cons (pv 1) pa_nil)))))), ?_⟩
    refine ⟨_, rfl, _, rfl, .ref b, s, W.n, c, rfl, hv, hg.part, n5, hc, fun H1 s1 => ?_⟩
    have hb1 := s1 _ _ hb
    have hca1 := s1 _ _ hca
    refine ⟨.ref b, rfl, _, rfl, b, xs, _, .ref ca, rfl, rfl, SqT.of hb1, atI_nat hu, ca, cxs, rfl, .inr (SqT.of hca1), _, _, rfl, rfl, _, rfl, ite2 (fun e => ?_) fun e => ?_⟩
    · have big : 1 < cell.length := by have := of_decide_eq_true e; omega
      refine ⟨.ref b, rfl, _, rfl, b, xs, _, .ref ca, rfl, rfl, SqT.of hb1, atI_nat hu, ca, rfl, ⟨_, SqT.of hca1⟩, fun D nD => ?_⟩
      refine lcP (walk_tup (xs := cxs)) (src := cell) lcx.symm (sel := fun m => m != c) (val := fun m => m) (Rel := fun H v m => Tl Enc.nat H v m) nD (fun _ _ _ _ h k t => tl_but h k t) (fun H2 s2 => SqT.of (s2 _ _ hca1)) (fun i H1 x H1' y => y_at y) (by omega) ?_ ?_
      · rintro i m x H2 H2' N Kv hm s2 ⟨rfl, hx⟩ s2' _ hN hK
        obtain ⟨m', hm', tm⟩ := hcts.get hx
        rw [hm] at hm'
        cases hm'
        obtain rfl := tl_nat.mp tm
        refine ⟨rfl, _, rfl, _, rfl, rfl, _, rfl, ?_⟩
        rw [ne_nat]
        cases e : (m != c) with
        | false => exact iteF (hN _ e same_refl)
        | true => exact iteT ⟨_, rfl, hK _ _ e same_refl (tl_nat.mpr rfl)⟩
      · intro H2 zs s2 hD hz
        rw [List.map_id'] at hz
        refine ⟨D, zs, rfl, .inl ⟨SqL.of hD, fun t nt => ?_⟩⟩
        have s3 : Same H (upd H2 t (.tup zs)) := (s1.trans s2).trans (same_new nt)
        have tt : Tl eNs (upd H2 t (.tup zs)) (.ref t) (cell.filter fun m => m != c) := tl_newrow (E := Enc.nat) nt hz
        generalize upd H2 t (.tup zs) = H3 at s3 tt
        have hb3 := s3 _ _ hb
        refine ⟨.ref b, rfl, _, rfl, _, rfl, b, xs, rfl, hb3, fun p1 H4 s4 hp1 => ?_⟩
        rw [cut_take] at hp1
        refine ⟨_, rfl, by show 1 ≤ sizeLine; decide, fun p2 np2 => ?_⟩
        have s5 : Same H4 (upd H4 p2 (.tup [.int (c : Nat)])) := same_new np2
        refine ⟨.ref t, rfl, by show 2 ≤ sizeLine; decide, fun p3 np3 => ?_⟩
        have s6 : Same (upd H4 p2 (.tup [.int (c : Nat)])) (upd (upd H4 p2 (.tup [.int (c : Nat)])) p3 (.tup [.ref p2, .ref t])) := same_new np3
        have hp2 : (upd (upd H4 p2 (.tup [.int (c : Nat)])) p3 (.tup [.ref p2, .ref t])) p2 = some (.tup [.int (c : Nat)]) := s6 _ _ upd_same
        have hp3 : (upd (upd H4 p2 (.tup [.int (c : Nat)])) p3 (.tup [.ref p2, .ref t])) p3 = some (.tup [.ref p2, .ref t]) := upd_same
        have s46 := s5.trans s6
        generalize upd (upd H4 p2 (.tup [.int (c : Nat)])) p3 (.tup [.ref p2, .ref t]) = H6 at s46 hp2 hp3
        refine ⟨p1, p3, _, _, rfl, rfl, s46 _ _ hp1, hp3, ?_, fun p4 H7 s7 hp4 => ?_⟩
        · rw [List.length_take, sizeLine_eq]
          simp only [List.length_cons, List.length_nil]
          omega
        · have s07 : Same H H7 := s3.trans (s4.trans (s46.trans s7))
          refine ⟨.ref b, rfl, _, rfl, _, 1, rfl, rfl, _, rfl, b, xs, rfl, s07 _ _ hb, fun p5 H8 s8 hp5 => ?_⟩
          have e1 : ((LW.cellOf s c : Nat) : Int) + 1 = ((LW.cellOf s c + 1 : Nat) : Int) := by omega
          rw [e1, cut_drop] at hp5
          refine ⟨p4, p5, _, _, rfl, rfl, s8 _ _ hp4, hp5, ?_, fun p6 H9 s9 hp6 => ?_⟩
          · rw [List.length_append, List.length_take, List.length_drop, sizeLine_eq]
            simp only [List.length_cons, List.length_nil]
            omega
          · have s09 : Same H H9 := s07.trans (s8.trans s9)
            have s39 : Same H3 H9 := s4.trans (s46.trans (s7.trans (s8.trans s9)))
            have tsp : Tl eSt H9 (.ref p6) (LW.split s c) := by
              unfold LW.split
              rw [gd, if_pos big]
              refine tl_tup (E := eNs) hp6 ?_
              have t1 : Ts eNs H9 xs s := ts_same s09 hts
              have t2 : Tl eNs H9 (.ref p2) [c] := tl_tup (E := Enc.nat) ((s7.trans (s8.trans s9)) _ _ hp2) (.cons (tl_nat.mpr rfl) .nil)
              have e2 : LW.Stand := s
              have := ((t1.take (LW.cellOf s c)).append (.cons t2 (.cons (tl_same s39 tt) .nil))).append (t1.drop (LW.cellOf s c + 1))
              simpa [List.append_assoc] using this
            refine ⟨_, rfl, _, rfl, a, W, .ref p6, _, rfl, hW.same s09, tsp, good_split hg hc, fun u H10 s10 t10 => ?_⟩
            exact q u H10 (s09.trans s10) t10
    · have nb : ¬ 1 < (s.getD (LW.cellOf s c) []).length := fun z => e (decide_eq_true (by rw [gd] at z; omega))
      have es : LW.split s c = s := by
        unfold LW.split
        rw [if_neg nb]
      refine ⟨_, rfl, _, rfl, a, W, .ref b, s, rfl, hW.same s1, tl_same s1 hv, hg, fun u H2 s2 t2 => q u H2 (s1.trans s2) ?_⟩
      unfold LW.singled
      rw [es]
      exact t2
/-! #### row_stand, told_row -/
theorem scRowS : FnScope ["web", "row", "stand", "corner"] ["web", "row"] (defScope sF_row_stand) := ⟨rfl, rfl, rfl, by decide +kernel, rfl, by decide +kernel, by decide +kernel⟩
def spRowS (C : Addr) : Sp := fun vs H Q _ => ∃ (a : Addr) (W : LW.Web) (v : V) (row : List Nat), vs = [.ref a, v] ∧ WebAt C H a W ∧ Fit W ∧ Tl eNs H v row ∧ row.Nodup ∧ (∀ x, x ∈ row → x < W.n) ∧ ∀ u H', Same H H' → Tl eSt H' u (LW.rowStand opsD W row) → Q u H'
theorem take_lt {n : Nat} {row : List Nat} (h : ∀ x, x ∈ row → x < n) (i : Nat) : ∀ x, x ∈ row.take i → x < n := fun x hx => h x (List.mem_of_mem_take hx)
theorem ok_rowS {f : Addr} {fd : FuncData} (F : FN K "row_stand" sF_row_stand f fd) (GK : Gf P w K mg base 4 "check_row" ["web", "thing"] (spCheck C)) (GT : Gf P w K mg base 8 "root" ["web"] (spRoot C)) (GS : Gf P w K mg base 8 "singled" ["web", "stand", "corner"] (spSing C)) :
    FnOk P w K mg base CX0 9 f fd ["web", "row"] (spRowS C) := by
  refine FDok F scRowS (fun vs H Q E h => ?_) (fun cdv A outer s H vs Q E hr h => ?_)
  · obtain ⟨a, W, v, row, rfl, _⟩ := h
    rfl
  · obtain ⟨a, W, v, row, rfl, hW, hF, hv, nd, lt, q⟩ := h
    obtain ⟨b, xs, rfl, hb, hts⟩ := tl_row.mp hv
    have lxs := hts.len
    refine ⟨_, pss_cons (ps_expr (pe_f GK (hr.mono (by decide)) (by rfl) (pa_cons (pv 0) (pa_cons (pv 1) pa_nil))))
      (pss_cons (ps_set (i := 2) scRowS.nd rfl (.inl rfl) (pe_f GT hr (by rfl) (pa_cons (pv 0) pa_nil)))
      (pss_cons (ps_for PassesOwn.never rfl (pi_tup (pv 1)) (pg_name (i := 3) scRowS.nd rfl (.inl rfl)) (pss_one (ps_set (i := 2) scRowS.nd rfl (.inl rfl) (pe_f GS hr (by rfl) (pa_cons (pv 0) (pa_cons (pv 2) (pa_cons (pv 3) pa_nil)))))))
      (pss_one (ps_ret (pv 2))))), ?_⟩
    refine ⟨_, rfl, _, rfl, a, W, .ref b, row, rfl, hW, hF.n5, hv, nd, lt, fun H1 s1 => ?_⟩
    refine ⟨_, rfl, a, W, rfl, hW.same s1, hF, fun u H2 s2 t2 => ?_⟩
    have s02 := s1.trans s2
    refine ⟨.ref b, rfl, b, rfl, ⟨_, SqT.of (s02 _ _ hb)⟩, ?_⟩
    refine for_it (walk_tup (xs := xs)) (fun i σ H3 => (∃ u y3, σ = [some (.ref a), some (.ref b), some u, y3] ∧ Tl eSt H3 u (LW.rowStand opsD W (row.take i))) ∧ Same H H3) ⟨⟨u, _, rfl, t2⟩, s02⟩ (fun i σ H1 _ p => SqT.of (p.2 _ _ hb)) ?_ ?_
    · rintro i x σ H3 H3' hi ⟨⟨u3, y3, rfl, t3⟩, s3⟩ ⟨rfl, hx⟩
      obtain ⟨c, hc, tc⟩ := hts.get hx
      obtain rfl := tl_nat.mp tc
      refine ⟨_, rfl, _, rfl, _, rfl, a, W, u3, _, c, rfl, hW.same s3, t3, good_row hF (take_lt lt i), lt c (List.mem_of_getElem? hc), fun u4 H4 s4 t4 => ?_⟩
      refine ⟨⟨u4, _, rfl, ?_⟩, s3.trans s4⟩
      rw [take_next' hc, LW.rowStand_snoc]
      exact t4
    · rintro σ H3 ⟨⟨u3, y3, rfl, t3⟩, s3⟩
      rw [lxs, List.take_length] at t3
      exact ⟨_, rfl, q u3 H3 s3 t3⟩
theorem scToldR : FnScope ["web", "stand", "row", "corner"] ["web", "stand", "row"] (defScope sF_told_row) := ⟨rfl, rfl, rfl, by decide +kernel, rfl, by decide +kernel, by decide +kernel⟩
def spToldR (C : Addr) : Sp := fun vs H Q _ => ∃ (a : Addr) (W : LW.Web) (v u : V) (s : LW.Stand) (row : List Nat), vs = [.ref a, v, u] ∧ WebAt C H a W ∧ Tl eSt H v s ∧ Good W s ∧ Tl eNs H u row ∧ row.length ≤ 6 ∧ (∀ x, x ∈ row → x < W.n) ∧ ∀ z H', Same H H' → Tl eR H' z (LW.toldRow opsD W s row) → Q z H'
theorem ok_toldR {f : Addr} {fd : FuncData} (T : Tx K mg C) (F : FN K "told_row" sF_told_row f fd) (GT : Gf P w K mg base 5 "telling" ["web", "stand"] (spTelling C)) (GC : Gf P w K mg base 1 "cell_of" ["stand", "corner"] spCell) : FnOk P w K mg base CX0 6 f fd ["web", "stand", "row"] (spToldR C) := by
  refine FDok F scToldR (fun vs H Q E h => ?_) (fun cdv A outer s H vs Q E hr h => ?_)
  · obtain ⟨a, W, v, u, s, row, rfl, _⟩ := h
    rfl
  · obtain ⟨a, W, v, u, s, row, rfl, hW, hv, hg, hu, r5, lt, q⟩ := h
    obtain ⟨b, xs, rfl, hb, hts⟩ := tl_row.mp hu
    have lxs := hts.len
    refine ⟨_, pss_one (ps_ret (pe_tup (pa_cons (pe_f GT hr (by rfl) (pa_cons (pv 0) (pa_cons (pv 1) pa_nil))) (pa_cons (pe_callTy call_tuple_of (by rfl) T.tup PyProof.Rows.boot_tuple (pa_cons (pe_lc (own := [("corner", 3)]) (g := gName 3) (tt := tYes) (te := tCall spCell [] E0 (tCons (tVar 1) (tCons (tVar 3) tNil))) rfl scToldR.nd (pi_tup (pv 2))
      (blkOk_by (by kernel_rfl)) (fun _ _ _ _ _ => pg_name (i := 3) scToldR.nd rfl (.inl rfl)) (fun _ _ _ _ _ => pts_nil) (fun _ _ _ _ _ => pe_f GC (hr.mono (by decide)) (by rfl) (pa_cons (pv 1) (pa_cons (pv 3) pa_nil)))) pa_nil)) pa_nil)))), ?_⟩
    refine ⟨_, rfl, _, rfl, a, W, v, s, rfl, hW, hv, hg, fun z H1 s1 t1 => ?_⟩
    have hb1 := s1 _ _ hb
    refine ⟨.ref b, rfl, b, rfl, ⟨_, SqT.of hb1⟩, fun D nD => ?_⟩
    refine lcP (walk_tup (xs := xs)) (src := row) lxs.symm (sel := fun _ => true) (val := LW.cellOf s) (Rel := fun H v m => Tl Enc.nat H v m) nD (fun _ _ _ _ h k t => tl_but h k t) (fun H2 s2 => SqT.of (s2 _ _ hb1)) (fun i H1 x H1' y => y_at y) (by omega) ?_ ?_
    · rintro i c x H2 H2' N Kv hc s2 ⟨rfl, hx⟩ s2' _ hN hK
      obtain ⟨c', hc', tc⟩ := hts.get hx
      rw [hc] at hc'
      cases hc'
      obtain rfl := tl_nat.mp tc
      refine ⟨rfl, tyes ⟨_, rfl, _, rfl, v, s, W.n, c, rfl, tl_same (s1.trans s2) hv, hg.part, hg.n5, lt c (List.mem_of_getElem? hc), fun H3 s3 => ?_⟩⟩
      exact hK _ _ rfl s3 (tl_nat.mpr rfl)
    · intro H2 zs s2 hD hz
      rw [List.filter_eq_self.mpr (fun _ _ => rfl)] at hz
      refine ⟨D, zs, rfl, .inl ⟨SqL.of hD, fun t nt => ⟨by show 2 ≤ sizeLine; decide, fun p np => ?_⟩⟩⟩
      have s3 := (same_new (o := .tup zs) nt).trans (same_new (o := .tup [z, .ref t]) np)
      exact q _ _ ((s1.trans s2).trans s3) (tl_two.mpr ⟨p, _, _, rfl, upd_same, tl_same (s2.trans s3) t1, tl_same (same_new np) (tl_newrow (E := Enc.nat) nt hz)⟩)
end
end LK
set_option autoImplicit false
set_option linter.all false
set_option maxRecDepth 100000
set_option synthInstance.maxSize 1000
set_option Elab.async false
namespace LK
open PySem PySem.Spec L2
/-! ### xs != [] -/
def rNeNil (K : PySem.W.Frag) : R2 := fun x y H Q => ∃ a b xs, x = .ref a ∧ y = .ref b ∧ SqL K H a xs ∧ SqL K H b [] ∧ Q (.bl (!xs.isEmpty)) H
theorem op_neNil {X : Cx} (hu : X.A.units + 64 < cLine) : OpR X (compareOp .NotEq) (rNeNil X.K) := by
  intro pins s σ H x y v u Q I rx ry h
  obtain ⟨a, b, xs, rfl, rfl, ha, hb, q⟩ := h
  obtain ⟨its, rv, pl, _⟩ := I.list ha
  obtain ⟨its2, rv2, pl2, _⟩ := I.list hb
  cases rx
  cases ry
  cases rv2
  have lx := rv.length
  cases xs with
  | nil =>
    have e : its = [] := List.length_eq_zero_iff.mp lx.symm
    subst e
    have z := PySem.SeqAt.RcNeAt.lists (A := X.A) (e := fun _ => true) pl.isList pl2.isList rfl (by omega) (fun j h1 _ => by simp at h1)
    exact z X.prog X.w _ _ ⟨.bl false, H, I, rfl, q⟩
  | cons x0 xs =>
    have z := PySem.SeqAt.RcNeAt.lists_lengths (A := X.A) pl.isList pl2.isList (by
      rw [bne_iff_ne]
      intro e
      simp only [List.size_toArray, List.length_nil] at e
      rw [← lx] at e
      simp at e) (by omega)
    exact z X.prog X.w _ _ ⟨.bl true, H, I, rfl, q⟩
section
variable {P : Program} {w : World} {K : PySem.W.Frag} {mg : Str → Option Value} {base : Heap} {C : Addr}
/-! #### kids_behind -/
theorem scKids : FnScope ["web", "stand", "row", "at", "tellings", "least", "kept", "corner"] ["web", "stand", "row"] (defScope sF_kids_behind) := ⟨rfl, rfl, rfl, by decide +kernel, rfl, by decide +kernel, by decide +kernel⟩
def spKids (C : Addr) : Sp := fun vs H Q _ => ∃ (a : Addr) (W : LW.Web) (v u : V) (s : LW.Stand) (row : List Nat), vs = [.ref a, v, u] ∧ WebAt C H a W ∧ Tl eSt H v s ∧ Good W s ∧ Tl eNs H u row ∧ row.length ≤ 5 ∧ (∀ x, x ∈ row → x < W.n) ∧ LW.target s ≠ s.length ∧
  ∀ t k l ls H', Same H H' → H' t = some (.tup [.ref k, .ref l]) → H' k = some (.lst ((LW.kids opsD W s row).map fun (i : Nat) => V.int (i : Int))) → H' l = some (.lst ls) → Q (.ref t) H'
theorem tgt_of {s : LW.Stand} (h : LW.target s ≠ s.length) : tgt s = (LW.target s : Int) := by
  unfold tgt
  rw [if_neg h]
theorem ok_kids {f : Addr} {fd : FuncData} (T : Tx K mg C) (F : FN K "kids_behind" sF_kids_behind f fd) (GT : Gf P w K mg base 1 "target" ["stand"] spTgt) (GR : Gf P w K mg base 6 "told_row" ["web", "stand", "row"] (spToldR C)) (GS : Gf P w K mg base 8 "singled" ["web", "stand", "corner"] (spSing C)) :
    FnOk P w K mg base CX0 9 f fd ["web", "stand", "row"] (spKids C) := by
  refine FDok F scKids (fun vs H Q E h => ?_) (fun cdv A outer s H vs Q E hr h => ?_)
  · obtain ⟨a, W, v, u, s, row, rfl, _⟩ := h
    rfl
  · obtain ⟨a, W, v, u, s, row, rfl, hW, hv, hg, hu, r5, lt, big, q⟩ := h
    obtain ⟨b, xs, rfl, hb, hts⟩ := tl_row.mp hv
    obtain ⟨rb, rxs, rfl, hrb, hrts⟩ := tl_row.mp hu
    have lxs := hts.len
    have lrx := hrts.len
    obtain ⟨cell, hcell, bigc, gd⟩ := LW.target_big big
    obtain ⟨uc, huc, tuc⟩ := ts_at hts hcell
    obtain ⟨ca, cxs, rfl, hca, hcts⟩ := tl_row.mp (show Tl eNs H uc cell from tuc)
    have lcx := hcts.len
    have memc := List.mem_of_getElem? hcell
    have lce := (part_small hg.part hg.n5).2 _ memc
    have hnd := hg.part.cellNd memc
    have cne := hg.part.ne _ memc
    refine ⟨_, pss_cons (ps_set (i := 3) scKids.nd rfl (.inl rfl) (pe_f GT (hr.mono (by decide)) (by rfl) (pa_cons (pv 1) pa_nil)))
      (pss_cons (ps_if (pt_cmpR op_eq (pv 3) (pe_un un_neg pe_int) (nomark _)) (pss_one ps_never) pss_nil)
      (pss_cons (ps_set (i := 4) scKids.nd rfl (.inr rfl) (pe_dcK (own := [("corner", 7)]) (g := gName 7) (tt := tYes) (tv := tCall (spToldR C) [] E0 (tCons (tVar 0) (tCons (tCall (spSing C) [] E0 (tCons (tVar 0) (tCons (tVar 1) (tCons (tVar 7) tNil)))) (tCons (tOp rCatZ (tVar 2) (tTup (tCons (tVar 7) tNil))) tNil)))) rfl scKids.nd
          (pi_tup (pe_ix ix_tup (pv 1) (pv 3) (fun _ _ => rfl))) (blkOk_by (by kernel_rfl)) (fun _ _ _ _ _ => pg_name (i := 7) scKids.nd rfl (.inl rfl)) (fun _ _ _ _ _ => pts_nil) (fun _ _ _ _ _ => pv 7)
          (fun _ _ _ _ _ => pe_f GR (hr.mono (by decide)) (by rfl) (pa_cons (pv 0) (pa_cons (pe_f GS hr (by rfl) (pa_cons (pv 0) (pa_cons (pv 1) (pa_cons (pv 7) pa_nil)))) (pa_cons (pe_op op_catZ (pv 2) (pe_tup (pa_cons (pv 7) pa_nil))) pa_nil))))))
      (pss_cons (ps_set (i := 5) scKids.nd rfl (.inr rfl) (pe_callB (cr_minD eR rfl hr.units) (by rfl) T.mn PyProof.Rows.boot_min (pa_cons (pe_lc (own := [("corner", 7)]) (g := gName 7) (tt := tYes) (te := tDGet (tVar 4) (tVar 7)) rfl scKids.nd (pi_tup (pe_ix ix_tup (pv 1) (pv 3) (fun _ _ => rfl)))
          (blkOk_by (by kernel_rfl)) (fun _ _ _ _ _ => pg_name (i := 7) scKids.nd rfl (.inl rfl)) (fun _ _ _ _ _ => pts_nil) (fun _ _ _ _ _ => pe_dget (hu_of hr) (pv 4) (pv 7) (fun _ _ => rfl))) pa_nil)))
      (pss_cons (ps_setLc (i := 6) (own := [("corner", 7)]) (g := gName 7) (tt := tTest (tOp (rEqE eR) (tDGet (tVar 4) (tVar 7)) (tVar 5))) (te := tVar 7) rfl scKids.nd rfl rfl (sw_true rfl rfl rfl (by kernel_rfl)) (pi_tup (pe_ix ix_tup (pv 1) (pv 3) (fun _ _ => rfl)))
          (blkOk_by (by kernel_rfl)) (fun _ _ _ _ _ => pg_name (i := 7) scKids.nd rfl (.inl rfl)) (fun _ _ _ _ _ => pts_one (pt_cmpR (op_eqE eR hr.units) (pe_dget (hu_of hr) (pv 4) (pv 7) (fun _ _ => rfl)) (pv 5) (nomark _))) (fun _ _ _ _ _ => pv 7))
      (pss_one (ps_ret (pe_tup (pa_cons (pv 6) (pa_cons (pe_lc (own := [("corner", 7)]) (g := gName 7) (tt := tTest (tOp (rNeE eR) (tDGet (tVar 4) (tVar 7)) (tVar 5))) (te := tVar 7) rfl scKids.nd (pi_tup (pe_ix ix_tup (pv 1) (pv 3) (fun _ _ => rfl)))
          (blkOk_by (by kernel_rfl)) (fun _ _ _ _ _ => pg_name (i := 7) scKids.nd rfl (.inl rfl)) (fun _ _ _ _ _ => pts_one (pt_cmpR (op_neE eR hr.units) (pe_dget (hu_of hr) (pv 4) (pv 7) (fun _ _ => rfl)) (pv 5) (nomark _))) (fun _ _ _ _ _ => pv 7)) pa_nil))))))))), ?_⟩
    refine ⟨_, rfl, .ref b, s, rfl, hv, fun H1 s1 => ?_⟩
    rw [tgt_of big]
    refine ⟨_, rfl, 1, rfl, rfl, _, rfl, ?_⟩
    have n1 : ¬ (V.int ((LW.target s : Nat) : Int) = V.int (-1)) := fun e => by
      injection e with e
      omega
    refine ite2 (fun e => absurd (of_decide_eq_true e) n1) fun _ => ?_
    have cellR : ∀ (H' : Hp), Same H H' → SqT K H' b xs ∧ SqT K H' ca cxs := fun H' s' => ⟨SqT.of (s' _ _ hb), SqT.of (s' _ _ hca)⟩
    -- tellings
    refine ⟨.ref b, rfl, _, rfl, b, xs, _, .ref ca, rfl, rfl, (cellR _ s1).1, atI_nat huc, ca, rfl, ⟨_, (cellR _ s1).2⟩, fun D nD => ?_⟩
    refine dcP (walk_tup (xs := cxs)) (src := cell) lcx.symm (key := fun c => (c : Int)) (val := LW.kidTold opsD W s row) (Rel := fun H v l => Tl eR H v l) nD (hnd.map (f := fun c : Nat => (c : Int)) fun x y h => by omega) (fun _ _ _ _ h k t => tl_butK h k t)
      (fun H2 s2 => (cellR _ (s1.trans s2)).2) (fun i H1 x H1' y => y_at y) (by omega) ?_ ?_
    · rintro i c x H2 H2' N hc s2 ⟨rfl, hx⟩ s2' _ hK
      obtain ⟨c', hc', tc⟩ := hcts.get hx
      rw [hc] at hc'
      cases hc'
      obtain rfl := tl_nat.mp tc
      have clt := hg.part.lt memc (List.mem_of_getElem? hc)
      have s02 := s1.trans s2
      refine ⟨rfl, tyes ⟨_, rfl, _, rfl, _, rfl, _, rfl, _, rfl, a, W, .ref b, s, c, rfl, hW.same s02, tl_same s02 hv, hg, clt, fun z H3 s3 t3 => ?_⟩⟩
      refine ⟨.ref rb, rfl, _, rfl, by show 1 ≤ sizeLine; decide, fun p np => ?_⟩
      have s4 : Same H3 (upd H3 p (.tup [.int (c : Nat)])) := same_new np
      refine ⟨rb, p, rxs, _, rfl, rfl, s4 _ _ (s3 _ _ (s02 _ _ hrb)), upd_same, ?_, fun p2 H5 s5 hp2 => ?_⟩
      · rw [sizeLine_eq]
        simp only [List.length_cons, List.length_nil]
        omega
      · have s35 := s4.trans s5
        have s05 := s02.trans (s3.trans s35)
        refine ⟨a, W, z, .ref p2, _, row ++ [c], rfl, hW.same s05, tl_same s35 t3, good_singled hg clt, tl_tup (E := Enc.nat) hp2 ((ts_same s05 hrts).append (.cons (tl_nat.mpr rfl) .nil)), ?_, fun x hx => ?_, fun y H6 s6 t6 => ?_⟩
        · rw [List.length_append]
          simp only [List.length_cons, List.length_nil]
          omega
        · rcases List.mem_append.mp hx with hx | hx
          · exact lt x hx
          · rw [List.mem_singleton.mp hx]
            exact clt
        · exact hK y H6 (s3.trans (s35.trans s6)) t6
    · intro H2 kvs s2 hD hk
      have s02 := s1.trans s2
      -- least
      refine ⟨.ref b, rfl, _, rfl, b, xs, _, .ref ca, rfl, rfl, (cellR _ s02).1, atI_nat huc, ca, rfl, ⟨_, (cellR _ s02).2⟩, fun D2 nD2 => ?_⟩
      refine lcP (walk_tup (xs := cxs)) (src := cell) lcx.symm (sel := fun _ => true) (val := LW.kidTold opsD W s row) (Rel := fun H v l => Tl eR H v l) nD2 (fun _ _ _ _ h k t => tl_but h k t) (fun H3 s3 => (cellR _ (s02.trans s3)).2) (fun i H1 x H1' y => y_at y) (by omega) ?_ ?_
      · rintro i c x H3 H3' N Kv hc s3 ⟨rfl, hx⟩ s3' _ _ hK
        obtain ⟨c', hc', tc⟩ := hcts.get hx
        rw [hc] at hc'
        cases hc'
        obtain rfl := tl_nat.mp tc
        obtain ⟨v, ev, tv⟩ := hk c (List.mem_of_getElem? hc)
        have g := DGet.k (k := Sum.inl (c : Int)) (s3 _ _ hD)
        rw [ev] at g
        exact ⟨rfl, tyes ⟨.ref D, rfl, .int c, rfl, D, v, rfl, g, hK v _ rfl same_refl (tl_same s3 tv)⟩⟩
      · intro H3 zs s3 hD2 hz
        rw [List.filter_eq_self.mpr (fun _ _ => rfl)] at hz
        have s03 := s02.trans s3
        refine ⟨D2, zs, _, rfl, SqL.of hD2, hz, by simpa using cne, by decide, fun lv _ tlv => ?_⟩
        -- kept
        refine ⟨.ref b, rfl, _, rfl, b, xs, _, .ref ca, rfl, rfl, (cellR _ s03).1, atI_nat huc, ca, rfl, ⟨_, (cellR _ s03).2⟩, fun D3 nD3 => ?_⟩
        refine lcP (walk_tup (xs := cxs)) (src := cell) lcx.symm (sel := fun c => decide (LW.kidTold opsD W s row c = opsD.minT (cell.map (LW.kidTold opsD W s row)))) (val := fun c => c) (Rel := fun H v l => Tl Enc.nat H v l) nD3 (fun _ _ _ _ h k t => tl_but h k t) (fun H4 s4 => (cellR _ (s03.trans s4)).2)
          (fun i H1 x H1' y => y_at y) (by omega) ?_ ?_
        · rintro i c x H4 H4' N Kv hc s4 ⟨rfl, hx⟩ s4' _ hN hK
          obtain ⟨c', hc', tc⟩ := hcts.get hx
          rw [hc] at hc'
          cases hc'
          obtain rfl := tl_nat.mp tc
          obtain ⟨v, ev, tv⟩ := hk c (List.mem_of_getElem? hc)
          have g := DGet.k (k := Sum.inl (c : Int)) (s4 _ _ (s3 _ _ hD))
          rw [ev] at g
          refine ⟨rfl, .ref D, rfl, .int c, rfl, D, v, rfl, g, lv, rfl, _, _, tl_same (s3.trans s4) tv, tl_same s4 tlv, by decide, _, rfl, ?_⟩
          cases e : decide (LW.kidTold opsD W s row c = opsD.minT (cell.map (LW.kidTold opsD W s row))) with
          | false =>
            have e' : decide (LW.kidTold opsD W s row c = least eR (cell.map (LW.kidTold opsD W s row))) = false := e
            rw [e']
            exact iteF (hN _ e same_refl)
          | true =>
            have e' : decide (LW.kidTold opsD W s row c = least eR (cell.map (LW.kidTold opsD W s row))) = true := e
            rw [e']
            exact iteT ⟨_, rfl, hK _ _ e same_refl (tl_nat.mpr rfl)⟩
        · intro H4 ks s4 hD3 hks
          rw [List.map_id'] at hks
          have eks : ks = (LW.kids opsD W s row).map fun (i : Nat) => V.int (i : Int) := by
            have e1 : LW.kids opsD W s row = cell.filter fun c => decide (LW.kidTold opsD W s row c = opsD.minT (cell.map (LW.kidTold opsD W s row))) := by
              unfold LW.kids
              rw [gd]
            rw [e1]
            exact ts_nat.mp hks
          rw [eks] at hD3
          have s04 := s03.trans s4
          refine ⟨_, rfl, ?_⟩
          refine ⟨.ref b, rfl, _, rfl, b, xs, _, .ref ca, rfl, rfl, (cellR _ s04).1, atI_nat huc, ca, rfl, ⟨_, (cellR _ s04).2⟩, fun D4 nD4 => ?_⟩
          refine lcP (walk_tup (xs := cxs)) (src := cell) lcx.symm (sel := fun c => !decide (LW.kidTold opsD W s row c = opsD.minT (cell.map (LW.kidTold opsD W s row)))) (val := fun c => c) (Rel := fun H v l => Tl Enc.nat H v l) nD4 (fun _ _ _ _ h k t => tl_but h k t) (fun H5 s5 => (cellR _ (s04.trans s5)).2)
            (fun i H1 x H1' y => y_at y) (by omega) ?_ ?_
          · rintro i c x H5 H5' N Kv hc s5 ⟨rfl, hx⟩ s5' _ hN hK
            obtain ⟨c', hc', tc⟩ := hcts.get hx
            rw [hc] at hc'
            cases hc'
            obtain rfl := tl_nat.mp tc
            obtain ⟨v, ev, tv⟩ := hk c (List.mem_of_getElem? hc)
            have s35 := s4.trans s5
            have g := DGet.k (k := Sum.inl (c : Int)) (s35 _ _ (s3 _ _ hD))
            rw [ev] at g
            refine ⟨rfl, .ref D, rfl, .int c, rfl, D, v, rfl, g, lv, rfl, _, _, tl_same (s3.trans s35) tv, tl_same s35 tlv, by decide, _, rfl, ?_⟩
            cases e : (!decide (LW.kidTold opsD W s row c = opsD.minT (cell.map (LW.kidTold opsD W s row)))) with
            | false =>
              have e' : (!decide (LW.kidTold opsD W s row c = least eR (cell.map (LW.kidTold opsD W s row)))) = false := e
              rw [e']
              exact iteF (hN _ e same_refl)
            | true =>
              have e' : (!decide (LW.kidTold opsD W s row c = least eR (cell.map (LW.kidTold opsD W s row)))) = true := e
              rw [e']
              exact iteT ⟨_, rfl, hK _ _ e same_refl (tl_nat.mpr rfl)⟩
          · intro H5 ls s5 hD4 _
            refine ⟨by show 2 ≤ sizeLine; decide, fun t nt => ?_⟩
            exact q t D3 D4 ls _ ((s04.trans s5).trans (same_new nt)) upd_same ((same_new nt) _ _ (s5 _ _ hD3)) ((same_new nt) _ _ hD4)
end
end LK
set_option autoImplicit false
set_option linter.all false
set_option maxRecDepth 100000
set_option synthInstance.maxSize 1000
set_option Elab.async false
namespace LK
open PySem PySem.Spec L2
theorem row_few {n : Nat} {row : List Nat} (nd : row.Nodup) (lt : ∀ x, x ∈ row → x < n) : row.length ≤ n := by
  have := nat_nodup_len row (List.range n) nd fun x hx => List.mem_range.mpr (lt x hx)
  rwa [List.length_range] at this
theorem ixN_nat {n j : Nat} (h : j < n) : ixN n (j : Int) = some j := by
  unfold ixN
  have h1 : (0 : Int) ≤ (j : Int) := by omega
  simp only [h1, if_true]
  have h2 : ((j : Int)).toNat = j := by omega
  rw [h2]
  simp [h]
section
variable {P : Program} {w : World} {K : PySem.W.Frag} {mg : Str → Option Value} {base : Heap} {C : Addr}
/-! #### worth -/
theorem scWorth : FnScope ["web", "row", "stand", "found", "at", "corner"] ["web", "row"] (defScope sF_worth) := ⟨rfl, rfl, rfl, by decide +kernel, rfl, by decide +kernel, by decide +kernel⟩
def spWorth (C : Addr) : Sp := fun vs H Q _ => ∃ (a : Addr) (W : LW.Web) (v : V) (row : List Nat), vs = [.ref a, v] ∧ WebAt C H a W ∧ Fit W ∧ Tl eNs H v row ∧ row.Nodup ∧ (∀ x, x ∈ row → x < W.n) ∧ ∀ u H', Same H H' → Tl eW H' u (LW.worth opsD W row) → Q u H'
theorem ok_worth {f : Addr} {fd : FuncData} (T : Tx K mg C) (F : FN K "worth" sF_worth f fd) (GK : Gf P w K mg base 4 "check_row" ["web", "thing"] (spCheck C)) (GT : Gf P w K mg base 8 "root" ["web"] (spRoot C)) (GS : Gf P w K mg base 8 "singled" ["web", "stand", "corner"] (spSing C))
    (GR : Gf P w K mg base 6 "told_row" ["web", "stand", "row"] (spToldR C)) : FnOk P w K mg base CX0 9 f fd ["web", "row"] (spWorth C) := by
  refine FDok F scWorth (fun vs H Q E h => ?_) (fun cdv A outer s H vs Q E hr h => ?_)
  · obtain ⟨a, W, v, row, rfl, _⟩ := h
    rfl
  · obtain ⟨a, W, v, row, rfl, hW, hF, hv, nd, lt, q⟩ := h
    obtain ⟨b, xs, rfl, hb, hts⟩ := tl_row.mp hv
    have lxs := hts.len
    have n5 := hF.n5
    have lrow := row_few nd lt
    refine ⟨_, pss_cons (ps_expr (pe_f GK (hr.mono (by decide)) (by rfl) (pa_cons (pv 0) (pa_cons (pv 1) pa_nil))))
      (pss_cons (ps_set (i := 2) scWorth.nd rfl (.inl rfl) (pe_f GT hr (by rfl) (pa_cons (pv 0) pa_nil)))
      (pss_cons (ps_set (i := 3) scWorth.nd rfl (.inl rfl) (pe_lst (pa_cons (pe_f GR (hr.mono (by decide)) (by rfl) (pa_cons (pv 0) (pa_cons (pv 2) (pa_cons (pe_tup pa_nil) pa_nil)))) pa_nil)))
      (pss_cons (ps_for PassesOwn.never rfl (pi_enumT (by rfl) T.enu (pa_cons (pv 1) pa_nil)) (pg_tup rfl (pgs_cons (pg_name (i := 4) scWorth.nd rfl (.inl rfl)) (pgs_cons (pg_name (i := 5) scWorth.nd rfl (.inl rfl)) pgs_nil)))
        (pss_cons (ps_set (i := 2) scWorth.nd rfl (.inl rfl) (pe_f GS hr (by rfl) (pa_cons (pv 0) (pa_cons (pv 2) (pa_cons (pv 5) pa_nil)))))
        (pss_one (ps_expr (pe_bm PySem.F.plainAttrs_list PySem.F.slot_list_append PySem.F.type_list_append mt_append (pv 3) (pa_cons (pe_f GR (hr.mono (by decide)) (by rfl) (pa_cons (pv 0) (pa_cons (pv 2) (pa_cons (pe_slice sl_tupZ (pv 1) po_none (po_some (pe_op op_add (pv 4) pe_int))) pa_nil)))) pa_nil))))))
      (pss_one (ps_ret (pe_callTy call_tuple_of (by rfl) T.tup PyProof.Rows.boot_tuple (pa_cons (pv 3) pa_nil))))))), ?_⟩
    refine ⟨_, rfl, _, rfl, a, W, .ref b, row, rfl, hW, n5, hv, nd, lt, fun H1 s1 => ?_⟩
    refine ⟨_, rfl, a, W, rfl, hW.same s1, hF, fun u H2 s2 t2 => ?_⟩
    have s02 := s1.trans s2
    refine ⟨_, rfl, _, rfl, Nat.zero_le _, fun p np => ?_⟩
    have s3 : Same H2 (upd H2 p (.tup [])) := same_new np
    refine ⟨a, W, u, .ref p, _, [], rfl, hW.same (s02.trans s3), tl_same s3 t2, good_root hF, tl_tup (E := Enc.nat) upd_same .nil, Nat.zero_le _, fun x hx => (by cases hx), fun z H4 s4 t4 => ?_⟩
    have s04 := (s02.trans s3).trans s4
    refine ⟨by show 1 ≤ sizeLine; decide, fun o no => ?_⟩
    have s5 : Same H4 (upd H4 o (.lst [z])) := same_new no
    have no0 : H o = none := by
      cases e : H o with
      | none => rfl
      | some y => rw [s04 _ _ e] at no; cases no
    refine ⟨.ref b, rfl, b, xs, rfl, SqT.of ((s04.trans s5) _ _ hb), ?_⟩
    refine for_it (walk_enumT (xs := xs)) (fun i σ H6 => (∃ u4 y4 y5, σ = [some (.ref a), some (.ref b), some u4, some (.ref o), y4, y5] ∧ Tl eSt H6 u4 (LW.rowStand opsD W (row.take i))) ∧ Same H H6 ∧ ∃ acc, H6 o = some (.lst acc) ∧ acc.length = i + 1 ∧
        Ts eR H6 acc ((List.range (i + 1)).map fun k => LW.toldRow opsD W (LW.rowStand opsD W (row.take k)) (row.take k)))
      ⟨⟨u, _, _, rfl, tl_same ((s3.trans s4).trans s5) t2⟩, s04.trans s5, [z], upd_same, rfl, .cons (tl_same s5 t4) .nil⟩ (fun i σ H1 _ p => SqT.of (p.2.1 _ _ hb)) ?_ ?_
    · rintro i x σ H6 H6' hi ⟨⟨u4, y4, y5, rfl, t6⟩, s6, acc, ho, lacc, tacc⟩ y
      obtain ⟨tp, x1, x2, rfl, ntp, rfl, e1, e2⟩ := y
      obtain rfl := Option.some.inj e1
      obtain ⟨c, hc, tc⟩ := hts.get e2
      obtain rfl := tl_nat.mp tc
      have clt := lt c (List.mem_of_getElem? hc)
      have st : Same H6 (upd H6 tp (.tup [.int (i : Nat), .int c])) := same_new ntp
      have s07 := s6.trans st
      refine ⟨tp, _, rfl, SqT.of upd_same, rfl, _, _, rfl, _, _, rfl, rfl, ?_⟩
      refine ⟨_, rfl, _, rfl, _, rfl, a, W, u4, _, c, rfl, hW.same s07, tl_same st t6, good_row hF (take_lt lt i), clt, fun u5 H8 s8 t8 => ?_⟩
      have s08 := s07.trans s8
      have tk := take_next' hc
      rw [show LW.singled opsD W (LW.rowStand opsD W (row.take i)) c = LW.rowStand opsD W (row.take (i + 1)) by rw [tk, LW.rowStand_snoc]] at t8
      have ho8 := s8 _ _ (st _ _ ho)
      refine ⟨.ref o, rfl, .inl ⟨rfl, _, SqL.of ho8⟩, .ref a, rfl, _, rfl, .ref b, rfl, _, rfl, _, 1, rfl, rfl, _, rfl, b, xs, rfl, s08 _ _ hb, fun p9 H9 s9 hp9 => ?_⟩
      have e9 : ((i : Nat) : Int) + 1 = ((i + 1 : Nat) : Int) := by omega
      rw [e9, cut_take] at hp9
      have s09 := s08.trans s9
      refine ⟨a, W, u5, .ref p9, _, row.take (i + 1), rfl, hW.same s09, tl_same s9 t8, good_row hF (take_lt lt (i + 1)), tl_tup (E := Enc.nat) hp9 ((ts_same s09 hts).take (i + 1)), ?_, take_lt lt (i + 1), fun z2 H10 s10 t10 => ?_⟩
      · rw [List.length_take]
        omega
      · have ho10 := s10 _ _ (s9 _ _ ho8)
        refine ⟨o, acc, z2, rfl, rfl, ho10, ?_, ?_⟩
        · rw [sizeLine_eq]
          omega
        · have k11 : TS H10 (upd H10 o (.lst (acc ++ [z2]))) := (Kp.lst ho10).ts
          refine ⟨⟨u5, _, _, rfl, tl_mono k11 (tl_same (s9.trans s10) t8)⟩, same_at (s09.trans s10) no0, _, upd_same, ?_, ?_⟩
          · rw [List.length_append]
            simp only [List.length_cons, List.length_nil]
            omega
          · rw [List.range_succ, List.map_append]
            exact all2_snoc (ts_mono k11 (ts_same (st.trans (s8.trans (s9.trans s10))) tacc)) (tl_mono k11 t10)
    · rintro σ H6 ⟨⟨u4, y4, y5, rfl, t6⟩, s6, acc, ho, lacc, tacc⟩
      rw [lxs] at tacc
      refine ⟨_, rfl, o, acc, rfl, .inl ⟨SqL.of ho, fun l nl => ?_⟩⟩
      exact q _ _ (s6.trans (same_new nl)) (tl_newrow (E := eR) nl tacc)
end
end LK
set_option autoImplicit false
set_option linter.all false
set_option maxRecDepth 100000
set_option synthInstance.maxSize 1000
set_option Elab.async false
namespace LK
open PySem PySem.Spec L2
/-- a row and its stand -/
def eB : Enc (List Nat × LW.Stand) := eNs.two eSt
theorem all2_last {α β : Type} {R : α → β → Prop} : ∀ {ys : List β} {y : β} {xs : List α}, LW.All2 R xs (ys ++ [y]) → ∃ xs0 x, xs = xs0 ++ [x] ∧ LW.All2 R xs0 ys ∧ R x y
  | [], y, _, .cons h .nil => ⟨[], _, rfl, .nil, h⟩
  | z :: ys, y, _, .cons h t => by
    obtain ⟨xs0, x, e, a, r⟩ := all2_last t
    exact ⟨_ :: xs0, x, by rw [e]; rfl, .cons h a, r⟩
theorem len_wt (W : LW.Web) : ∀ w : List (List Nat × LW.Stand), w.length ≤ LW.wt W w
  | [] => Nat.zero_le _
  | p :: w => by
    have := len_wt W w
    have pp : 0 < 6 ^ (W.n - p.2.length) := Nat.pow_pos (by decide)
    unfold LW.wt at this ⊢
    simp only [List.map_cons, List.sum_cons, List.length_cons]
    omega
theorem flatMap_snoc {α β : Type} (f : α → List β) (l : List α) (x : α) : (l ++ [x]).reverse.flatMap f = f x ++ l.reverse.flatMap f := by
  rw [List.reverse_append]
  rfl
theorem map_rev_flat {α β γ : Type} (g : α → γ) (f : γ → List β) (l : List α) (w : List γ) : (w ++ l.reverse.map g).reverse.flatMap f = (l.flatMap fun c => f (g c)) ++ w.reverse.flatMap f := by
  rw [List.reverse_append, List.flatMap_append, ← List.map_reverse, List.reverse_reverse, List.flatMap_map]
section
variable {P : Program} {w : World} {K : PySem.W.Frag} {mg : Str → Option Value} {base : Heap} {C : Addr}
/-! #### leaves -/
theorem scLeaves : FnScope ["web", "most", "found", "waiting", "row", "stand", "kept", "left", "corner"] ["web", "most"] (defScope sF_leaves) := ⟨rfl, rfl, rfl, by decide +kernel, rfl, by decide +kernel, by decide +kernel⟩
def spLeaves (C : Addr) : Sp := fun vs H Q _ => ∃ (a : Addr) (W : LW.Web), vs = [.ref a, .int 120] ∧ WebAt C H a W ∧ Fit W ∧ ∀ p ys H', Same H H' → H' p = some (.lst ys) → Ts eNs H' ys (LW.leaves opsD W) → Q (.ref p) H'
theorem way_good {W : LW.Web} {row : List Nat} {s : LW.Stand} (hF : Fit W) (y : LW.Way opsD W row s) : Good W s := by
  rw [y.eq]
  exact good_row hF y.lt
theorem ok_leaves {f : Addr} {fd : FuncData} {kws : List (Str × V)} (T : Tx K mg C) (F : FunD K "leaves" "leaves" (defArgs sF_leaves) (defBody sF_leaves) (defScope sF_leaves) [] kws f fd) (GT : Gf P w K mg base 8 "root" ["web"] (spRoot C)) (GG : Gf P w K mg base 1 "target" ["stand"] spTgt)
    (GK : Gf P w K mg base 9 "kids_behind" ["web", "stand", "row"] (spKids C)) (GS : Gf P w K mg base 8 "singled" ["web", "stand", "corner"] (spSing C)) : FnOk P w K mg base CX0 10 f fd ["web", "most"] (spLeaves C) := by
  refine FDok F scLeaves (fun vs H Q E h => ?_) (fun cdv A outer s H vs Q E hr h => ?_)
  · obtain ⟨a, W, rfl, _⟩ := h
    rfl
  · obtain ⟨a, W, rfl, hW, hF, q⟩ := h
    have n5 := hF.n5
    have many := LW.leaf_many (O := opsD) n5
    refine ⟨_, pss_cons (ps_set (i := 2) scLeaves.nd rfl (.inl rfl) (pe_lst pa_nil))
      (pss_cons (ps_set (i := 3) scLeaves.nd rfl (.inl rfl) (pe_lst (pa_cons (pe_tup (pa_cons (pe_tup pa_nil) (pa_cons (pe_f GT (hr.mono (by decide)) (by rfl) (pa_cons (pv 0) pa_nil)) pa_nil))) pa_nil)))
      (pss_cons (ps_while PassesOwn.never (pt_cmpR (op_neNil hr.units) (pv 3) (pe_lst pa_nil) (nomark _))
        (pss_cons (ps_asg (pe_bm0 PySem.F.plainAttrs_list PySem.F.slot_list_pop PySem.F.type_list_pop mt_pop (pv 3)) (pg_tup rfl (pgs_cons (pg_name (i := 4) scLeaves.nd rfl (.inr rfl)) (pgs_cons (pg_name (i := 5) scLeaves.nd rfl (.inr rfl)) pgs_nil))))
        (pss_one (ps_if (pt_cmpR op_eq (pe_f GG (hr.mono (by decide)) (by rfl) (pa_cons (pv 5) pa_nil)) (pe_un un_neg pe_int) (nomark _))
          (pss_cons (ps_if (pt_cmpR op_eq (pe_callB call_len_seq (by rfl) T.len PySem.boot_len (pa_cons (pv 2) pa_nil)) (pv 1) (nomark _)) (pss_one ps_never) pss_nil)
          (pss_one (ps_expr (pe_bm PySem.F.plainAttrs_list PySem.F.slot_list_append PySem.F.type_list_append mt_append (pv 2) (pa_cons (pv 4) pa_nil)))))
          (pss_cons (ps_asg (pe_f GK hr (by rfl) (pa_cons (pv 0) (pa_cons (pv 5) (pa_cons (pv 4) pa_nil)))) (pg_tup rfl (pgs_cons (pg_name (i := 6) scLeaves.nd rfl (.inl rfl)) (pgs_cons (pg_name (i := 7) scLeaves.nd rfl (.inl rfl)) pgs_nil))))
          (pss_one (ps_expr (pe_bm PySem.F.plainAttrs_list PySem.F.slot_list_extend PySem.F.type_list_extend mt_extend (pv 3) (pa_cons (pe_lc (own := [("corner", 8)]) (g := gName 8) (tt := tYes) (te := tTup (tCons (tOp rCatZ (tVar 4) (tTup (tCons (tVar 8) tNil))) (tCons (tCall (spSing C) [] E0 (tCons (tVar 0) (tCons (tVar 5) (tCons (tVar 8) tNil)))) tNil)))
              rfl scLeaves.nd (pi_reversed (by rfl) T.rev (pa_cons (pv 6) pa_nil)) (blkOk_by (by kernel_rfl)) (fun _ _ _ _ _ => pg_name (i := 8) scLeaves.nd rfl (.inl rfl)) (fun _ _ _ _ _ => pts_nil)
              (fun _ _ _ _ _ => pe_tup (pa_cons (pe_op op_catZ (pv 4) (pe_tup (pa_cons (pv 8) pa_nil))) (pa_cons (pe_f GS (hr.mono (by decide)) (by rfl) (pa_cons (pv 0) (pa_cons (pv 5) (pa_cons (pv 8) pa_nil)))) pa_nil)))) pa_nil)))))))))
      (pss_one (ps_ret (pv 2))))), ?_⟩
    -- found = []; waiting = [((), root(web))]
    refine ⟨Nat.zero_le _, fun o no => ?_⟩
    have s1 : Same H (upd H o (.lst [])) := same_new no
    refine ⟨Nat.zero_le _, fun p1 np1 => ?_⟩
    have s2 : Same (upd H o (.lst [])) (upd (upd H o (.lst [])) p1 (.tup [])) := same_new np1
    refine ⟨_, rfl, a, W, rfl, hW.same (s1.trans s2), hF, fun u H3 s3 t3 => ?_⟩
    have s03 := (s1.trans s2).trans s3
    refine ⟨by show 2 ≤ sizeLine; decide, fun p2 np2 => ⟨by show 1 ≤ sizeLine; decide, fun q0 nq0 => ?_⟩⟩
    have s4 : Same H3 (upd H3 p2 (.tup [.ref p1, u])) := same_new np2
    have s5 : Same (upd H3 p2 (.tup [.ref p1, u])) (upd (upd H3 p2 (.tup [.ref p1, u])) q0 (.lst [.ref p2])) := same_new nq0
    have s05 := s03.trans (s4.trans s5)
    have nq00 : H q0 = none := by
      cases e : H q0 with
      | none => rfl
      | some y => rw [(s03.trans s4) _ _ e] at nq0; cases nq0
    have no0 : H o = none := no
    have tB : Tl eB (upd (upd H3 p2 (.tup [.ref p1, u])) q0 (.lst [.ref p2])) (.ref p2) ([], LW.root opsD W) := by
      refine tl_two.mpr ⟨p2, _, _, rfl, s5 _ _ upd_same, tl_tup (E := Enc.nat) ((s3.trans (s4.trans s5)) _ _ upd_same) .nil, tl_same (s4.trans s5) t3⟩
    refine ⟨fun m σ H6 => ∃ (F : List (List Nat)) (wl : List (List Nat × LW.Stand)) (fs ws : List V) (y4 y5 y6 y7 y8 : Option V), σ = [some (.ref a), some (.int 120), some (.ref o), some (.ref q0), y4, y5, y6, y7, y8] ∧ Same H H6 ∧ H6 o = some (.lst fs) ∧ H6 q0 = some (.lst ws) ∧
        Ts eNs H6 fs F ∧ Ts eB H6 ws wl ∧ (∀ p, p ∈ wl → LW.Way opsD W p.1 p.2) ∧ LW.leaves opsD W = F ++ wl.reverse.flatMap (LW.LV opsD W) ∧ m = LW.wt W wl ∧ m ≤ 6 ^ 5,
      ⟨_, [], [([], LW.root opsD W)], [], [.ref p2], none, none, none, none, none, rfl, s05, (s2.trans (s3.trans (s4.trans s5))) _ _ upd_same, upd_same, .nil, .cons tB .nil, fun p hp => ?_, ?_, rfl, ?_⟩, ?_⟩
    · rw [List.mem_singleton.mp hp]
      exact LW.way_root opsD W
    · rw [LW.leaves_LV]
      simp
    · show LW.wt W [([], LW.root opsD W)] ≤ 6 ^ 5
      unfold LW.wt
      simp only [List.map_cons, List.map_nil, List.sum_cons, List.sum_nil, Nat.add_zero]
      exact Nat.pow_le_pow_right (by decide) (by omega)
    rintro m σ H6 ⟨F, wl, fs, ws, y4, y5, y6, y7, y8, rfl, s6, ho, hq, tF, tw, way, lv, em, m5⟩
    have noq : o ≠ q0 := by
      intro e
      rw [e] at s1
      have := (s2.trans (s3.trans s4)) _ _ (show (upd H o (.lst [])) o = _ from upd_same)
      rw [e, nq0] at this
      cases this
    refine ⟨.ref q0, rfl, Nat.zero_le _, fun l nl => ⟨q0, l, ws, rfl, rfl, SqL.of ((same_new nl) _ _ hq), SqL.of upd_same, _, rfl, ?_⟩⟩
    have s7 : Same H6 (upd H6 l (.lst [])) := same_new nl
    generalize upd H6 l (.lst []) = H7 at s7
    have s07 := s6.trans s7
    have ho7 := s7 _ _ ho
    have hq7 := s7 _ _ hq
    rcases List.eq_nil_or_concat wl with rfl | ⟨wl0, ⟨row, st⟩, rfl⟩
    · cases tw
      refine iteF ?_
      refine ⟨_, rfl, q o fs H7 s07 ho7 ?_⟩
      rw [lv]
      simpa using ts_same s7 tF
    · rw [List.concat_eq_append] at tw way lv em
      obtain ⟨ws0, x, rfl, tw0, tx⟩ := all2_last tw
      have ne : (ws0 ++ [x]).isEmpty = false := by simp
      rw [ne]
      refine iteT ?_
      have y0 : LW.Way opsD W row st := way (row, st) (by simp)
      have g0 := way_good hF y0
      obtain ⟨bx, v1, v2, rfl, hbx, tv1, tv2⟩ := tl_two.mp (show Tl (eNs.two eSt) H6 x (row, st) from tx)
      have lrow := row_few y0.nd y0.lt
      rw [LW.wt_snoc] at em
      replace em : m = LW.wt W wl0 + 6 ^ (W.n - st.length) := em
      rw [flatMap_snoc] at lv
      have pp : 0 < 6 ^ (W.n - st.length) := Nat.pow_pos (by decide)
      refine ⟨fun σ' H' => ∃ (F : List (List Nat)) (wl : List (List Nat × LW.Stand)) (fs ws : List V) (y4 y5 y6 y7 y8 : Option V), σ' = [some (.ref a), some (.int 120), some (.ref o), some (.ref q0), y4, y5, y6, y7, y8] ∧ Same H H' ∧ H' o = some (.lst fs) ∧ H' q0 = some (.lst ws) ∧
          Ts eNs H' fs F ∧ Ts eB H' ws wl ∧ (∀ p, p ∈ wl → LW.Way opsD W p.1 p.2) ∧ LW.leaves opsD W = F ++ wl.reverse.flatMap (LW.LV opsD W) ∧ LW.wt W wl < m,
        fun σ' H' h => ?_, ?_⟩
      · obtain ⟨F, wl, fs, ws, z4, z5, z6, z7, z8, h1, h2, h3, h4, h5, h6, h7, h8, h9⟩ := h
        exact ⟨_, h9, F, wl, fs, ws, z4, z5, z6, z7, z8, h1, h2, h3, h4, h5, h6, h7, h8, rfl, by omega⟩
      · -- row, stand = waiting.pop()
        refine ⟨.ref q0, rfl, .inl ⟨rfl, _, SqL.of hq7⟩, q0, _, .ref bx, rfl, rfl, hq7, by simp, ?_⟩
        rw [List.dropLast_concat]
        have k8 : Kp H7 (upd H7 q0 (.lst ws0)) := Kp.lst hq7
        have s08 : Same H (upd H7 q0 (.lst ws0)) := same_at s07 nq00
        have ho8 : (upd H7 q0 (.lst ws0)) o = some (.lst fs) := by rw [upd_ne noq]; exact ho7
        have hq8 : (upd H7 q0 (.lst ws0)) q0 = some (.lst ws0) := upd_same
        have tF8 : Ts eNs (upd H7 q0 (.lst ws0)) fs F := ts_mono k8.ts (ts_same s7 tF)
        have tw8 : Ts eB (upd H7 q0 (.lst ws0)) ws0 wl0 := ts_mono k8.ts (ts_same s7 tw0)
        have tr8 := tl_kp k8 (tl_same s7 tv1)
        have ts8 := tl_kp k8 (tl_same s7 tv2)
        have hbx8 := k8 bx (.tup [v1, v2]) trivial (s7 _ _ hbx)
        generalize upd H7 q0 (.lst ws0) = H8 at s08 ho8 hq8 tF8 tw8 tr8 ts8 hbx8
        refine ⟨bx, _, rfl, SqT.of hbx8, rfl, _, _, rfl, _, _, rfl, rfl, ?_⟩
        refine ⟨_, rfl, v2, st, rfl, ts8, fun H9 s9 => ?_⟩
        have s09 := s08.trans s9
        refine ⟨1, rfl, rfl, _, rfl, ?_⟩
        by_cases disc : LW.target st = st.length
        · have et : tgt st = -1 := by
            unfold tgt
            rw [if_pos disc]
          rw [et, decide_eq_true rfl]
          refine iteT ?_
          rw [LW.LV_leaf disc] at lv
          have lF : F.length < 120 := by
            have := congrArg List.length lv
            simp only [List.length_append, List.length_cons, List.length_nil] at this
            omega
          have lfs := tF8.len
          refine ⟨.ref o, rfl, o, fs, rfl, .inl (SqL.of (s9 _ _ ho8)), _, rfl, rfl, _, rfl, ite2 (fun e => ?_) fun _ => ?_⟩
          · have e' := of_decide_eq_true e
            injection e' with e'
            omega
          · have ho9 := s9 _ _ ho8
            refine ⟨.ref o, rfl, .inl ⟨rfl, _, SqL.of ho9⟩, v1, rfl, o, fs, v1, rfl, rfl, ho9, ?_, ?_⟩
            · rw [sizeLine_eq]
              omega
            · have k10 : Kp H9 (upd H9 o (.lst (fs ++ [v1]))) := Kp.lst ho9
              refine ⟨F ++ [row], wl0, fs ++ [v1], ws0, _, _, _, _, _, rfl, same_at s09 no0, upd_same, ?_, all2_snoc (ts_mono k10.ts (ts_same s9 tF8)) (tl_kp k10 (tl_same s9 tr8)), ts_mono k10.ts (ts_same s9 tw8), fun p hp => way p (List.mem_append_left _ hp), ?_, by omega⟩
              · rw [upd_ne noq.symm]
                exact s9 _ _ hq8
              · rw [lv, List.append_assoc]
        · rw [tgt_of disc]
          have n1 : ¬ (V.int ((LW.target st : Nat) : Int) = V.int (-1)) := fun e => by
            injection e with e
            omega
          refine ite2 (fun e => absurd (of_decide_eq_true e) n1) fun _ => ?_
          refine ⟨_, rfl, v2, rfl, v1, rfl, a, W, v2, v1, st, row, rfl, hW.same s09, tl_same s9 ts8, g0, tl_same s9 tr8, by omega, y0.lt, disc, fun t k ll ls H10 s10 ht hk hll => ?_⟩
          have s010 := s09.trans s10
          refine ⟨t, _, rfl, SqT.of ht, rfl, _, _, rfl, _, _, rfl, rfl, ?_⟩
          have lk5 : (LW.kids opsD W st row).length ≤ 5 := by
            obtain ⟨cell, hcell, _, gd⟩ := LW.target_big disc
            have := (part_small g0.part n5).2 _ (List.mem_of_getElem? hcell)
            unfold LW.kids
            rw [gd]
            exact Nat.le_trans (List.length_filter_le _ _) this
          have lkm : ((LW.kids opsD W st row).map fun (i : Nat) => V.int (i : Int)).length = (LW.kids opsD W st row).length := List.length_map ..
          have ho10 := s10 _ _ (s9 _ _ ho8)
          have hq10 := s10 _ _ (s9 _ _ hq8)
          refine ⟨.ref q0, rfl, .inl ⟨rfl, _, SqL.of hq10⟩, ?_⟩
          refine ⟨.ref k, rfl, k, _, rfl, SqL.of hk, fun D nD => ?_⟩
          refine lcP walk_rev (src := (LW.kids opsD W st row).reverse) (by rw [List.length_reverse, lkm]) (sel := fun _ => true) (val := fun c => (row ++ [c], LW.singled opsD W st c)) (Rel := fun H v p => Tl eB H v p) nD (fun _ _ _ _ h k t => tl_but h k t) (fun H11 s11 => SqL.of (s11 _ _ hk))
            (fun i H x H' y => by obtain ⟨rfl, _⟩ := y; exact same_refl) (by omega) ?_ ?_
          · rintro i c x H11 H11' N Kv hc s11 ⟨rfl, hx⟩ s11' _ hN hK
            have hil : i < (LW.kids opsD W st row).length := by
              have := (List.getElem?_eq_some_iff.mp hc).1
              rwa [List.length_reverse] at this
            rw [List.getElem?_reverse hil] at hc
            rw [lkm, List.getElem?_map, hc] at hx
            cases hx
            have memk := List.mem_of_getElem? hc
            have clt := LW.kids_lt opsD g0.part memk
            have s011 := s010.trans s11
            obtain ⟨rb, rxs, rfl, hrb, hrts⟩ := tl_row.mp (show Tl eNs H11' v1 row from tl_same (s9.trans (s10.trans s11)) tr8)
            have lrx := hrts.len
            refine ⟨rfl, tyes ⟨.ref rb, rfl, .int c, rfl, by show 1 ≤ sizeLine; decide, fun p np => ?_⟩⟩
            have s12 : Same H11' (upd H11' p (.tup [.int (c : Nat)])) := same_new np
            refine ⟨rb, p, rxs, _, rfl, rfl, s12 _ _ hrb, upd_same, ?_, fun p2 H13 s13 hp2 => ?_⟩
            · rw [sizeLine_eq]
              simp only [List.length_cons, List.length_nil]
              omega
            · have s1113 := s12.trans s13
              refine ⟨_, rfl, v2, rfl, _, rfl, a, W, v2, st, c, rfl, hW.same (s011.trans s1113), tl_same (s9.trans (s10.trans (s11.trans s1113))) ts8, g0, clt, fun u H14 s14 t14 => ?_⟩
              refine ⟨by show 2 ≤ sizeLine; decide, fun p3 np3 => ?_⟩
              have s15 : Same H14 (upd H14 p3 (.tup [.ref p2, u])) := same_new np3
              refine hK _ _ rfl (s1113.trans (s14.trans s15)) (tl_two.mpr ⟨p3, _, _, rfl, upd_same, ?_, tl_same s15 t14⟩)
              exact tl_tup (E := Enc.nat) ((s14.trans s15) _ _ hp2) ((ts_same (s1113.trans (s14.trans s15)) hrts).append (.cons (tl_nat.mpr rfl) .nil))
          · intro H11 zs s11 hD hz
            rw [List.filter_eq_self.mpr (fun _ _ => rfl)] at hz
            have hq11 := s11 _ _ hq10
            have ho11 := s11 _ _ ho10
            have lz := hz.len
            rw [List.length_map, List.length_reverse] at lz
            have lw0 := tw8.len
            have lwt := len_wt W wl0
            refine ⟨q0, D, ws0, zs, rfl, rfl, hq11, hD, ?_, ?_⟩
            · rw [sizeLine_eq]
              have : (6 : Nat) ^ 5 = 7776 := rfl
              omega
            · have k12 : Kp H11 (upd H11 q0 (.lst (ws0 ++ zs))) := Kp.lst hq11
              have s911 := s9.trans (s10.trans s11)
              refine ⟨F, wl0 ++ (LW.kids opsD W st row).reverse.map fun c => (row ++ [c], LW.singled opsD W st c), fs, ws0 ++ zs, _, _, _, _, _, rfl, same_at (s010.trans s11) nq00, ?_, upd_same, ts_mono k12.ts (ts_same s911 tF8), (ts_mono k12.ts (ts_same s911 tw8)).append (ts_mono k12.ts hz), fun p hp => ?_, ?_, ?_⟩
              · rw [upd_ne noq]
                exact ho11
              · rcases List.mem_append.mp hp with hp | hp
                · exact way p (List.mem_append_left _ hp)
                · obtain ⟨c, hc, rfl⟩ := List.mem_map.mp hp
                  exact (y0.kid (List.mem_reverse.mp hc) disc).1
              · rw [lv, map_rev_flat, LW.LV_kids y0 disc]
              · rw [em]
                exact LW.wt_kids y0 disc lk5 wl0
end
end LK
set_option autoImplicit false
set_option linter.all false
set_option maxRecDepth 100000
set_option synthInstance.maxSize 1000
set_option Elab.async false
namespace LK
open PySem PySem.Spec L2
/-- the module's numbers -/
structure Tc (mg : Str → Option Value) : Prop where
  most : ∃ u, mg "MOST" = some u ∧ RelV (.int 12) u
  great : ∃ u, mg "GREATEST" = some u ∧ RelV (.int 1000000000) u
section
variable {P : Program} {w : World} {K : PySem.W.Frag} {mg : Str → Option Value} {base : Heap} {C : Addr}
/-! #### is_colour, is_mark, is_corner -/
theorem scCol : FnScope ["thing"] ["thing"] (defScope sF_is_colour) := ⟨rfl, rfl, rfl, by decide +kernel, rfl, by decide +kernel, by decide +kernel⟩
def spCol : Sp := fun vs H Q _ => ∃ i : Int, vs = [.int i] ∧ 0 ≤ i ∧ i ≤ 1000000000 ∧ Q (.bl true) H
theorem ok_col {f : Addr} {fd : FuncData} (N : Tc mg) (F : FN K "is_colour" sF_is_colour f fd) (GW : Gf P w K mg base 1 "is_whole" ["thing"] spWhole) : FnOk P w K mg base CX0 2 f fd ["thing"] spCol := by
  obtain ⟨u, hu, ru⟩ := N.great
  refine FDok F scCol (fun vs H Q E h => ?_) (fun cdv A outer s H vs Q E hr h => ?_)
  · obtain ⟨i, rfl, _⟩ := h
    rfl
  · obtain ⟨i, rfl, h0, h1, q⟩ := h
    refine ⟨_, pss_one (ps_ret (pe_and (pe_f GW hr (by rfl) (pa_cons (pv 0) pa_nil)) (pe_one (pe_chain op_le op_le pe_int (pv 0) (pe_glob (by rfl) hu ru))))), ?_⟩
    refine ⟨_, rfl, i, rfl, true, rfl, iteT ⟨_, rfl, 0, i, rfl, rfl, true, ?_, iteT ⟨i, _, rfl, rfl, ?_⟩⟩⟩
    · show V.bl (decide (0 ≤ i)) = .bl true
      rw [decide_eq_true h0]
    · show Q (V.bl (decide (i ≤ 1000000000))) H
      rw [decide_eq_true h1]
      exact q
theorem scMk : FnScope ["thing"] ["thing"] (defScope sF_is_mark) := ⟨rfl, rfl, rfl, by decide +kernel, rfl, by decide +kernel, by decide +kernel⟩
def spMk : Sp := fun vs H Q _ => ∃ i : Int, vs = [.int i] ∧ 1 ≤ i ∧ i ≤ 1000000000 ∧ Q (.bl true) H
theorem ok_mk {f : Addr} {fd : FuncData} (N : Tc mg) (F : FN K "is_mark" sF_is_mark f fd) (GW : Gf P w K mg base 1 "is_whole" ["thing"] spWhole) : FnOk P w K mg base CX0 2 f fd ["thing"] spMk := by
  obtain ⟨u, hu, ru⟩ := N.great
  refine FDok F scMk (fun vs H Q E h => ?_) (fun cdv A outer s H vs Q E hr h => ?_)
  · obtain ⟨i, rfl, _⟩ := h
    rfl
  · obtain ⟨i, rfl, h0, h1, q⟩ := h
    refine ⟨_, pss_one (ps_ret (pe_and (pe_f GW hr (by rfl) (pa_cons (pv 0) pa_nil)) (pe_one (pe_chain op_le op_le pe_int (pv 0) (pe_glob (by rfl) hu ru))))), ?_⟩
    refine ⟨_, rfl, i, rfl, true, rfl, iteT ⟨_, rfl, 1, i, rfl, rfl, true, ?_, iteT ⟨i, _, rfl, rfl, ?_⟩⟩⟩
    · show V.bl (decide (1 ≤ i)) = .bl true
      rw [decide_eq_true h0]
    · show Q (V.bl (decide (i ≤ 1000000000))) H
      rw [decide_eq_true h1]
      exact q
theorem scCor : FnScope ["many", "thing"] ["many", "thing"] (defScope sF_is_corner) := ⟨rfl, rfl, rfl, by decide +kernel, rfl, by decide +kernel, by decide +kernel⟩
def spCor : Sp := fun vs H Q _ => ∃ n i : Int, vs = [.int n, .int i] ∧ 0 ≤ i ∧ i < n ∧ Q (.bl true) H
theorem ok_cor {f : Addr} {fd : FuncData} (F : FN K "is_corner" sF_is_corner f fd) (GW : Gf P w K mg base 1 "is_whole" ["thing"] spWhole) : FnOk P w K mg base CX0 2 f fd ["many", "thing"] spCor := by
  refine FDok F scCor (fun vs H Q E h => ?_) (fun cdv A outer s H vs Q E hr h => ?_)
  · obtain ⟨n, i, rfl, _⟩ := h
    rfl
  · obtain ⟨n, i, rfl, h0, h1, q⟩ := h
    refine ⟨_, pss_one (ps_ret (pe_and (pe_f GW hr (by rfl) (pa_cons (pv 1) pa_nil)) (pe_one (pe_chain op_le op_lt pe_int (pv 1) (pv 0))))), ?_⟩
    refine ⟨_, rfl, i, rfl, true, rfl, iteT ⟨_, rfl, 0, i, rfl, rfl, true, ?_, iteT ⟨_, rfl, i, n, rfl, rfl, ?_⟩⟩⟩
    · show V.bl (decide (0 ≤ i)) = .bl true
      rw [decide_eq_true h0]
    · show Q (V.bl (decide (i < n))) H
      rw [decide_eq_true h1]
      exact q
/-! #### is_arrow -/
abbrev Tri := Int × Int × Int
def eA : Enc Tri := Enc.num.three Enc.num Enc.num
def triV (t : Tri) : List V := [.int t.1, .int t.2.1, .int t.2.2]
structure GoodA (n : Nat) (t : Tri) : Prop where
  a0 : 0 ≤ t.1
  a1 : t.1 < n
  b0 : 0 ≤ t.2.1
  b1 : t.2.1 < n
  ne : t.1 ≠ t.2.1
  m0 : 1 ≤ t.2.2
  m1 : t.2.2 ≤ 1000000000
theorem isTL_l : PySem.W.kitAny K (.type "list") [.type "list", .type "tuple"] = some true := kitAny_cons (b := true) (kit_ty (by decide +kernel)) (fun e => nomatch e) fun _ => rfl
theorem scArr : FnScope ["many", "row", "a", "b", "mark"] ["many", "row"] (defScope sF_is_arrow) := ⟨rfl, rfl, rfl, by decide +kernel, rfl, by decide +kernel, by decide +kernel⟩
def spArr : Sp := fun vs H Q _ => ∃ (n : Nat) (p : Addr) (t : Tri), vs = [.int n, .ref p] ∧ H p = some (.lst (triV t)) ∧ GoodA n t ∧ ∀ H', Same H H' → Q (.bl true) H'
theorem ok_arr {f : Addr} {fd : FuncData} (T : Tx K mg C) (F : FN K "is_arrow" sF_is_arrow f fd) (GC : Gf P w K mg base 2 "is_corner" ["many", "thing"] spCor) (GM : Gf P w K mg base 2 "is_mark" ["thing"] spMk) : FnOk P w K mg base CX0 3 f fd ["many", "row"] spArr := by
  refine FDok F scArr (fun vs H Q E h => ?_) (fun cdv A outer s H vs Q E hr h => ?_)
  · obtain ⟨n, p, t, rfl, _⟩ := h
    rfl
  · obtain ⟨n, p, ⟨a, b, m⟩, rfl, hp, g, q⟩ := h
    refine ⟨_, pss_cons (ps_if (PW.pt (pw_or (pt_not (pt_val (pe_callB call_isiT (by rfl) T.isi PyProof.Rows.boot_isinstance (pa_cons (pv 1) (pa_cons (pe_tup (pa_cons (pe_bltn (v := .ty "list") (by rfl) T.lst PyProof.Rows.boot_list rfl) (pa_cons (pe_bltn (v := .ty "tuple") (by rfl) T.tup PyProof.Rows.boot_tuple rfl) pa_nil))) pa_nil)))))
        (pw_or1 (pt_cmpR op_ne (pe_callB call_len_seq (by rfl) T.len PySem.boot_len (pa_cons (pv 1) pa_nil)) pe_int (nomark _))))) (pss_one (ps_ret pe_bl)) pss_nil)
      (pss_cons (ps_asg (pv 1) (pg_unl rfl (pgs_cons (pg_name (i := 2) scArr.nd rfl (.inl rfl)) (pgs_cons (pg_name (i := 3) scArr.nd rfl (.inl rfl)) (pgs_cons (pg_name (i := 4) scArr.nd rfl (.inl rfl)) pgs_nil)))))
      (pss_one (ps_ret (pe_and (pe_f GC hr (by rfl) (pa_cons (pv 0) (pa_cons (pv 2) pa_nil))) (pe_and (pe_f GC hr (by rfl) (pa_cons (pv 0) (pa_cons (pv 3) pa_nil))) (pe_and (pe_cmpR op_ne (pv 2) (pv 3) (nomark _)) (pe_one (pe_f GM hr (by rfl) (pa_cons (pv 4) pa_nil))))))))), ?_⟩
    refine ⟨_, rfl, by show 2 ≤ sizeLine; decide, fun tp ntp => ?_⟩
    have s1 : Same H (upd H tp (.tup [.ty "list", .ty "tuple"])) := same_new ntp
    have hp1 := s1 _ _ hp
    refine ⟨.ref p, tp, _, .type "list", [.type "list", .type "tuple"], true, rfl, upd_same, .cons (.ty _) (.cons (.ty _) .nil), .base (.lst hp1), isTL_l, true, rfl, ?_⟩
    refine iteF ⟨_, rfl, p, _, rfl, .inl (SqL.of hp1), rfl, _, rfl, ?_⟩
    refine iteF ⟨_, rfl, p, _, rfl, SqL.of hp1, rfl, _, _, rfl, _, _, rfl, _, _, rfl, rfl, ?_⟩
    have nab : ¬ (V.int a = V.int b) := fun e => g.ne (by injection e)
    refine ⟨_, rfl, _, rfl, n, a, rfl, g.a0, g.a1, true, rfl, iteT ⟨_, rfl, _, rfl, n, b, rfl, g.b0, g.b1, true, rfl, iteT ⟨_, rfl, _, rfl, rfl, _, rfl, ?_⟩⟩⟩
    rw [decide_eq_false nab]
    exact iteT ⟨_, rfl, m, rfl, g.m0, g.m1, q _ s1⟩
/-! #### checked_colours -/
theorem scCC : FnScope ["colours", "colour"] ["colours"] (defScope sF_checked_colours) := ⟨rfl, rfl, rfl, by decide +kernel, rfl, by decide +kernel, by decide +kernel⟩
def spCC : Sp := fun vs H Q _ => ∃ (p : Addr) (cs : List Int), vs = [.ref p] ∧ H p = some (.lst (cs.map V.int)) ∧ cs.length ≤ 5 ∧ (∀ c, c ∈ cs → 0 ≤ c ∧ c ≤ 1000000000) ∧ ∀ t H', Same H H' → H' t = some (.tup (cs.map V.int)) → Q (.ref t) H'
theorem ok_cc {f : Addr} {fd : FuncData} (T : Tx K mg C) (N : Tc mg) (F : FN K "checked_colours" sF_checked_colours f fd) (GC : Gf P w K mg base 2 "is_colour" ["thing"] spCol) : FnOk P w K mg base CX0 3 f fd ["colours"] spCC := by
  obtain ⟨u, hu, ru⟩ := N.most
  refine FDok F scCC (fun vs H Q E h => ?_) (fun cdv A outer s H vs Q E hr h => ?_)
  · obtain ⟨p, cs, rfl, _⟩ := h
    rfl
  · obtain ⟨p, cs, rfl, hp, l5, hc, q⟩ := h
    refine ⟨_, pss_cons (ps_if (PW.pt (pw_or (pt_not (pt_val (pe_callB call_isiT (by rfl) T.isi PyProof.Rows.boot_isinstance (pa_cons (pv 0) (pa_cons (pe_tup (pa_cons (pe_bltn (v := .ty "list") (by rfl) T.lst PyProof.Rows.boot_list rfl) (pa_cons (pe_bltn (v := .ty "tuple") (by rfl) T.tup PyProof.Rows.boot_tuple rfl) pa_nil))) pa_nil)))))
        (pw_or1 (pt_cmpR op_gt (pe_callB call_len_seq (by rfl) T.len PySem.boot_len (pa_cons (pv 0) pa_nil)) (pe_glob (by rfl) hu ru) (nomark _))))) (pss_one ps_never) pss_nil)
      (pss_cons (ps_if (pt_not (pt_val (pe_callB (cr_all rfl) (by rfl) T.al PyProof.Rows.boot_all (pa_cons (pe_lc (own := [("colour", 1)]) (g := gName 1) (tt := tYes) (te := tCall spCol [] E0 (tCons (tVar 1) tNil)) rfl scCC.nd (pi_list (pv 0)) (blkOk_by (by kernel_rfl)) (fun _ _ _ _ _ => pg_name (i := 1) scCC.nd rfl (.inl rfl)) (fun _ _ _ _ _ => pts_nil)
          (fun _ _ _ _ _ => pe_f GC hr (by rfl) (pa_cons (pv 1) pa_nil))) pa_nil)))) (pss_one ps_never) pss_nil)
      (pss_one (ps_ret (pe_callTy call_tuple_of (by rfl) T.tup PyProof.Rows.boot_tuple (pa_cons (pv 0) pa_nil))))), ?_⟩
    refine ⟨_, rfl, by show 2 ≤ sizeLine; decide, fun tp ntp => ?_⟩
    have s1 : Same H (upd H tp (.tup [.ty "list", .ty "tuple"])) := same_new ntp
    have hp1 := s1 _ _ hp
    refine ⟨.ref p, tp, _, .type "list", [.type "list", .type "tuple"], true, rfl, upd_same, .cons (.ty _) (.cons (.ty _) .nil), .base (.lst hp1), isTL_l, true, rfl, ?_⟩
    refine iteF ⟨_, rfl, p, _, rfl, .inl (SqL.of hp1), _, _, rfl, rfl, _, rfl, ite2 (fun e => ?_) fun _ => ?_⟩
    · have := of_decide_eq_true e
      rw [List.length_map] at this
      omega
    · refine ⟨.ref p, rfl, p, rfl, ⟨_, SqL.of hp1⟩, fun D nD => ?_⟩
      refine lcP (walk_list (xs := cs.map V.int)) (src := cs) (by rw [List.length_map]) (sel := fun _ => true) (val := fun _ => true) (Rel := fun H v b => v = .bl b) nD (fun _ _ _ _ _ _ t => t) (fun H2 s2 => SqL.of (s2 _ _ hp1)) (fun i H1 x H1' y => y_at y) (by rw [List.length_map]; omega) ?_ ?_
      · rintro i c x H2 H2' N Kv hcc s2 ⟨rfl, hx⟩ s2' _ _ hK
        rw [List.getElem?_map, hcc] at hx
        cases hx
        have hb := hc c (List.mem_of_getElem? hcc)
        exact ⟨rfl, tyes ⟨_, rfl, c, rfl, hb.1, hb.2, hK _ _ rfl same_refl rfl⟩⟩
      · intro H2 zs s2 hD hz
        have ez : zs = (cs.map fun _ => true).map V.bl := by
          rw [List.filter_eq_self.mpr (fun _ _ => rfl)] at hz
          have : ∀ (l : List Bool) (zs : List V), LW.All2 (fun v b => v = V.bl b) zs l → zs = l.map V.bl := fun l zs h => by
            induction h with
            | nil => rfl
            | cons e _ ih => rw [e, ih]; rfl
          exact this _ _ hz
        rw [ez] at hD
        refine ⟨D, _, rfl, SqL.of hD, true, ?_, iteF ?_⟩
        · refine congrArg V.bl ?_
          rw [List.all_eq_true]
          intro b hb
          obtain ⟨_, _, rfl⟩ := List.mem_map.mp hb
          rfl
        · refine ⟨.ref p, rfl, p, _, rfl, .inl ⟨SqL.of (s2 _ _ hp1), fun l nl => ?_⟩⟩
          exact q l _ ((s1.trans s2).trans (same_new nl)) upd_same
end
end LK
set_option autoImplicit false
set_option linter.all false
set_option maxRecDepth 100000
set_option synthInstance.maxSize 1000
set_option Elab.async false
namespace LK
open PySem PySem.Spec L2
def keyA (t : Tri) : List L2.Key := [.inl t.1, .inl t.2.1]
theorem keyA_inj {t u : Tri} (h : keyA t = keyA u) : (t.1, t.2.1) = (u.1, u.2.1) := by
  unfold keyA at h
  simp only [List.cons.injEq, Sum.inl.injEq, and_true] at h
  rw [h.1, h.2]
abbrev RowsA (H : Hp) (vs : List V) (A : List Tri) : Prop := LW.All2 (fun v t => ∃ r, v = V.ref r ∧ H r = some (.lst (triV t))) vs A
theorem valT_no {kvs : List (List L2.Key × V)} {k : List L2.Key} (h : ∀ p, p ∈ kvs → p.1 ≠ k) : valV kvs k = none := by
  unfold valV
  have : kvs.find? (fun kv => decide (kv.1 = k)) = none := by
    rw [List.find?_eq_none]
    intro p hp e
    exact h p hp (of_decide_eq_true e)
  rw [this]
  rfl
section
variable {P : Program} {w : World} {K : PySem.W.Frag} {mg : Str → Option Value} {base : Heap} {C : Addr}
/-! #### checked_arrows -/
theorem scCA : FnScope ["many", "arrows", "found", "at", "row", "a", "b", "mark"] ["many", "arrows"] (defScope sF_checked_arrows) := ⟨rfl, rfl, rfl, by decide +kernel, rfl, by decide +kernel, by decide +kernel⟩
def spCA : Sp := fun vs H Q _ => ∃ (n : Nat) (p : Addr) (xs : List V) (A : List Tri), vs = [.int n, .ref p] ∧ H p = some (.lst xs) ∧ RowsA H xs A ∧ (A.map fun t => (t.1, t.2.1)).Nodup ∧ (∀ t, t ∈ A → GoodA n t) ∧ A.length ≤ 100 ∧ ∀ u H', Same H H' → Tl eA.row H' u (A.mergeSort (le eA)) → Q u H'
theorem ok_ca {f : Addr} {fd : FuncData} (T : Tx K mg C) (F : FN K "checked_arrows" sF_checked_arrows f fd) (GA : Gf P w K mg base 3 "is_arrow" ["many", "row"] spArr) : FnOk P w K mg base CX0 4 f fd ["many", "arrows"] spCA := by
  refine FDok F scCA (fun vs H Q E h => ?_) (fun cdv A outer s H vs Q E hr h => ?_)
  · obtain ⟨n, p, xs, A, rfl, _⟩ := h
    rfl
  · obtain ⟨n, p, xs, A, rfl, hp, hA, nd, good, l100, q⟩ := h
    have lxs := hA.len
    refine ⟨_, pss_cons (ps_if (pt_not (pt_val (pe_callB call_isiT (by rfl) T.isi PyProof.Rows.boot_isinstance (pa_cons (pv 1) (pa_cons (pe_tup (pa_cons (pe_bltn (v := .ty "list") (by rfl) T.lst PyProof.Rows.boot_list rfl) (pa_cons (pe_bltn (v := .ty "tuple") (by rfl) T.tup PyProof.Rows.boot_tuple rfl) pa_nil))) pa_nil))))) (pss_one ps_never) pss_nil)
      (pss_cons (ps_set (i := 2) scCA.nd rfl (.inl rfl) pe_dnewT)
      (pss_cons (ps_for PassesOwn.never rfl (pi_enum (by rfl) T.enu (pa_cons (pv 1) pa_nil)) (pg_tup rfl (pgs_cons (pg_name (i := 3) scCA.nd rfl (.inl rfl)) (pgs_cons (pg_name (i := 4) scCA.nd rfl (.inl rfl)) pgs_nil)))
        (pss_cons (ps_if (PW.pt (pw_or (pt_not (pt_val (pe_f GA hr (by rfl) (pa_cons (pv 0) (pa_cons (pv 4) pa_nil))))) (pw_or1 (pt_cmp (pc_din (hu_of hr) (pe_tup (pa_cons (pe_ix ix_list (pv 4) pe_int (fun _ _ => rfl)) (pa_cons (pe_ix ix_list (pv 4) pe_int (fun _ _ => rfl)) pa_nil))) (pv 2)))))) (pss_one ps_never) pss_nil)
        (pss_one (ps_dput (hu_of hr) (pv 2) (pe_tup (pa_cons (pe_ix ix_list (pv 4) pe_int (fun _ _ => rfl)) (pa_cons (pe_ix ix_list (pv 4) pe_int (fun _ _ => rfl)) pa_nil))) (pe_ix ix_list (pv 4) pe_int (fun _ _ => rfl)) rfl))))
      (pss_one (ps_ret (pe_callTy call_tuple_of (by rfl) T.tup PyProof.Rows.boot_tuple (pa_cons (pe_callB (cr_sortD eA hr.units) (by rfl) T.srt PyProof.Rows.boot_sorted (pa_cons (pe_lock (pe_lc (own := [("a", 5), ("b", 6), ("mark", 7)]) (g := gTup K 2 (gCons (gTup K 2 (gCons (gName 5) (gCons (gName 6) gNil))) (gCons (gName 7) gNil))) (tt := tYes)
          (te := tTup (tCons (tVar 5) (tCons (tVar 6) (tCons (tVar 7) tNil)))) rfl scCA.nd (pi_itemsT (pv 2)) (blkOk_by (by kernel_rfl))
          (fun _ _ _ _ _ => pg_tup rfl (pgs_cons (pg_tup rfl (pgs_cons (pg_name (i := 5) scCA.nd rfl (.inl rfl)) (pgs_cons (pg_name (i := 6) scCA.nd rfl (.inl rfl)) pgs_nil))) (pgs_cons (pg_name (i := 7) scCA.nd rfl (.inl rfl)) pgs_nil))) (fun _ _ _ _ _ => pts_nil)
          (fun _ _ _ _ _ => pe_tup (pa_cons (pv 5) (pa_cons (pv 6) (pa_cons (pv 7) pa_nil)))))) pa_nil)) pa_nil)))))), ?_⟩
    refine ⟨_, rfl, by show 2 ≤ sizeLine; decide, fun tp ntp => ?_⟩
    have s1 : Same H (upd H tp (.tup [.ty "list", .ty "tuple"])) := same_new ntp
    have hp1 := s1 _ _ hp
    refine ⟨.ref p, tp, _, .type "list", [.type "list", .type "tuple"], true, rfl, upd_same, .cons (.ty _) (.cons (.ty _) .nil), .base (.lst hp1), isTL_l, true, rfl, ?_⟩
    refine iteF fun D nD => ?_
    have nD0 : H D = none := by
      cases e : H D with
      | none => rfl
      | some y => rw [s1 _ _ e] at nD; cases nD
    have s2 : Same H (upd (upd H tp (.tup [.ty "list", .ty "tuple"])) D (.dT [])) := s1.trans (same_new nD)
    refine ⟨.ref p, rfl, p, xs, rfl, SqL.of (s2 _ _ hp), ?_⟩
    refine for_it (walk_enum (xs := xs)) (fun i σ H3 => (∃ y3 y4 y5 y6 y7, σ = [some (.int n), some (.ref p), some (.ref D), y3, y4, y5, y6, y7]) ∧ Same H H3 ∧ H3 D = some (.dT ((A.take i).map fun t => (keyA t, V.int t.2.2)))) ⟨⟨_, _, _, _, _, rfl⟩, s2, upd_same⟩ (fun i σ H1 _ z => SqL.of (z.2.1 _ _ hp)) ?_ ?_
    · rintro i x σ H3 H3' hi ⟨⟨y3, y4, y5, y6, y7, rfl⟩, s3, hD⟩ y
      obtain ⟨tq, x1, x2, rfl, ntq, rfl, e1, e2⟩ := y
      obtain rfl := Option.some.inj e1
      obtain ⟨t, ht, r, rfl, hr0⟩ := hA.get e2
      have gt := good t (List.mem_of_getElem? ht)
      have st : Same H3 (upd H3 tq (.tup [.int (i : Nat), .ref r])) := same_new ntq
      refine ⟨tq, _, rfl, SqT.of upd_same, rfl, _, _, rfl, _, _, rfl, rfl, ?_⟩
      have s4 := s3.trans st
      refine ⟨_, rfl, _, rfl, n, r, t, rfl, s4 _ _ hr0, gt, fun H5 s5 => ⟨true, rfl, iteF ?_⟩⟩
      have s05 := s4.trans s5
      have hr5 := s05 _ _ hr0
      have hD5 := s5 _ _ (st _ _ hD)
      refine ⟨_, rfl, r, _, 0, .int t.1, rfl, rfl, SqL.of hr5, atI_nat (j := 0) rfl, _, rfl, r, _, 1, .int t.2.1, rfl, rfl, SqL.of hr5, atI_nat (j := 1) rfl, by show 2 ≤ sizeLine; decide, fun k1 nk1 => ?_⟩
      have s6 : Same H5 (upd H5 k1 (.tup [.int t.1, .int t.2.1])) := same_new nk1
      have no : valV ((A.take i).map fun t => (keyA t, V.int t.2.2)) (keyA t) = none := valT_no fun pr hpr => by
        obtain ⟨u, hu, rfl⟩ := List.mem_map.mp hpr
        intro e
        have e' := keyA_inj e
        obtain ⟨j, hj, ej⟩ := List.mem_take_iff_getElem.mp hu
        have hil := (List.getElem?_eq_some_iff.mp ht).1
        have eil := (List.getElem?_eq_some_iff.mp ht).2
        have := (List.pairwise_iff_getElem.mp nd) j i (by rw [List.length_map]; omega) (by rw [List.length_map]; exact hil) (by omega)
        rw [List.getElem_map, List.getElem_map, ej, eil] at this
        exact this e'
      refine ⟨_, rfl, D, _, rfl, DGet.t (k := keyA t) (s6 _ _ hD5) upd_same, _, rfl, ?_⟩
      rw [no]
      refine iteF ?_
      have hr6 := s6 _ _ hr5
      refine ⟨_, rfl, r, _, 2, .int t.2.2, rfl, rfl, SqL.of hr6, atI_nat (j := 2) rfl, _, rfl, _, rfl, r, _, 0, .int t.1, rfl, rfl, SqL.of hr6, atI_nat (j := 0) rfl, _, rfl, r, _, 1, .int t.2.1, rfl, rfl, SqL.of hr6, atI_nat (j := 1) rfl, by show 2 ≤ sizeLine; decide, fun k2 nk2 => ?_⟩
      have s7 : Same (upd H5 k1 (.tup [.int t.1, .int t.2.1])) (upd (upd H5 k1 (.tup [.int t.1, .int t.2.1])) k2 (.tup [.int t.1, .int t.2.1])) := same_new nk2
      refine ⟨D, _, rfl, DPut.t (k := keyA t) (s7 _ _ (s6 _ _ hD5)) upd_same ?_, ⟨_, _, _, _, _, rfl⟩, same_at ((s05.trans s6).trans s7) nD0, ?_⟩
      · rw [List.length_map, List.length_take, sizeLine_eq]
        omega
      · rw [upd_same, putK_new _ no, take_next' ht, List.map_append]
        rfl
    · rintro σ H3 ⟨⟨y3, y4, y5, y6, y7, rfl⟩, s3, hD⟩
      rw [lxs, List.take_length] at hD
      refine ⟨D, _, hD, trivial, fun od => ?_⟩
      have s4 : Same H (upd H3 D (.frz od (.dT (A.map fun t => (keyA t, V.int t.2.2))))) := same_at s3 nD0
      have hD4 : (upd H3 D (.frz od (.dT (A.map fun t => (keyA t, V.int t.2.2))))) D = some (.frz od (.dT (A.map fun t => (keyA t, V.int t.2.2)))) := upd_same
      generalize upd H3 D (.frz od (.dT (A.map fun t => (keyA t, V.int t.2.2)))) = H4 at s4 hD4
      refine ⟨.ref D, rfl, D, od, _, rfl, hD4, fun D2 nD2 => ?_⟩
      refine lcP walk_itemsT (src := A) (by rw [List.length_map]) (sel := fun _ => true) (val := fun t => t) (Rel := fun H v t => Tl eA H v t) nD2 (fun _ _ _ _ h k t => tl_but h k t) (fun H5 s5 => s5 _ _ hD4) (fun i H x H' y => by obtain ⟨T, q1, k, v, _, _, n, _, rfl⟩ := y; exact same_new n) (by rw [List.length_map]; omega) ?_ ?_
      · rintro i t x H5 H5' N Kv ht s5 ⟨T5, q5, k, v, ek, rfl, nT5, hq5, rfl⟩ s5' _ _ hK
        rw [List.getElem?_map, ht] at ek
        cases ek
        have s6 : Same H5 (upd H5 T5 (.tup [.ref q5, .int t.2.2])) := same_new nT5
        refine ⟨T5, _, rfl, SqT.of upd_same, rfl, _, _, rfl, ⟨q5, _, rfl, SqT.of (s6 _ _ hq5), rfl, _, _, rfl, _, _, rfl, rfl, _, _, rfl, rfl, rfl, tyes ?_⟩⟩
        refine ⟨_, rfl, _, rfl, _, rfl, by show 3 ≤ sizeLine; decide, fun p7 np7 => ?_⟩
        exact hK _ _ rfl (same_new np7) (tl_three.mpr ⟨p7, _, _, _, rfl, upd_same, tl_num.mpr rfl, tl_num.mpr rfl, tl_num.mpr rfl⟩)
      · intro H5 zs s5 hD2 hz
        rw [List.filter_eq_self.mpr (fun _ _ => rfl), List.map_id'] at hz
        have hD5 := s5 _ _ hD4
        have n2 : D2 ≠ D := fun e => by rw [e] at hD2; rw [hD5] at hD2; cases hD2
        have ts6 : TS H5 (upd H5 D (.dT (A.map fun t => (keyA t, V.int t.2.2)))) := TS.upd fun xs e => by rw [hD5] at e; cases e
        have s06 : Same H (upd H5 D (.dT (A.map fun t => (keyA t, V.int t.2.2)))) := same_at (s4.trans s5) nD0
        refine ⟨hD5, D2, zs, A, rfl, SqL.of (by rw [upd_ne n2]; exact hD2), ts_mono ts6 hz, fun t _ => ⟨_, _, rfl⟩, by decide, fun p7 ys np7 hys => ?_⟩
        refine ⟨p7, ys, rfl, .inl ⟨SqL.of upd_same, fun l nl => ?_⟩⟩
        exact q _ _ ((s06.trans (same_new np7)).trans (same_new nl)) (tl_newrow nl (ts_same (same_new np7) hys))
/-! #### Web(..) -/
theorem scInit : FnScope ["self", "colours", "arrows", "a", "b", "mark"] ["self", "colours", "arrows"] (defScope sMinit) := ⟨rfl, rfl, rfl, by decide +kernel, rfl, by decide +kernel, by decide +kernel⟩
def spInit (C : Addr) : Sp := fun vs H Q _ => ∃ (x dx p r : Addr) (cs : List Int) (xs : List V) (A : List Tri) (mrk : Nat → Nat → Int), vs = [.ref x, .ref p, .ref r] ∧ H x = some (.ins C dx []) ∧ H p = some (.lst (cs.map V.int)) ∧ cs.length ≤ 5 ∧ (∀ c, c ∈ cs → 0 ≤ c ∧ c ≤ 1000000000) ∧
  H r = some (.lst xs) ∧ RowsA H xs A ∧ (A.map fun t => (t.1, t.2.1)).Nodup ∧ (∀ t, t ∈ A → GoodA cs.length t) ∧ A.length ≤ 100 ∧ (∀ (i j : Nat) (m : Int), ((i : Int), (j : Int), m) ∈ A → mrk i j = m) ∧ (∀ (i j : Nat), (∀ m : Int, ((i : Int), (j : Int), m) ∉ A) → mrk i j = 0) ∧
  ∀ H', But x H H' → WebAt C H' x ⟨cs, mrk⟩ → Q .non H'
theorem fs_eq (c r m : V) : putF ("marks" : Str) m (putF ("arrows" : Str) r (putF ("colours" : Str) c [])) = ([("colours", c), ("arrows", r), ("marks", m)] : List (Str × V)) := by
  have n1 : ¬ (("colours" : Str) = "arrows") := by decide +kernel
  have n2 : ¬ (("colours" : Str) = "marks") := by decide +kernel
  have n3 : ¬ (("arrows" : Str) = "marks") := by decide +kernel
  simp only [putF, if_neg n1, if_neg n2, if_neg n3]
theorem ok_init {f : Addr} {fd : FuncData} {dvs : List V} (T : Tx K mg C) (F : FunD K "__init__" "Web.__init__" (defArgs sMinit) (defBody sMinit) (defScope sMinit) dvs [] f fd) (GC : Gf P w K mg base 3 "checked_colours" ["colours"] spCC) (GA : Gf P w K mg base 4 "checked_arrows" ["many", "arrows"] spCA) :
    FnOk P w K mg base CX0 5 f fd ["self", "colours", "arrows"] (spInit C) := by
  refine FDok F scInit (fun vs H Q E h => ?_) (fun cdv A outer s H vs Q E hr h => ?_)
  · obtain ⟨x, dx, p, r, cs, xs, A, mrk, rfl, _⟩ := h
    rfl
  · obtain ⟨x, dx, p, r, cs, xs, A, mrk, rfl, hx, hp, l5, hc, hr0, hA, nd, good, l100, m1, m0, q⟩ := h
    refine ⟨_, pss_cons (ps_fld (pv 0) (pe_f GC (hr.mono (by decide)) (by rfl) (pa_cons (pv 1) pa_nil)) rfl)
      (pss_cons (ps_fld (pv 0) (pe_f GA hr (by rfl) (pa_cons (pe_callB call_len_seq (by rfl) T.len PySem.boot_len (pa_cons (pe_fld (pv 0) rfl) pa_nil)) (pa_cons (pv 2) pa_nil))) rfl)
      (pss_one (ps_fld (pv 0) (pe_dcT (own := [("a", 3), ("b", 4), ("mark", 5)]) (g := gTup K 3 (gCons (gName 3) (gCons (gName 4) (gCons (gName 5) gNil)))) (tt := tYes) (tk := tTup (tCons (tVar 3) (tCons (tVar 4) tNil))) (tv := tVar 5) (hu_of hr) rfl scInit.nd (pi_tup (pe_fld (pv 0) rfl)) (blkOk_by (by kernel_rfl))
          (fun _ _ _ _ _ => pg_tup rfl (pgs_cons (pg_name (i := 3) scInit.nd rfl (.inl rfl)) (pgs_cons (pg_name (i := 4) scInit.nd rfl (.inl rfl)) (pgs_cons (pg_name (i := 5) scInit.nd rfl (.inl rfl)) pgs_nil)))) (fun _ _ _ _ _ => pts_nil)
          (fun _ _ _ _ _ => pe_tup (pa_cons (pv 3) (pa_cons (pv 4) pa_nil))) (fun _ _ _ _ _ => pv 5)) rfl))), ?_⟩
    have npx : p ≠ x := fun e => by rw [e, hx] at hp; cases hp
    have nrx : r ≠ x := fun e => by rw [e, hx] at hr0; cases hr0
    refine ⟨_, rfl, p, cs, rfl, hp, l5, hc, fun t H1 s1 ht => ?_⟩
    refine ⟨_, rfl, x, C, dx, [], rfl, s1 _ _ hx, T.cl, T.nC, by show 0 < 1000; decide, ?_⟩
    have tx : t ≠ x := fun e => by rw [e, s1 _ _ hx] at ht; cases ht
    have b1 : But x H (upd H1 x (.ins C dx (putF "colours" (.ref t) []))) := (But.same s1).trans But.upd
    have hx1 : (upd H1 x (.ins C dx (putF "colours" (.ref t) []))) x = some (.ins C dx (putF "colours" (.ref t) [])) := upd_same
    have ht1 : (upd H1 x (.ins C dx (putF "colours" (.ref t) []))) t = some (.tup (cs.map V.int)) := by rw [upd_ne tx]; exact ht
    generalize upd H1 x (.ins C dx (putF "colours" (.ref t) [])) = H2 at b1 hx1 ht1
    have hA2 : RowsA H2 xs A := hA.imp fun v tr ⟨r1, e1, e2⟩ => ⟨r1, e1, b1 _ _ (fun e => by rw [e, hx] at e2; cases e2) e2⟩
    have lk1 : (putF ("colours" : Str) (V.ref t) []).lookup ("colours" : Str) = some (.ref t) := by rw [lookup_putF, if_pos rfl]
    refine ⟨.ref x, rfl, x, C, dx, _, .ref t, rfl, hx1, T.cl, T.nC, lk1, t, _, rfl, .inr (SqT.of ht1), _, rfl, ?_⟩
    refine ⟨cs.length, r, xs, A, by rw [List.length_map]; rfl, b1 _ _ nrx hr0, hA2, nd, good, l100, fun u H3 s3 t3 => ?_⟩
    obtain ⟨ta, txs, rfl, hta, tta⟩ := tl_row.mp t3
    refine ⟨_, rfl, x, C, dx, _, rfl, s3 _ _ hx1, T.cl, T.nA, by show 1 < 1000; decide, ?_⟩
    have tax : ta ≠ x := fun e => by rw [e, s3 _ _ hx1] at hta; cases hta
    have b2 : But x H (upd H3 x (.ins C dx (putF "arrows" (.ref ta) (putF "colours" (.ref t) [])))) := (b1.trans (But.same s3)).trans But.upd
    have hx3 : (upd H3 x (.ins C dx (putF "arrows" (.ref ta) (putF "colours" (.ref t) [])))) x = some (.ins C dx (putF "arrows" (.ref ta) (putF "colours" (.ref t) []))) := upd_same
    have ht3 : (upd H3 x (.ins C dx (putF "arrows" (.ref ta) (putF "colours" (.ref t) [])))) t = some (.tup (cs.map V.int)) := by rw [upd_ne tx]; exact s3 _ _ ht1
    have hta3 : (upd H3 x (.ins C dx (putF "arrows" (.ref ta) (putF "colours" (.ref t) [])))) ta = some (.tup txs) := by rw [upd_ne tax]; exact hta
    have tta3 : Ts eA (upd H3 x (.ins C dx (putF "arrows" (.ref ta) (putF "colours" (.ref t) [])))) txs (A.mergeSort (le eA)) := ts_mono (TS.upd fun xs e => by rw [s3 _ _ hx1] at e; cases e) tta
    generalize upd H3 x (.ins C dx (putF "arrows" (.ref ta) (putF "colours" (.ref t) []))) = H4 at b2 hx3 ht3 hta3 tta3
    have lk2 : (putF ("arrows" : Str) (V.ref ta) (putF ("colours" : Str) (V.ref t) [])).lookup ("arrows" : Str) = some (.ref ta) := by rw [lookup_putF, if_pos rfl]
    have pm := List.mergeSort_perm A (le eA)
    generalize A.mergeSort (le eA) = B at tta3 pm
    have ndB : (B.map fun t => (t.1, t.2.1)).Nodup := (pm.map _).nodup_iff.mpr nd
    have ltx := tta3.len
    have lB := pm.length_eq
    refine ⟨.ref x, rfl, x, C, dx, _, .ref ta, rfl, hx3, T.cl, T.nA, lk2, ta, rfl, ⟨_, SqT.of hta3⟩, fun D nD => ?_⟩
    refine tc_it (walk_tup (xs := txs)) (fun i H5 => Same H4 H5 ∧ ∃ kvs, H5 D = some (.dT kvs) ∧ kvs.length ≤ i ∧ (∀ t, t ∈ B.take i → valV kvs (keyA t) = some (.int t.2.2)) ∧ ∀ k v, valV kvs k = some v → ∃ t, t ∈ B.take i ∧ keyA t = k ∧ v = .int t.2.2)
      ⟨same_new nD, [], upd_same, Nat.le_refl _, fun t ht => by simp at ht, fun k v e => by cases e⟩ (fun i H5 _ z => SqT.of (z.1 _ _ hta3)) ?_ ?_
    · rintro i y H5 H5' hi ⟨s5, kvs, hD, lk, k1, k2⟩ ⟨rfl, hy⟩
      obtain ⟨tr, htr, ttr⟩ := tta3.get hy
      obtain ⟨pt, v1, v2, v3, rfl, hpt, t1, t2, t3'⟩ := tl_three.mp (show Tl (Enc.num.three Enc.num Enc.num) H4 y tr from ttr)
      obtain rfl := tl_num.mp t1
      obtain rfl := tl_num.mp t2
      obtain rfl := tl_num.mp t3'
      refine ⟨pt, _, rfl, SqT.of (s5 _ _ hpt), rfl, _, _, rfl, _, _, rfl, _, _, rfl, rfl, rfl, tyes ?_⟩
      refine ⟨_, rfl, _, rfl, by show 2 ≤ sizeLine; decide, fun kp nkp => ⟨_, rfl, kvs, keyA tr, kp, rfl, upd_same, (same_new nkp) _ _ hD, ?_, same_at (s5.trans (same_new nkp)) nD, _, upd_same, ?_, ?_, ?_⟩⟩
      · rw [sizeLine_eq]
        omega
      · have := length_putK kvs (keyA tr) (.int tr.2.2)
        omega
      · intro t4 ht4
        rw [take_next' htr, List.mem_append, List.mem_singleton] at ht4
        rw [valV_put]
        rcases ht4 with ht4 | rfl
        · rw [if_neg]
          · exact k1 t4 ht4
          · intro e
            have e' := keyA_inj e
            obtain ⟨j, hj, ej⟩ := List.mem_take_iff_getElem.mp ht4
            have hil := (List.getElem?_eq_some_iff.mp htr).1
            have eil := (List.getElem?_eq_some_iff.mp htr).2
            have := (List.pairwise_iff_getElem.mp ndB) j i (by rw [List.length_map]; omega) (by rw [List.length_map]; exact hil) (by omega)
            rw [List.getElem_map, List.getElem_map, ej, eil] at this
            exact this e'
        · rw [if_pos rfl]
      · intro k v e
        rw [valV_put] at e
        rw [take_next' htr]
        by_cases z : k = keyA tr
        · rw [if_pos z] at e
          cases e
          exact ⟨tr, by simp, z.symm, rfl⟩
        · rw [if_neg z] at e
          obtain ⟨t5, h5, h6, h7⟩ := k2 k v e
          exact ⟨t5, List.mem_append_left _ h5, h6, h7⟩
    · rintro H5 ⟨s5, kvs, hD, lk, k1, k2⟩
      rw [ltx, List.take_length] at k1 k2
      have nDx : D ≠ x := fun e => by rw [e, hx3] at nD; cases nD
      refine ⟨_, rfl, x, C, dx, _, rfl, s5 _ _ hx3, T.cl, T.nM, by show 2 < 1000; decide, ?_⟩
      refine q _ ((b2.trans (But.same s5)).trans But.upd) ⟨dx, t, ta, D, kvs, ?_, ?_, ?_, fun i j => ?_⟩
      · rw [upd_same, fs_eq]
      · rw [upd_ne tx]
        exact s5 _ _ ht3
      · rw [upd_ne nDx]
        exact hD
      · cases e : valV kvs [.inl (i : Int), .inl (j : Int)] with
        | none =>
          show V.int 0 = V.int (mrk i j)
          rw [m0 i j fun m hm => ?_]
          have := k1 _ (pm.mem_iff.mpr hm)
          rw [show keyA ((i : Int), (j : Int), m) = [.inl (i : Int), .inl (j : Int)] from rfl, e] at this
          cases this
        | some v =>
          obtain ⟨t6, h6, h7, h8⟩ := k2 _ _ e
          rw [h8]
          show V.int t6.2.2 = V.int (mrk i j)
          have e6 := keyA_inj (t := t6) (u := ((i : Int), (j : Int), t6.2.2)) h7
          have : t6 = ((i : Int), (j : Int), t6.2.2) := by
            have e1 : t6.1 = (i : Int) := congrArg Prod.fst e6
            have e2 : t6.2.1 = (j : Int) := congrArg Prod.snd e6
            exact Prod.ext e1 (Prod.ext e2 rfl)
          rw [m1 i j t6.2.2 (by rw [← this]; exact pm.mem_iff.mp h6)]
end
end LK
set_option autoImplicit false
set_option linter.all false
set_option maxRecDepth 100000
set_option synthInstance.maxSize 1000
set_option Elab.async false
namespace LK
open PySem PySem.Spec L2
/-- a deck: what is left of its cell, its number, how often it was asked -/
def Deck (H : Hp) (p : Addr) (b : Nat) : Prop := ∃ c k j : Int, H p = some (.lst [.int c, .int k, .int j]) ∧ 0 ≤ c ∧ 0 ≤ k ∧ k ≤ 1 ∧ 0 ≤ j ∧ j ≤ b
theorem Deck.same {H H' : Hp} {p : Addr} {b : Nat} (s : Same H H') (d : Deck H p b) : Deck H' p b := by
  obtain ⟨c, k, j, h, r⟩ := d
  exact ⟨c, k, j, s _ _ h, r⟩
theorem Deck.more {H : Hp} {p : Addr} {b b' : Nat} (h : b ≤ b') (d : Deck H p b) : Deck H p b' := by
  obtain ⟨c, k, j, h1, h2, h3, h4, h5, h6⟩ := d
  exact ⟨c, k, j, h1, h2, h3, h4, h5, by omega⟩
theorem Deck.but {H H' : Hp} {p D : Addr} {b : Nat} (n : p ≠ D) (s : But D H H') (d : Deck H p b) : Deck H' p b := by
  obtain ⟨c, k, j, h, r⟩ := d
  exact ⟨c, k, j, s _ _ n h, r⟩
theorem Deck.lst {H : Hp} {p : Addr} {b : Nat} (d : Deck H p b) : ∃ acc, H p = some (.lst acc) := by
  obtain ⟨c, k, j, h, _⟩ := d
  exact ⟨_, h⟩
theorem Deck.ne {H : Hp} {p q : Addr} {b : Nat} (d : Deck H p b) (h : H q = none) : q ≠ p := fun e => by
  obtain ⟨c, k, j, hp, _⟩ := d
  rw [e, hp] at h
  cases h
theorem fdiv_big (i : Int) : CDivW i 2147483629 := wide_div (b := 32) (by decide) (by decide) (by decide) (by decide)
section
variable {P : Program} {w : World} {K : PySem.W.Frag} {mg : Str → Option Value} {base : Heap} {C : Addr}
theorem scDeck : FnScope ["_law_script", "_law_k", "_law_cell"] ["_law_script", "_law_k"] (defScope sLdeck) := ⟨rfl, rfl, rfl, by decide +kernel, rfl, by decide +kernel, by decide +kernel⟩
def spDeck (K : PySem.W.Frag) : Sp := fun vs H Q _ => ∃ (a : Addr) (ns : List Int) (k : Nat), vs = [.ref a, .int k] ∧ SqL K H a (ns.map V.int) ∧ ns.length ≤ 63 ∧ k ≤ 1 ∧ ∀ p H', Same H H' → H p = none → Deck H' p 0 → Q (.ref p) H'
theorem ok_deck {f : Addr} {fd : FuncData} (T : Tx K mg C) (F : FN K "_law_deck" sLdeck f fd) : FnOk P w K mg base CX0 1 f fd ["_law_script", "_law_k"] (spDeck K) := by
  refine FDok F scDeck (fun vs H Q E h => ?_) (fun cdv A outer s H vs Q E hr h => ?_)
  · obtain ⟨a, ns, k, rfl, _⟩ := h
    rfl
  · obtain ⟨a, ns, k, rfl, hS, l63, hk, q⟩ := h
    refine ⟨_, pss_cons (ps_set (i := 2) scDeck.nd rfl (.inl rfl) pe_int)
      (pss_cons (ps_if (pt_cmpR op_lt (pv 1) (pe_callB call_len_seq (by rfl) T.len PySem.boot_len (pa_cons (pv 0) pa_nil)) (nomark _)) (pss_one (ps_set (i := 2) scDeck.nd rfl (.inl rfl) (pe_callB call_abs (by rfl) T.abs PyProof.Rows.boot_abs (pa_cons (pe_ix ix_list (pv 0) (pv 1) (fun _ _ => rfl)) pa_nil)))) pss_nil)
      (pss_one (ps_ret (pe_lst (pa_cons (pv 2) (pa_cons (pv 1) (pa_cons pe_int pa_nil))))))), ?_⟩
    have fin : ∀ c : Int, 0 ≤ c → ∀ p, H p = none → Q (.ref p) (upd H p (.lst [.int c, .int k, .int 0])) := fun c hc p np =>
      q p _ (same_new np) np ⟨c, k, 0, upd_same, hc, by omega, by omega, by omega, by omega⟩
    refine ⟨_, rfl, .ref a, rfl, a, _, rfl, .inl hS, _, _, rfl, rfl, _, rfl, ite2 (fun e => ?_) fun e => ?_⟩
    · have hlt := of_decide_eq_true e
      rw [List.length_map] at hlt
      have hk2 : k < ns.length := by omega
      refine ⟨.ref a, rfl, _, rfl, a, _, _, .int ns[k], rfl, rfl, hS, atI_nat (j := k) (by rw [List.getElem?_map, List.getElem?_eq_getElem hk2]; rfl), _, rfl, ?_⟩
      refine ⟨_, rfl, _, rfl, by show 3 ≤ sizeLine; decide, fun p np => ?_⟩
      refine fin _ ?_ p np
      split <;> omega
    · exact ⟨_, rfl, _, rfl, by show 3 ≤ sizeLine; decide, fun p np => fin 0 (by decide) p np⟩
theorem scTake : FnScope ["_law_deck_here", "_law_many", "_law_digit", "_law_low", "_law_high", "_law_mixed"] ["_law_deck_here", "_law_many"] (defScope sLtake) := ⟨rfl, rfl, rfl, by decide +kernel, rfl, by decide +kernel, by decide +kernel⟩
def spTake : Sp := fun vs H Q _ => ∃ (p : Addr) (b m : Nat), vs = [.ref p, .int m] ∧ Deck H p b ∧ b ≤ 1000000 ∧ 0 < m ∧ m ≤ 1000000 ∧ ∀ (d : Nat) H', d < m → But p H H' → Deck H' p (b + 1) → Q (.int d) H'
theorem ok_take {f : Addr} {fd : FuncData} (F : FN K "_law_take" sLtake f fd) : FnOk P w K mg base CX0 1 f fd ["_law_deck_here", "_law_many"] spTake := by
  refine FDok F scTake (fun vs H Q E h => ?_) (fun cdv A outer s H vs Q E hr h => ?_)
  · obtain ⟨p, b, m, rfl, _⟩ := h
    rfl
  · obtain ⟨p, b, m, rfl, ⟨c, k, j, hp, c0, k0, k1, j0, jb⟩, b6, m0, m6, q⟩ := h
    refine ⟨_, pss_cons (ps_asg (pe_op op_add (pe_ix ix_list (pv 0) pe_int (fun _ _ => rfl)) pe_int) (pg_sub (pv 0) pe_int set_list))
      (pss_cons (ps_if (pt_cmpR op_ge (pe_ix ix_list (pv 0) pe_int (fun _ _ => rfl)) (pe_op op_pow pe_int pe_int) (nomark _))
        (pss_cons (ps_set (i := 2) scTake.nd rfl (.inl rfl) (pe_op op_mod (pe_ix ix_list (pv 0) pe_int (fun _ _ => rfl)) (pv 1)))
        (pss_cons (ps_asg (pe_op op_fdiv (pe_ix ix_list (pv 0) pe_int (fun _ _ => rfl)) (pv 1)) (pg_sub (pv 0) pe_int set_list))
        (pss_one (ps_ret (pv 2))))) pss_nil)
      (pss_cons (ps_set (i := 3) scTake.nd rfl (.inl rfl) (pe_op op_add (pe_op op_mod (pe_ix ix_list (pv 0) pe_int (fun _ _ => rfl)) pe_int) pe_int))
      (pss_cons (ps_set (i := 4) scTake.nd rfl (.inl rfl) (pe_op op_fdivW (pe_ix ix_list (pv 0) pe_int (fun _ _ => rfl)) pe_int))
      (pss_cons (ps_set (i := 5) scTake.nd rfl (.inl rfl) (pe_op op_mul (pv 3) (pe_op op_add pe_int (pe_op op_mul pe_int (pe_ix ix_list (pv 0) pe_int (fun _ _ => rfl))))))
      (pss_cons (ps_set (i := 5) scTake.nd rfl (.inl rfl) (pe_op op_add (pv 5) (pe_op op_mul (pv 4) (pe_op op_add pe_int (pe_op op_mul pe_int (pe_ix ix_list (pv 0) pe_int (fun _ _ => rfl)))))))
      (pss_cons (ps_set (i := 5) scTake.nd rfl (.inl rfl) (pe_op op_mod (pe_op op_add (pe_op op_add (pv 5) (pe_op op_mul pe_int (pe_ix ix_list (pv 0) pe_int (fun _ _ => rfl)))) (pe_op op_pow (pe_ix ix_list (pv 0) pe_int (fun _ _ => rfl)) pe_int)) pe_int))
      (pss_one (ps_ret (pe_op op_mod (pe_op op_fdiv (pe_op op_mod (pe_op op_mul (pv 5) (pv 5)) pe_int) pe_int) (pv 1)))))))))), ?_⟩
    refine ⟨.ref p, rfl, p, _, 2, .int j, rfl, rfl, SqL.of hp, atI_nat (j := 2) rfl, j, 1, rfl, rfl, .ref p, rfl, p, _, 2, 2, rfl, rfl, hp, rfl, ?_⟩
    generalize eH : upd H p (.lst (List.set [.int c, .int k, .int j] 2 (.int (j + 1)))) = H1
    have hp1 : H1 p = some (.lst [.int c, .int k, .int (j + 1)]) := by
      rw [← eH]
      exact upd_same
    have b1 : But p H H1 := by
      rw [← eH]
      exact But.upd
    have S := SqL.of (K := K) hp1
    have fin : ∀ (x : Int) H', But p H H' → Deck H' p (b + 1) → Q (.int (x % (m : Int))) H' := fun x H' h1 h2 => by
      have e1 : 0 ≤ x % (m : Int) := Int.emod_nonneg _ (by omega)
      have e2 : x % (m : Int) < m := Int.emod_lt_of_pos _ (by omega)
      have z := q (x % (m : Int)).toNat H' (by omega) h1 h2
      rw [Int.toNat_of_nonneg e1] at z
      exact z
    refine ⟨.ref p, rfl, p, _, 0, .int c, rfl, rfl, S, atI_nat (j := 0) rfl, 10, 18, rfl, rfl, ⟨by decide, by decide, by decide⟩, _, _, rfl, rfl, _, rfl, ite2 (fun e => ?_) fun e => ?_⟩
    · refine ⟨.ref p, rfl, p, _, 0, .int c, rfl, rfl, S, atI_nat (j := 0) rfl, _, rfl, c, m, rfl, rfl, by show (0 : Int) < m; omega, ?_⟩
      refine ⟨.ref p, rfl, p, _, 0, .int c, rfl, rfl, S, atI_nat (j := 0) rfl, _, rfl, c, m, rfl, rfl, ⟨by omega, by omega⟩, .ref p, rfl, p, _, 0, 0, rfl, rfl, hp1, rfl, ?_⟩
      exact ⟨_, rfl, fin c _ (b1.trans But.upd) ⟨c / m, k, j + 1, upd_same, Int.ediv_nonneg c0 (by omega), k0, k1, by omega, by omega⟩⟩
    · have cs : c < 10 ^ 18 := by
        have : ¬ (10 ^ (18 : Int).toNat : Int) ≤ c := fun z => e (decide_eq_true z)
        have e18 : ((10 : Int) ^ (18 : Int).toNat) = 10 ^ 18 := rfl
        rw [e18] at this
        omega
      have h1 : 0 ≤ c % 2147483629 := Int.emod_nonneg _ (by decide)
      have h2 : c % 2147483629 < 2147483629 := Int.emod_lt_of_pos _ (by decide)
      have h3 : 0 ≤ c / 2147483629 := Int.ediv_nonneg c0 (by decide)
      have h4 : c / 2147483629 < 10 ^ 18 := by
        have := Int.ediv_le_self 2147483629 c0
        omega
      refine ⟨.ref p, rfl, p, _, 0, .int c, rfl, rfl, S, atI_nat (j := 0) rfl, c, _, rfl, rfl, by show (0 : Int) < 2147483629; decide, _, 1, rfl, rfl, ?_⟩
      refine ⟨.ref p, rfl, p, _, 0, .int c, rfl, rfl, S, atI_nat (j := 0) rfl, c, _, rfl, rfl, fdiv_big c, ?_⟩
      refine ⟨_, rfl, .ref p, rfl, p, _, 2, .int (j + 1), rfl, rfl, S, atI_nat (j := 2) rfl, 16807, j + 1, rfl, rfl, .inl ⟨by decide, by decide⟩, 48271, _, rfl, rfl, _, _, rfl, rfl, .inl ⟨by omega, by omega⟩, ?_⟩
      refine ⟨_, rfl, _, rfl, .ref p, rfl, p, _, 2, .int (j + 1), rfl, rfl, S, atI_nat (j := 2) rfl, 40692, j + 1, rfl, rfl, .inl ⟨by decide, by decide⟩, 69621, _, rfl, rfl, _, _, rfl, rfl, .inl ⟨by omega, by omega⟩, _, _, rfl, rfl, ?_⟩
      refine ⟨_, rfl, .ref p, rfl, p, _, 1, .int k, rfl, rfl, S, atI_nat (j := 1) rfl, 1299721, k, rfl, rfl, .inl ⟨by decide, by decide⟩, _, _, rfl, rfl, .ref p, rfl, p, _, 2, .int (j + 1), rfl, rfl, S, atI_nat (j := 2) rfl, j + 1, 3, rfl, rfl, ⟨by decide, by decide, by omega⟩, _, _, rfl, rfl, _, 2147483647, rfl, rfl, by show (0 : Int) < 2147483647; decide, ?_⟩
      refine ⟨_, rfl, _, rfl, _, _, rfl, rfl, .inl ⟨Int.lt_of_lt_of_le (by decide) (Int.emod_nonneg _ (by decide)), Int.lt_trans (Int.emod_lt_of_pos _ (by decide)) (by decide)⟩, _, 2147483629, rfl, rfl, by show (0 : Int) < 2147483629; decide, _, 64, rfl, rfl, ⟨by decide, by decide⟩, _, rfl, _, m, rfl, rfl, by show (0 : Int) < m; omega, ?_⟩
      exact fin _ _ b1 ⟨c, k, j + 1, hp1, c0, k0, k1, by omega, by omega⟩
end
end LK
set_option autoImplicit false
set_option linter.all false
set_option maxRecDepth 100000
set_option synthInstance.maxSize 1000
set_option Elab.async false
namespace LK
open PySem PySem.Spec L2
/-! ### namings -/
abbrev NatsV (l : List Nat) : List V := l.map fun (i : Nat) => V.int (i : Int)
def it (l : List Nat) : Nat → Nat → Nat
  | 0, a => a
  | k + 1, a => l.getD (it l k a) 0
section
variable {l : List Nat} {n : Nat}
theorem nm_lt (h : l.Perm (List.range n)) {x : Nat} (hx : x < n) : l.getD x 0 < n ∧ l[x]? = some (l.getD x 0) := by
  have ll : l.length = n := by rw [h.length_eq, List.length_range]
  have hx' : x < l.length := by omega
  have e : l[x]? = some (l.getD x 0) := by
    rw [List.getD_eq_getElem?_getD, List.getElem?_eq_getElem hx']
    rfl
  exact ⟨List.mem_range.mp (h.mem_iff.mp (List.mem_of_getElem? e)), e⟩
theorem nm_inj (h : l.Perm (List.range n)) {x y : Nat} (hx : x < n) (hy : y < n) (e : l.getD x 0 = l.getD y 0) : x = y := by
  have nd : l.Nodup := h.nodup_iff.mpr List.nodup_range
  have ex := (nm_lt h hx).2
  have ey := (nm_lt h hy).2
  rw [← e] at ey
  obtain ⟨h1, e1⟩ := List.getElem?_eq_some_iff.mp ex
  obtain ⟨h2, e2⟩ := List.getElem?_eq_some_iff.mp ey
  rcases Nat.lt_trichotomy x y with c | c | c
  · exact absurd (e1.trans e2.symm) ((List.pairwise_iff_getElem.mp nd) x y h1 h2 c)
  · exact c
  · exact absurd (e2.trans e1.symm) ((List.pairwise_iff_getElem.mp nd) y x h2 h1 c)
theorem it_lt (h : l.Perm (List.range n)) {a : Nat} (ha : a < n) : ∀ k, it l k a < n
  | 0 => ha
  | k + 1 => (nm_lt h (it_lt h ha k)).1
theorem it_add (l : List Nat) (a : Nat) : ∀ j k, it l (j + k) a = it l j (it l k a)
  | 0, k => by rw [Nat.zero_add]; rfl
  | j + 1, k => by
    have e : j + 1 + k = (j + k) + 1 := by omega
    rw [e]
    show l.getD (it l (j + k) a) 0 = l.getD (it l j (it l k a)) 0
    rw [it_add l a j k]
theorem it_back (h : l.Perm (List.range n)) {a : Nat} (ha : a < n) : ∀ i d, it l i a = it l (i + d) a → it l d a = a
  | 0, d, e => by
    rw [Nat.zero_add] at e
    exact e.symm
  | i + 1, d, e => by
    have e' : l.getD (it l i a) 0 = l.getD (it l (i + d) a) 0 := by
      have : i + 1 + d = (i + d) + 1 := by omega
      rw [this] at e
      exact e
    exact it_back h ha i d (nm_inj h (it_lt h ha _) (it_lt h ha _) e')
theorem orbit (h : l.Perm (List.range n)) {a : Nat} (ha : a < n) : ∃ t, 1 ≤ t ∧ t ≤ n ∧ it l t a = a := by
  have nn : ¬ ((List.range (n + 1)).map fun k => it l k a).Nodup := fun nd => by
    have := nat_nodup_len _ (List.range n) nd fun x hx => by
      obtain ⟨k, _, rfl⟩ := List.mem_map.mp hx
      exact List.mem_range.mpr (it_lt h ha k)
    rw [List.length_map, List.length_range, List.length_range] at this
    omega
  have : ∃ i d, 1 ≤ d ∧ i + d ≤ n ∧ it l i a = it l (i + d) a := by
    refine Classical.byContradiction fun c => nn ?_
    refine List.pairwise_iff_getElem.mpr fun i j h1 h2 hij e => c ⟨i, j - i, by omega, ?_, ?_⟩
    · rw [List.length_map, List.length_range] at h2
      omega
    · rw [List.getElem_map, List.getElem_map, List.getElem_range, List.getElem_range] at e
      rw [show i + (j - i) = j by omega]
      exact e
  obtain ⟨i, d, h1, h2, e⟩ := this
  exact ⟨d, h1, by omega, it_back h ha i d e⟩
theorem it_mul {a t : Nat} (e : it l t a = a) : ∀ m, it l (m * t) a = a
  | 0 => by rw [Nat.zero_mul]; rfl
  | m + 1 => by
    rw [Nat.succ_mul, it_add, e, it_mul e m]
end
theorem er_map {α β : Type} (f : α → β) : ∀ (l : List α) (d : Nat), (l.map f).eraseIdx d = (l.eraseIdx d).map f
  | [], d => by simp
  | x :: l, 0 => rfl
  | x :: l, d + 1 => by
    simp only [List.map_cons, List.eraseIdx_cons_succ]
    rw [er_map f l d]
theorem er_perm : ∀ (l : List Nat) (d : Nat) (h : d < l.length), (l[d] :: l.eraseIdx d).Perm l
  | x :: l, 0, _ => .refl _
  | x :: l, d + 1, h => by
    have h' : d < l.length := Nat.lt_of_succ_lt_succ h
    exact (List.Perm.swap x l[d] _).trans ((er_perm l d h').cons x)
theorem nats_at {l : List Nat} {x v : Nat} (h : l[x]? = some v) : atI (NatsV l) (x : Int) = some (.int (v : Int)) := atI_nat (by rw [List.getElem?_map, h]; rfl)
/-- what stays but for these -/
def Fr (S : List Addr) (H H' : Hp) : Prop := ∀ b x, b ∉ S → H b = some x → H' b = some x
theorem Fr.refl {S : List Addr} {H : Hp} : Fr S H H := fun _ _ _ h => h
theorem Fr.trans {S : List Addr} {H H1 H2 : Hp} (a : Fr S H H1) (b : Fr S H1 H2) : Fr S H H2 := fun c x n h => b c x n (a c x n h)
theorem Fr.same {S : List Addr} {H H' : Hp} (s : Same H H') : Fr S H H' := fun b x _ h => s b x h
theorem Fr.but {S : List Addr} {D : Addr} {H H' : Hp} (m : D ∈ S) (s : But D H H') : Fr S H H' := fun b x n h => s b x (fun e => n (e ▸ m)) h
theorem Fr.sub {S S' : List Addr} {H H' : Hp} (m : ∀ x, x ∈ S → x ∈ S') (s : Fr S H H') : Fr S' H H' := fun b x n h => s b x (fun e => n (m b e)) h
theorem Fr.fresh {S : List Addr} {D : Addr} {H H1 H2 : Hp} (a : Fr S H H1) (n : H D = none) (s : But D H1 H2) : Fr S H H2 := fun b x nb h => s b x (fun e => by rw [e, n] at h; cases h) (a b x nb h)
theorem Fr.butS {D : Addr} {H H' : Hp} (f : Fr [D] H H') : But D H H' := fun b x n h => f b x (by simpa using n) h
theorem But.fr {D : Addr} {H H' : Hp} (f : But D H H') : Fr [D] H H' := fun b x n h => f b x (by simpa using n) h
section
variable {P : Program} {w : World} {K : PySem.W.Frag} {mg : Str → Option Value} {base : Heap} {C : Addr}
/-! #### _law_order -/
theorem scOrd : FnScope ["_law_deck_here", "_law_n", "_law_left", "_law_k"] ["_law_deck_here", "_law_n"] (defScope sLorder) := ⟨rfl, rfl, rfl, by decide +kernel, rfl, by decide +kernel, by decide +kernel⟩
def spOrd : Sp := fun vs H Q _ => ∃ (p : Addr) (b n : Nat), vs = [.ref p, .int n] ∧ Deck H p b ∧ b ≤ 900000 ∧ n ≤ 5 ∧ ∀ q l H', But p H H' → Deck H' p (b + n) → l.Perm (List.range n) → H q = none → H' q = some (.lst (NatsV l)) → Q (.ref q) H'
theorem rgV_nats (n : Nat) : rgV 0 (n : Int) = NatsV (List.range n) := by
  unfold rgV
  have e : ((n : Int) - 0).toNat = n := by omega
  rw [e]
  refine List.map_congr_left fun x _ => ?_
  simp
theorem ok_ord {f : Addr} {fd : FuncData} (T : Tx K mg C) (F : FN K "_law_order" sLorder f fd) (GT : Gf P w K mg base 1 "_law_take" ["_law_deck_here", "_law_many"] spTake) : FnOk P w K mg base CX0 2 f fd ["_law_deck_here", "_law_n"] spOrd := by
  refine FDok F scOrd (fun vs H Q E h => ?_) (fun cdv A outer s H vs Q E hr h => ?_)
  · obtain ⟨p, b, n, rfl, _⟩ := h
    rfl
  · obtain ⟨p, b, n, rfl, dk, b9, n5, q⟩ := h
    refine ⟨_, pss_cons (ps_set (i := 2) scOrd.nd rfl (.inr rfl) (pe_listRg rfl (by rfl) T.lst (prg_1 (by rfl) T.rng (pv 1))))
      (pss_one (ps_ret (pe_lc (own := [("_law_k", 3)]) (g := gName 3) (tt := tYes) (te := tBM K "list" rPopAt (tVar 2) (tCons (tCall spTake [] E0 (tCons (tVar 0) (tCons (tOp (rI0 fun i j => .int (i - j)) (tVar 1) (tVar 3)) tNil))) tNil)) rfl scOrd.nd (pi_range1 (by rfl) T.rng (pa_cons (pv 1) pa_nil)) (blkOk_by (by kernel_rfl))
        (fun _ _ _ _ _ => pg_name (i := 3) scOrd.nd rfl (.inl rfl)) (fun _ _ _ _ _ => pts_nil) (fun _ _ _ _ _ => pe_bm PySem.F.plainAttrs_list PySem.F.slot_list_pop PySem.F.type_list_pop mt_popAt (pv 2) (pa_cons (pe_f GT hr (by rfl) (pa_cons (pv 0) (pa_cons (pe_op op_sub (pv 1) (pv 3)) pa_nil))) pa_nil))))), ?_⟩
    refine ⟨_, rfl, n, rfl, ⟨by omega, by omega, by omega, by omega, by omega⟩, fun L nL => ?_⟩
    rw [rgV_nats]
    have s1 : Same H (upd H L (.lst (NatsV (List.range n)))) := same_new nL
    refine ⟨_, rfl, n, rfl, by omega, by omega, fun D nD => ?_⟩
    have pL : L ≠ p := dk.ne nL
    have hL1 : (upd H L (.lst (NatsV (List.range n)))) L = some (.lst (NatsV (List.range n))) := upd_same
    have nD0 : H D = none := by
      cases e : H D with
      | none => rfl
      | some y => rw [s1 _ _ e] at nD; cases nD
    have nLD : L ≠ D := ne_of_none hL1 nD
    have dk1 := dk.same s1
    have pD : D ≠ p := dk1.ne nD
    generalize upd H L (.lst (NatsV (List.range n))) = H1 at s1 nD hL1 dk1
    refine lc_it (walk_range (lo := 0) (n := ((n : Int)).toNat)) (fun i H2 => But p H H2 ∧ Deck H2 p (b + i) ∧ ∃ acc rest, H2 D = some (.lst (NatsV acc)) ∧ H2 L = some (.lst (NatsV rest)) ∧ acc.length = i ∧ (acc ++ rest).Perm (List.range n))
      ⟨But.same (s1.trans (same_new nD)), dk1.same (same_new nD), [], List.range n, upd_same, (by rw [upd_ne nLD]; exact hL1), rfl, .refl _⟩ (fun _ _ _ _ => trivial) ?_ ?_
    · rintro i x H2 H2' hi ⟨b2, dk2, acc, rest, hD, hL, la, pm⟩ ⟨rfl, rfl⟩
      have hn : ((n : Int)).toNat = n := by omega
      rw [hn] at hi
      have lar : acc.length + rest.length = n := by
        have := pm.length_eq
        rw [List.length_append, List.length_range] at this
        exact this
      refine ⟨rfl, tyes ⟨_, rfl, .inl ⟨rfl, _, SqL.of hL⟩, _, rfl, _, rfl, _, rfl, n, _, rfl, rfl, p, b + i, n - i, ?_, dk2, by omega, by omega, by omega, fun d H3 hd b3 dk3 => ?_⟩⟩
      · have e : (n : Int) - (0 + (i : Int)) = ((n - i : Nat) : Int) := by omega
        show [V.ref p, V.int ((n : Int) - (0 + (i : Int)))] = [V.ref p, V.int ((n - i : Nat) : Int)]
        rw [e]
      have hL3 := b3 _ _ pL hL
      have hD3 := b3 _ _ pD hD
      have dr : d < rest.length := by omega
      refine ⟨L, _, (d : Int), d, .int (rest[d] : Nat), rfl, rfl, hL3, by omega, by omega, ?_, ?_, ?_⟩
      · rw [List.length_map]
        exact (ixN_seq (ixN_nat dr)).1
      · rw [List.getElem?_map, List.getElem?_eq_getElem dr]
        rfl
      · have hD4 : (upd H3 L (.lst ((NatsV rest).eraseIdx d))) D = some (.lst (NatsV acc)) := by rw [upd_ne nLD.symm]; exact hD3
        have bb : ∀ y, But p H (upd (upd H3 L (.lst ((NatsV rest).eraseIdx d))) D y) := fun y b' z nb hb => by
          rw [upd_ne (ne_of_none hb nD0), upd_ne (ne_of_none hb nL)]
          exact b3 _ _ nb (b2 _ _ nb hb)
        refine ⟨_, hD4, ?_, bb _, ?_, acc ++ [rest[d]], rest.eraseIdx d, ?_, ?_, ?_, ?_⟩
        · rw [List.length_map, sizeLine_eq]
          omega
        · exact (dk3.but pL.symm But.upd).but pD.symm But.upd
        · rw [upd_same, NatsV, NatsV, List.map_append]
          rfl
        · rw [upd_ne nLD, upd_same]
          refine congrArg (fun z => some (HO.lst z)) ?_
          exact er_map _ _ _
        · rw [List.length_append, la]
          rfl
        · rw [List.append_assoc]
          refine List.Perm.trans ?_ pm
          refine List.Perm.append_left acc ?_
          exact er_perm rest d dr
    · rintro H2 ⟨b2, dk2, acc, rest, hD, hL, la, pm⟩
      have hn : ((n : Int)).toNat = n := by omega
      rw [hn] at dk2 la
      have lar := pm.length_eq
      rw [List.length_append, List.length_range] at lar
      have er : rest = [] := List.length_eq_zero_iff.mp (by omega)
      rw [er, List.append_nil] at pm
      exact q D acc H2 b2 dk2 pm nD0 hD
/-! #### _law_ring -/
theorem scRing : FnScope ["_law_naming", "_law_a", "_law_found"] ["_law_naming", "_law_a"] (defScope sLring) := ⟨rfl, rfl, rfl, by decide +kernel, rfl, by decide +kernel, by decide +kernel⟩
def spRing : Sp := fun vs H Q _ => ∃ (m : Addr) (l : List Nat) (n a : Nat), vs = [.ref m, .int a] ∧ H m = some (.lst (NatsV l)) ∧ l.Perm (List.range n) ∧ n ≤ 5 ∧ a < n ∧ ∀ p fs H', Same H H' → H' p = some (.lst (NatsV fs)) → fs ≠ [] → Q (.ref p) H'
theorem ok_ring {f : Addr} {fd : FuncData} (F : FN K "_law_ring" sLring f fd) : FnOk P w K mg base CX0 1 f fd ["_law_naming", "_law_a"] spRing := by
  refine FDok F scRing (fun vs H Q E h => ?_) (fun cdv A outer s H vs Q E hr h => ?_)
  · obtain ⟨m, l, n, a, rfl, _⟩ := h
    rfl
  · obtain ⟨m, l, n, a, rfl, hm, pm, n5, ha, q⟩ := h
    obtain ⟨t, t1, tn, et⟩ := orbit pm ha
    refine ⟨_, pss_cons (ps_set (i := 2) scRing.nd rfl (.inl rfl) (pe_lst (pa_cons (pv 1) pa_nil)))
      (pss_cons (ps_while PassesOwn.never (pt_cmpR op_ne (pe_ix ix_list (pv 0) (pe_ix ix_list (pv 2) (pe_un un_neg pe_int) (fun _ _ => rfl)) (fun _ _ => rfl)) (pv 1) (nomark _))
        (pss_one (ps_expr (pe_bm PySem.F.plainAttrs_list PySem.F.slot_list_append PySem.F.type_list_append mt_append (pv 2) (pa_cons (pe_ix ix_list (pv 0) (pe_ix ix_list (pv 2) (pe_un un_neg pe_int) (fun _ _ => rfl)) (fun _ _ => rfl)) pa_nil)))))
      (pss_one (ps_ret (pv 2)))), ?_⟩
    refine ⟨_, rfl, by show 1 ≤ sizeLine; decide, fun o no => ?_⟩
    refine ⟨fun k σ H1 => ∃ j fs, σ = [some (.ref m), some (.int a), some (.ref o)] ∧ Same H H1 ∧ H1 o = some (.lst (NatsV (fs ++ [it l j a]))) ∧ fs.length = j ∧ j < t ∧ k = t - j, ⟨t, 0, [], rfl, same_new no, upd_same, rfl, by omega, rfl⟩, ?_⟩
    rintro k σ H1 ⟨j, fs, rfl, s1, ho, lf, jt, rfl⟩
    have ev : NatsV (fs ++ [it l j a]) = NatsV fs ++ [.int (it l j a : Nat)] := by
      unfold NatsV
      rw [List.map_append]
      rfl
    have look := nats_at (nm_lt pm (it_lt pm ha j)).2
    have hm1 := s1 _ _ hm
    have ho' := ho
    rw [ev] at ho'
    refine ⟨.ref m, rfl, .ref o, rfl, 1, rfl, o, _, -1, _, rfl, rfl, SqL.of ho', atI_last _ _, m, _, _, _, rfl, rfl, SqL.of hm1, look, _, rfl, rfl, _, rfl, ite2 (fun e => ?_) fun e => ?_⟩
    · have ne : it l (j + 1) a ≠ a := fun z => by
        have : ¬ (V.int ((l.getD (it l j a) 0 : Nat) : Int) = V.int (a : Int)) := by
          intro w
          rw [decide_eq_true w] at e
          cases e
        exact this (by rw [show l.getD (it l j a) 0 = a from z])
      have jt2 : j + 1 < t := by
        rcases Nat.lt_or_ge (j + 1) t with c | c
        · exact c
        · have : j + 1 = t := by omega
          rw [this, et] at ne
          exact absurd rfl ne
      refine ⟨fun σ' H' => ∃ fs', σ' = [some (.ref m), some (.int a), some (.ref o)] ∧ Same H H' ∧ H' o = some (.lst (NatsV (fs' ++ [it l (j + 1) a]))) ∧ fs'.length = j + 1, fun σ' H' h => ?_, ?_⟩
      · obtain ⟨fs', h1, h2, h3, h4⟩ := h
        exact ⟨t - (j + 1), by omega, j + 1, fs', h1, h2, h3, h4, jt2, rfl⟩
      · refine ⟨.ref o, rfl, .inl ⟨rfl, _, SqL.of ho⟩, .ref m, rfl, .ref o, rfl, 1, rfl, o, _, -1, _, rfl, rfl, SqL.of ho', atI_last _ _, m, _, _, _, rfl, rfl, SqL.of hm1, look, o, _, _, rfl, rfl, ho, ?_, fs ++ [it l j a], rfl, same_at s1 no, ?_, ?_⟩
        · rw [List.length_map, List.length_append, sizeLine_eq]
          simp only [List.length_cons, List.length_nil]
          omega
        · rw [upd_same]
          refine congrArg (fun z => some (HO.lst z)) ?_
          unfold NatsV
          simp only [List.map_append, List.map_cons, List.map_nil]
          rfl
        · rw [List.length_append, lf]
          rfl
    · exact ⟨_, rfl, q o _ H1 s1 ho (by simp)⟩
end
end LK
set_option autoImplicit false
set_option linter.all false
set_option maxRecDepth 100000
set_option synthInstance.maxSize 1000
set_option Elab.async false
namespace LK
open PySem PySem.Spec L2
/-! ### marks, row by row -/
abbrev IntsV (l : List Int) : List V := l.map V.int
structure MarksAt (H : Hp) (mk : Addr) (rs : List Addr) (n : Nat) (M : Nat → Nat → Int) : Prop where
  top : H mk = some (.lst (rs.map V.ref))
  len : rs.length = n
  row : ∀ i r, rs[i]? = some r → H r = some (.lst ((List.range n).map fun j => V.int (M i j)))
def OkM (n : Nat) (M : Nat → Nat → Int) : Prop := ∀ i j, i < n → j < n → 0 ≤ M i j ∧ M i j ≤ 1000000000 ∧ (i = j → M i j = 0)
def putM (M : Nat → Nat → Int) (x y : Nat) (v : Int) : Nat → Nat → Int := fun i j => if i = x ∧ j = y then v else M i j
theorem OkM.put {n : Nat} {M : Nat → Nat → Int} (h : OkM n M) {x y : Nat} (ne : x ≠ y) {v : Int} (v0 : 0 ≤ v) (v1 : v ≤ 1000000000) : OkM n (putM M x y v) := fun i j hi hj => by
  unfold putM
  by_cases e : i = x ∧ j = y
  · rw [if_pos e]
    exact ⟨v0, v1, fun z => absurd (e.1.symm.trans (z.trans e.2)) ne⟩
  · rw [if_neg e]
    exact h i j hi hj
theorem MarksAt.fr {H H' : Hp} {mk : Addr} {rs : List Addr} {n : Nat} {M : Nat → Nat → Int} (m : MarksAt H mk rs n M) (k : ∀ b, b ∈ mk :: rs → ∀ x, H b = some x → H' b = some x) : MarksAt H' mk rs n M :=
  ⟨k _ List.mem_cons_self _ m.top, m.len, fun i r hr => k _ (List.mem_cons_of_mem _ (List.mem_of_getElem? hr)) _ (m.row i r hr)⟩
theorem MarksAt.put {H : Hp} {mk : Addr} {rs : List Addr} {n : Nat} {M : Nat → Nat → Int} (m : MarksAt H mk rs n M) (nd : (mk :: rs).Nodup) {x y : Nat} {r : Addr} (hr : rs[x]? = some r) (hy : y < n) (v : Int) :
    MarksAt (upd H r (.lst (((List.range n).map fun j => V.int (M x j)).set y (.int v)))) mk rs n (putM M x y v) := by
  have nmk : mk ≠ r := fun e => (List.nodup_cons.mp nd).1 (e ▸ List.mem_of_getElem? hr)
  have ndr := (List.nodup_cons.mp nd).2
  refine ⟨by rw [upd_ne nmk]; exact m.top, m.len, fun i q hq => ?_⟩
  by_cases e : i = x
  · subst e
    rw [hr] at hq
    cases hq
    rw [upd_same]
    refine congrArg (fun z => some (HO.lst z)) ?_
    refine List.ext_getElem (by simp) fun j h1 h2 => ?_
    rw [List.getElem_set]
    simp only [List.getElem_map, List.getElem_range]
    unfold putM
    by_cases e : y = j
    · rw [if_pos e, if_pos ⟨rfl, e.symm⟩]
    · rw [if_neg e, if_neg fun z => e z.2.symm]
  · have nq : q ≠ r := fun z => by
      subst z
      obtain ⟨h1, e1⟩ := List.getElem?_eq_some_iff.mp hq
      obtain ⟨h2, e2⟩ := List.getElem?_eq_some_iff.mp hr
      rcases Nat.lt_trichotomy i x with c | c | c
      · exact (List.pairwise_iff_getElem.mp ndr) i x h1 h2 c (e1.trans e2.symm)
      · exact e c
      · exact (List.pairwise_iff_getElem.mp ndr) x i h2 h1 c (e2.trans e1.symm)
    rw [upd_ne nq, m.row i q hq]
    refine congrArg (fun z => some (HO.lst z)) ?_
    refine List.map_congr_left fun j _ => ?_
    unfold putM
    rw [if_neg fun z => e z.1]
structure GivenAt (H : Hp) (gv : Addr) (gs : List Addr) (n : Nat) : Prop where
  top : H gv = some (.lst (gs.map V.ref))
  len : gs.length = n
  row : ∀ (i : Nat) (g : Addr), gs[i]? = some g → ∃ row : List Bool, H g = some (.lst (row.map V.bl)) ∧ row.length = n ∧ row[i]? = some true
theorem GivenAt.fr {H H' : Hp} {gv : Addr} {gs : List Addr} {n : Nat} (m : GivenAt H gv gs n) (k : ∀ b, b ∈ gv :: gs → ∀ x, H b = some x → H' b = some x) : GivenAt H' gv gs n :=
  ⟨k _ List.mem_cons_self _ m.top, m.len, fun i g hg => by
    obtain ⟨row, h1, h2⟩ := m.row i g hg
    exact ⟨row, k _ (List.mem_cons_of_mem _ (List.mem_of_getElem? hg)) _ h1, h2⟩⟩
theorem GivenAt.put {H : Hp} {gv : Addr} {gs : List Addr} {n : Nat} (m : GivenAt H gv gs n) (nm : gv ∉ gs) {x : Nat} {g : Addr} (hg : gs[x]? = some g) {row : List Bool} (hr : H g = some (.lst (row.map V.bl))) (y : Nat) :
    GivenAt (upd H g (.lst ((row.map V.bl).set y (.bl true)))) gv gs n := by
  have ng : gv ≠ g := fun e => nm (e ▸ List.mem_of_getElem? hg)
  refine ⟨by rw [upd_ne ng]; exact m.top, m.len, fun i q hq => ?_⟩
  obtain ⟨row', h1, h2, h3⟩ := m.row i q hq
  by_cases e : q = g
  · subst e
    rw [hr] at h1
    have er : row = row' := by
      have e1 : row.map V.bl = row'.map V.bl := by injection h1 with h1; injection h1
      exact List.map_inj_right (fun a b h => by injection h) |>.mp e1
    subst er
    refine ⟨row.set y true, by rw [upd_same, List.map_set], by rw [List.length_set]; exact h2, ?_⟩
    rw [List.getElem?_set]
    split
    · rename_i z
      have : y < row.length := by rw [z]; exact (List.getElem?_eq_some_iff.mp h3).1
      rw [if_pos this]
    · exact h3
  · exact ⟨row', by rw [upd_ne e]; exact h1, h2, h3⟩
theorem range_at {n j : Nat} (h : j < n) (f : Nat → V) : atI ((List.range n).map f) (j : Int) = some (f j) := atI_nat (by
  rw [List.getElem?_map, List.getElem?_range h]
  rfl)
theorem refs_at {rs : List Addr} {i : Nat} {r : Addr} (h : rs[i]? = some r) : atI (rs.map V.ref) (i : Int) = some (.ref r) := atI_nat (by rw [List.getElem?_map, h]; rfl)
end LK
set_option autoImplicit false
set_option linter.all false
set_option maxRecDepth 100000
set_option synthInstance.maxSize 1000
set_option Elab.async false
namespace LK
open PySem PySem.Spec L2
section
variable {P : Program} {w : World} {K : PySem.W.Frag} {mg : Str → Option Value} {base : Heap} {C : Addr}
theorem rg0 {x : V} {i : Nat} (h : x = (fun i : Nat => V.int (0 + (i : Int))) i) : x = .int (i : Int) := by
  rw [h]
  show V.int (0 + (i : Int)) = _
  rw [Int.zero_add]
/-! #### _law_kept -/
theorem scKept : FnScope ["_law_deck_here", "_law_naming", "_law_menu", "_law_colours", "_law_marks", "_law_n", "_law_given", "_law_a", "_law_b", "_law_mark", "_law_x", "_law_y"] ["_law_deck_here", "_law_naming", "_law_menu", "_law_colours", "_law_marks"] (defScope sLkept) := ⟨rfl, rfl, rfl, by decide +kernel, rfl, by decide +kernel, by decide +kernel⟩
/-- colours as they may be -/
def ColsAt (H : Hp) (cl : Addr) (n : Nat) (Pc : Int → Prop) : Prop := ∃ cs : List Int, H cl = some (.lst (IntsV cs)) ∧ cs.length = n ∧ ∀ c, c ∈ cs → Pc c
theorem ColsAt.set {H : Hp} {cl : Addr} {n : Nat} {Pc : Int → Prop} {cs : List Int} (l : cs.length = n) (h : ∀ c, c ∈ cs → Pc c) {c : Int} (hc : Pc c) (y : Nat) : ColsAt (upd H cl (.lst ((IntsV cs).set y (.int c)))) cl n Pc :=
  ⟨cs.set y c, by rw [upd_same]; unfold IntsV; rw [List.map_set], by rw [List.length_set]; exact l, fun d hd => by
    rcases List.mem_or_eq_of_mem_set hd with z | z
    · exact h d z
    · rw [z]; exact hc⟩
def spKept : Sp := fun vs H Q _ => ∃ (p nm mn cl mk : Addr) (b n : Nat) (l : List Nat) (menu : List Int) (Pc : Int → Prop) (rs : List Addr) (M : Nat → Nat → Int), vs = [.ref p, .ref nm, .ref mn, .ref cl, .ref mk] ∧ Deck H p b ∧ b ≤ 900000 ∧ n ≤ 5 ∧
  H nm = some (.lst (NatsV l)) ∧ l.Perm (List.range n) ∧ H mn = some (.lst (IntsV menu)) ∧ menu ≠ [] ∧ menu.length ≤ 4 ∧ (∀ v, v ∈ menu → 0 ≤ v ∧ v ≤ 1000000000) ∧ ColsAt H cl n Pc ∧ MarksAt H mk rs n M ∧ OkM n M ∧ (p :: nm :: mn :: cl :: mk :: rs).Nodup ∧
  ∀ v M' H', Fr (p :: cl :: rs) H H' → Deck H' p (b + 25) → ColsAt H' cl n Pc → MarksAt H' mk rs n M' → OkM n M' → Q v H'
theorem ok_kept {f : Addr} {fd : FuncData} (T : Tx K mg C) (F : FN K "_law_kept" sLkept f fd) (GT : Gf P w K mg base 1 "_law_take" ["_law_deck_here", "_law_many"] spTake) (GR : Gf P w K mg base 1 "_law_ring" ["_law_naming", "_law_a"] spRing) :
    FnOk P w K mg base CX0 2 f fd ["_law_deck_here", "_law_naming", "_law_menu", "_law_colours", "_law_marks"] spKept := by
  refine FDok F scKept (fun vs H Q E h => ?_) (fun cdv A outer s H vs Q E hr h => ?_)
  · obtain ⟨p, nm, mn, cl, mk, b, n, l, menu, Pc, rs, M, rfl, _⟩ := h
    rfl
  · obtain ⟨p, nm, mn, cl, mk, b, n, l, menu, Pc, rs, M, rfl, dk, b9, n5, hnm, pm, hmn, mne, m4, mok, hcl, hmk, okm, nd, q⟩ := h
    have ll : l.length = n := by rw [pm.length_eq, List.length_range]
    have S0 : ∀ x, x ∈ (p :: nm :: mn :: cl :: mk :: rs) → ∃ y, H x = some (.lst y) := fun x hx => by
      rcases List.mem_cons.mp hx with rfl | hx
      · exact dk.lst
      rcases List.mem_cons.mp hx with rfl | hx
      · exact ⟨_, hnm⟩
      rcases List.mem_cons.mp hx with rfl | hx
      · exact ⟨_, hmn⟩
      rcases List.mem_cons.mp hx with rfl | hx
      · obtain ⟨cs, h1, _⟩ := hcl
        exact ⟨_, h1⟩
      rcases List.mem_cons.mp hx with rfl | hx
      · exact ⟨_, hmk.top⟩
      · obtain ⟨i, hi, e⟩ := List.getElem_of_mem hx
        exact ⟨_, hmk.row i x (by rw [List.getElem?_eq_getElem hi, e])⟩
    obtain ⟨nd1, nd2⟩ := List.nodup_cons.mp nd
    obtain ⟨nd3, nd4⟩ := List.nodup_cons.mp nd2
    obtain ⟨nd5, nd6⟩ := List.nodup_cons.mp nd4
    obtain ⟨nd7, nd8⟩ := List.nodup_cons.mp nd6
    refine ⟨_, pss_cons (ps_set (i := 5) scKept.nd rfl (.inr rfl) (pe_callB call_len_seq (by rfl) T.len PySem.boot_len (pa_cons (pv 1) pa_nil)))
      (pss_cons (ps_setLc (i := 6) (own := [("_law_a", 7)]) (g := gName 7) (tt := tYes) (te := tLc (iRng1 (tCons (tVar 5) tNil)) (gName 8) tYes (tOp rEq (tVar 7) (tVar 8)) [8]) rfl scKept.nd rfl rfl (sw_true rfl rfl rfl (by kernel_rfl)) (pi_range1 (by rfl) T.rng (pa_cons (pv 5) pa_nil)) (blkOk_by (by kernel_rfl))
          (fun _ _ _ _ _ => pg_name (i := 7) scKept.nd rfl (.inr rfl)) (fun _ _ _ _ _ => pts_nil) (fun _ _ _ _ _ => pe_lc (own := [("_law_b", 8)]) (g := gName 8) (tt := tYes) (te := tOp rEq (tVar 7) (tVar 8)) rfl scKept.nd (pi_range1 (by rfl) T.rng (pa_cons (pv 5) pa_nil)) (blkOk_by (by kernel_rfl))
            (fun _ _ _ _ _ => pg_name (i := 8) scKept.nd rfl (.inl rfl)) (fun _ _ _ _ _ => pts_nil) (fun _ _ _ _ _ => pe_cmpR op_eq (pv 7) (pv 8) (nomark _))))
      (pss_cons (ps_for PassesOwn.never rfl (pi_range1 (by rfl) T.rng (pa_cons (pv 5) pa_nil)) (pg_name (i := 7) scKept.nd rfl (.inl rfl))
        (pss_cons (ps_set (i := 8) scKept.nd rfl (.inl rfl) (pe_ix ix_list (pv 1) (pv 7) (fun _ _ => rfl)))
        (pss_one (ps_while PassesOwn.never (pt_cmpR op_ne (pv 8) (pv 7) (nomark _))
          (pss_cons (ps_asg (pe_ix ix_list (pv 3) (pv 7) (fun _ _ => rfl)) (pg_sub (pv 3) (pv 8) set_list))
          (pss_one (ps_set (i := 8) scKept.nd rfl (.inl rfl) (pe_ix ix_list (pv 1) (pv 8) (fun _ _ => rfl)))))))))
      (pss_cons (ps_for PassesOwn.never rfl (pi_range1 (by rfl) T.rng (pa_cons (pv 5) pa_nil)) (pg_name (i := 7) scKept.nd rfl (.inl rfl))
        (pss_one (ps_for PassesOwn.never rfl (pi_range1 (by rfl) T.rng (pa_cons (pv 5) pa_nil)) (pg_name (i := 8) scKept.nd rfl (.inl rfl))
          (pss_cons (ps_set (i := 9) scKept.nd rfl (.inl rfl) (pe_ix ix_list (pv 2) (pe_f GT hr (by rfl) (pa_cons (pv 0) (pa_cons (pe_callB call_len_seq (by rfl) T.len PySem.boot_len (pa_cons (pv 2) pa_nil)) pa_nil))) (fun _ _ => rfl)))
          (pss_cons (ps_set (i := 10) scKept.nd rfl (.inl rfl) (pv 7))
          (pss_cons (ps_set (i := 11) scKept.nd rfl (.inl rfl) (pv 8))
          (pss_one (ps_while PassesOwn.never (pt_not (pt_val (pe_ix ix_list (pe_ix ix_list (pv 6) (pv 10) (fun _ _ => rfl)) (pv 11) (fun _ _ => rfl))))
            (pss_cons (ps_asg pe_bl (pg_sub (pe_ix ix_list (pv 6) (pv 10) (fun _ _ => rfl)) (pv 11) set_list))
            (pss_cons (ps_asg (pv 9) (pg_sub (pe_ix ix_list (pv 4) (pv 10) (fun _ _ => rfl)) (pv 11) set_list))
            (pss_cons (ps_set (i := 10) scKept.nd rfl (.inl rfl) (pe_ix ix_list (pv 1) (pv 10) (fun _ _ => rfl)))
            (pss_one (ps_set (i := 11) scKept.nd rfl (.inl rfl) (pe_ix ix_list (pv 1) (pv 11) (fun _ _ => rfl)))))))))))))))
      (pss_one (ps_ret (pe_lc (own := [("_law_a", 7)]) (g := gName 7) (tt := tYes) (te := tCB (rMinD K Enc.nat) (tCons (tCall spRing [] E0 (tCons (tVar 1) (tCons (tVar 7) tNil))) tNil)) rfl scKept.nd (pi_range1 (by rfl) T.rng (pa_cons (pv 5) pa_nil)) (blkOk_by (by kernel_rfl))
          (fun _ _ _ _ _ => pg_name (i := 7) scKept.nd rfl (.inl rfl)) (fun _ _ _ _ _ => pts_nil) (fun _ _ _ _ _ => pe_callB (cr_minD Enc.nat rfl hr.units) (by rfl) T.mn PyProof.Rows.boot_min (pa_cons (pe_f GR hr (by rfl) (pa_cons (pv 1) (pa_cons (pv 7) pa_nil))) pa_nil)))))))), ?_⟩
    have tn : ((n : Int)).toNat = n := by omega
    refine ⟨_, rfl, nm, _, rfl, .inl (SqL.of hnm), ?_⟩
    rw [show ((NatsV l).length : Int) = (n : Int) by rw [List.length_map, ll]]
    -- given
    refine ⟨_, rfl, n, rfl, by omega, by omega, fun gv ngv => ?_⟩
    refine lcP (walk_range (lo := 0) (n := ((n : Int)).toNat)) (src := List.range n) (by rw [List.length_range, tn]) (sel := fun _ => true) (val := fun i => i)
      (Rel := fun H' v i => ∃ (r : Addr) (row : List Bool), v = .ref r ∧ r ≠ gv ∧ H r = none ∧ H' r = some (.lst (row.map V.bl)) ∧ row.length = n ∧ row[i]? = some true) ngv (fun H1 H2 v i _ bt ⟨r, row, e1, e2, e3, e4, e5⟩ => ⟨r, row, e1, e2, e3, bt _ _ e2 e4, e5⟩)
      (fun _ _ => trivial) (fun i H1 x H1' y => by obtain ⟨rfl, _⟩ := y; exact same_refl) (by omega) ?_ ?_
    · rintro i i' x H1 H1' N Kv hi' s1 ⟨rfl, rfl⟩ s1' gne _ hK
      obtain ⟨hin, ei⟩ := List.getElem?_eq_some_iff.mp hi'
      rw [List.getElem_range] at ei
      subst ei
      rw [List.length_range] at hin
      refine ⟨rfl, tyes ⟨_, rfl, n, rfl, by omega, by omega, fun D2 nD2 => ?_⟩⟩
      refine lcP (walk_range (lo := 0) (n := ((n : Int)).toNat)) (src := List.range n) (by rw [List.length_range, tn]) (sel := fun _ => true) (val := fun j => decide (i = j)) (Rel := fun H' v c => v = .bl c) nD2 (fun _ _ _ _ _ _ t => t) (fun _ _ => trivial)
        (fun i H1 x H1' y => by obtain ⟨rfl, _⟩ := y; exact same_refl) (by omega) ?_ ?_
      · rintro j j' x H2 H2' N2 Kv2 hj' s2 ⟨rfl, rfl⟩ s2' _ _ hK2
        obtain ⟨hjn, ej⟩ := List.getElem?_eq_some_iff.mp hj'
        rw [List.getElem_range] at ej
        subst ej
        refine ⟨rfl, tyes ⟨_, rfl, _, rfl, rfl, hK2 _ _ rfl same_refl ?_⟩⟩
        refine congrArg V.bl (decide_eq_decide.mpr ⟨fun e => ?_, fun e => by rw [e]⟩)
        injection e with e
        omega
      · intro H2 zs s2 hD2 hz
        rw [List.filter_eq_self.mpr (fun _ _ => rfl)] at hz
        have ez : zs = ((List.range n).map fun j => decide (i = j)).map V.bl := by
          have : ∀ (l : List Bool) (zs : List V), LW.All2 (fun v b => v = V.bl b) zs l → zs = l.map V.bl := fun l zs h => by
            induction h with
            | nil => rfl
            | cons e _ ih => rw [e, ih]; rfl
          exact this _ _ hz
        rw [ez] at hD2
        have nD20 : H D2 = none := by
          cases e : H D2 with
          | none => rfl
          | some y => rw [s1 _ _ e] at nD2; cases nD2
        refine hK _ _ rfl s2 ⟨D2, _, rfl, fun e => ?_, nD20, hD2, by rw [List.length_map, List.length_range], ?_⟩
        · rw [e] at nD2
          exact gne nD2
        · rw [List.getElem?_map, List.getElem?_range hin]
          exact congrArg some (decide_eq_true rfl)
    · intro H1 zs s1 hgv hz
      rw [List.filter_eq_self.mpr (fun _ _ => rfl), List.map_id'] at hz
      -- the rows of given
      have gsx : ∃ gs : List Addr, zs = gs.map V.ref ∧ (∀ g, g ∈ gs → g ≠ gv ∧ H g = none) ∧ gs.length = n ∧ ∀ (i : Nat) g, gs[i]? = some g → ∃ row : List Bool, H1 g = some (.lst (row.map V.bl)) ∧ row.length = n ∧ row[i]? = some true := by
        have key : ∀ (k : Nat) (src : List Nat) (zs : List V), (∀ i j, src[i]? = some j → j = k + i) → LW.All2 (fun v i => ∃ (r : Addr) (row : List Bool), v = V.ref r ∧ r ≠ gv ∧ H r = none ∧ H1 r = some (.lst (row.map V.bl)) ∧ row.length = n ∧ row[i]? = some true) zs src →
            ∃ gs : List Addr, zs = gs.map V.ref ∧ (∀ g, g ∈ gs → g ≠ gv ∧ H g = none) ∧ gs.length = src.length ∧ ∀ (i : Nat) g, gs[i]? = some g → ∃ row : List Bool, H1 g = some (.lst (row.map V.bl)) ∧ row.length = n ∧ row[k + i]? = some true := by
          intro k src zs hs h
          induction h generalizing k with
          | nil => exact ⟨[], rfl, fun g hg => (by cases hg), rfl, fun i g hg => (by simp at hg)⟩
          | @cons v i vs is h0 _ ih =>
            obtain ⟨r, row, rfl, e2, e3, e4, e5, e6⟩ := h0
            have ik : i = k := by have := hs 0 i rfl; omega
            obtain ⟨gs, g1, g2, g3, g4⟩ := ih (k + 1) fun i j hj => by have := hs (i + 1) j hj; omega
            refine ⟨r :: gs, by rw [g1]; rfl, fun g hg => ?_, by rw [List.length_cons, List.length_cons, g3], fun j g hg => ?_⟩
            · rcases List.mem_cons.mp hg with rfl | hg
              · exact ⟨e2, e3⟩
              · exact g2 g hg
            · cases j with
              | zero =>
                cases hg
                rw [ik] at e6
                exact ⟨row, e4, e5, e6⟩
              | succ j =>
                obtain ⟨row', w1, w2, w3⟩ := g4 j g hg
                exact ⟨row', w1, w2, by rw [show k + (j + 1) = k + 1 + j by omega]; exact w3⟩
        obtain ⟨gs, g1, g2, g3, g4⟩ := key 0 (List.range n) zs (fun i j hj => by
          obtain ⟨h1, h2⟩ := List.getElem?_eq_some_iff.mp hj
          rw [List.getElem_range] at h2
          omega) hz
        refine ⟨gs, g1, g2, by rw [g3, List.length_range], fun i g hg => ?_⟩
        obtain ⟨row, w1, w2, w3⟩ := g4 i g hg
        rw [Nat.zero_add] at w3
        exact ⟨row, w1, w2, w3⟩
      obtain ⟨gs, rfl, gfr, lgs, grow⟩ := gsx
      have gv0 : H gv = none := ngv
      have gvn : gv ∉ gs := fun h => (gfr gv h).1 rfl
      have fresh : ∀ g, g ∈ gv :: gs → H g = none := fun g hg => by
        rcases List.mem_cons.mp hg with rfl | hg
        · exact gv0
        · exact (gfr g hg).2
      have off : ∀ x, x ∈ (p :: nm :: mn :: cl :: mk :: rs) → ∀ g, g ∈ gv :: gs → x ≠ g := fun x hx g hg e => by
        obtain ⟨y, hy⟩ := S0 x hx
        rw [e, fresh g hg] at hy
        cases hy
      have GV1 : GivenAt H1 gv gs n := ⟨hgv, lgs, grow⟩
      let GS : Hp → Nat → Prop := fun H' b' => Fr (p :: cl :: rs) H H' ∧ Deck H' p b' ∧ ColsAt H' cl n Pc ∧ GivenAt H' gv gs n ∧ ∃ M', MarksAt H' mk rs n M' ∧ OkM n M'
      have GSsame : ∀ {H' H'' b'}, GS H' b' → Same H' H'' → GS H'' b' := fun {H' H'' b'} g s => by
        obtain ⟨g1, g2, ⟨cs, g3, g4⟩, g5, M', g6, g7⟩ := g
        exact ⟨g1.trans (Fr.same s), g2.same s, ⟨cs, s _ _ g3, g4⟩, g5.fr fun b _ x e => s _ _ e, M', g6.fr fun b _ x e => s _ _ e, g7⟩
      have g1 : GS H1 b := ⟨Fr.same s1, dk.same s1, by
        obtain ⟨cs, h1, h2⟩ := hcl
        exact ⟨cs, s1 _ _ h1, h2⟩, GV1, M, hmk.fr fun b _ x e => s1 _ _ e, okm⟩
      have pS : p ∈ (p :: nm :: mn :: cl :: mk :: rs) := List.mem_cons_self
      have clS : cl ∈ (p :: nm :: mn :: cl :: mk :: rs) := by simp
      have mkS : ∀ x, x ∈ mk :: rs → x ∈ (p :: nm :: mn :: cl :: mk :: rs) := fun x hx => List.mem_cons_of_mem _ (List.mem_cons_of_mem _ (List.mem_cons_of_mem _ (List.mem_cons_of_mem _ hx)))
      have pmk : ∀ x, x ∈ mk :: rs → x ≠ p := fun x hx e => nd1 (e ▸ List.mem_cons_of_mem _ (List.mem_cons_of_mem _ (List.mem_cons_of_mem _ hx)))
      have clmk : ∀ x, x ∈ mk :: rs → x ≠ cl := fun x hx e => nd7 (e ▸ hx)
      have pcl : p ≠ cl := fun e => nd1 (e ▸ by simp)
      have nmO : nm ∉ p :: cl :: rs := fun h => by
        rcases List.mem_cons.mp h with e | h
        · exact nd1 (e ▸ by simp)
        · rcases List.mem_cons.mp h with e | h
          · exact nd3 (e ▸ by simp)
          · exact nd3 (by simp [h])
      have mnO : mn ∉ p :: cl :: rs := fun h => by
        rcases List.mem_cons.mp h with e | h
        · exact nd1 (e ▸ by simp)
        · rcases List.mem_cons.mp h with e | h
          · exact nd5 (e ▸ by simp)
          · exact nd5 (by simp [h])
      have GScl : ∀ {H' b' cs' y c}, GS H' b' → H' cl = some (.lst (IntsV cs')) → cs'.length = n → (∀ c, c ∈ cs' → Pc c) → Pc c → GS (upd H' cl (.lst ((IntsV cs').set y (.int c)))) b' := fun {H' b' cs' y c} g h1 h2 h3 h4 => by
        obtain ⟨g1, g2, g3, g5, M', g6, g7⟩ := g
        exact ⟨g1.trans (Fr.but (by simp) But.upd), g2.but pcl But.upd, ColsAt.set h2 h3 h4 y, g5.fr fun b hb x e => by rw [upd_ne (off cl clS b hb).symm]; exact e, M', g6.fr fun b hb x e => by rw [upd_ne (clmk b hb)]; exact e, g7⟩
      have GSgv : ∀ {H' b' x y} {g : Addr} {row : List Bool}, GS H' b' → gs[x]? = some g → H' g = some (.lst (row.map V.bl)) → GS (upd H' g (.lst ((row.map V.bl).set y (.bl true)))) b' := fun {H' b' x y g row} hh hg hr => by
        obtain ⟨g1, g2, ⟨cs, g3, g4⟩, g5, M', g6, g7⟩ := hh
        have mg : g ∈ gv :: gs := List.mem_cons_of_mem _ (List.mem_of_getElem? hg)
        refine ⟨g1.fresh (fresh g mg) But.upd, g2.but (off p pS g mg) But.upd, ⟨cs, by rw [upd_ne (off cl clS g mg)]; exact g3, g4⟩, g5.put gvn hg hr y, M', g6.fr fun b hb x e => by rw [upd_ne (off b (mkS b hb) g mg)]; exact e, g7⟩
      have GSmk : ∀ {H' b' x y v} {r : Addr} {M' : Nat → Nat → Int}, GS H' b' → rs[x]? = some r → MarksAt H' mk rs n M' → OkM n M' → x ≠ y → y < n → 0 ≤ v → v ≤ 1000000000 → GS (upd H' r (.lst (((List.range n).map fun j => V.int (M' x j)).set y (.int v)))) b' := fun {H' b' x y v r M'} hh hr m ok ne hy v0 v1 => by
        obtain ⟨g1, g2, ⟨cs, g3, g4⟩, g5, _⟩ := hh
        have mr : r ∈ mk :: rs := List.mem_cons_of_mem _ (List.mem_of_getElem? hr)
        refine ⟨g1.trans (Fr.but (List.mem_cons_of_mem _ (List.mem_cons_of_mem _ (List.mem_of_getElem? hr))) But.upd), g2.but (pmk r mr).symm But.upd, ⟨cs, by rw [upd_ne (clmk r mr).symm]; exact g3, g4⟩, g5.fr fun b hb x e => by rw [upd_ne (off r (mkS r mr) b hb).symm]; exact e, _, m.put nd8 hr hy v, ok.put ne v0 v1⟩
      have GSdk : ∀ {H' H'' b'}, GS H' b' → But p H' H'' → Deck H'' p (b' + 1) → GS H'' (b' + 1) := fun {H' H'' b'} hh bt d => by
        obtain ⟨g1, g2, ⟨cs, g3, g4⟩, g5, M', g6, g7⟩ := hh
        exact ⟨g1.trans (Fr.but (by simp) bt), d, ⟨cs, bt _ _ pcl.symm g3, g4⟩, g5.fr fun b hb x e => bt _ _ (off p pS b hb).symm e, M', g6.fr fun b hb x e => bt _ _ (pmk b hb) e, g7⟩
      have look : ∀ {x}, x < n → atI (NatsV l) (x : Int) = some (.int (l.getD x 0 : Nat)) := fun {x} hx => nats_at (nm_lt pm hx).2
      have nmAt : ∀ {H' b'}, GS H' b' → H' nm = some (.lst (NatsV l)) := fun {H' b'} g => g.1 _ _ nmO hnm
      have mnAt : ∀ {H' b'}, GS H' b' → H' mn = some (.lst (IntsV menu)) := fun {H' b'} g => g.1 _ _ mnO hmn
      -- the colours of a ring
      refine ⟨_, rfl, n, rfl, by omega, by omega, ?_⟩
      refine for_it (walk_range (lo := 0) (n := ((n : Int)).toNat)) (fun i σ H' => (∃ y7 y8 y9 y10 y11, σ = [some (.ref p), some (.ref nm), some (.ref mn), some (.ref cl), some (.ref mk), some (.int n), some (.ref gv), y7, y8, y9, y10, y11]) ∧ GS H' b) ⟨⟨_, _, _, _, _, rfl⟩, g1⟩ (fun _ _ _ _ _ => trivial) ?_ ?_
      · rintro a x σ H2 H2' ha ⟨⟨y7, y8, y9, y10, y11, rfl⟩, g2⟩ ⟨rfl, ex⟩
        replace ex := rg0 ex
        subst ex
        rw [tn] at ha
        obtain ⟨t, t1, t5, et⟩ := orbit pm ha
        refine ⟨.ref nm, rfl, _, rfl, nm, _, _, _, rfl, rfl, SqL.of (nmAt g2), look ha, ?_⟩
        refine ⟨fun m σ H' => ∃ j y9 y10 y11, σ = [some (.ref p), some (.ref nm), some (.ref mn), some (.ref cl), some (.ref mk), some (.int n), some (.ref gv), some (.int (a : Nat)), some (.int (it l j a : Nat)), y9, y10, y11] ∧ GS H' b ∧ 1 ≤ j ∧ j ≤ t ∧ m = t - j,
          ⟨t - 1, 1, _, _, _, rfl, g2, Nat.le_refl _, t1, rfl⟩, ?_⟩
        rintro m σ H3 ⟨j, z9, z10, z11, rfl, g3, j1, jt, rfl⟩
        have itn := it_lt pm ha j
        refine ⟨_, rfl, _, rfl, rfl, _, rfl, ite2 (fun e => ?_) fun e => ?_⟩
        · have jt2 : j < t := by
            rcases Nat.lt_or_ge j t with c | c
            · exact c
            · have : j = t := by omega
              rw [this, et, decide_eq_true rfl] at e
              cases e
          refine ⟨fun σ' H' => (∃ y9 y10 y11, σ' = [some (.ref p), some (.ref nm), some (.ref mn), some (.ref cl), some (.ref mk), some (.int n), some (.ref gv), some (.int (a : Nat)), some (.int (it l (j + 1) a : Nat)), y9, y10, y11]) ∧ GS H' b, fun σ' H' h => ?_, ?_⟩
          · obtain ⟨⟨w9, w10, w11, h1⟩, h2⟩ := h
            exact ⟨t - (j + 1), by omega, j + 1, w9, w10, w11, h1, h2, by omega, by omega, rfl⟩
          · obtain ⟨cs', h1, h2, h3⟩ := g3.2.2.1
            have hac : a < cs'.length := by omega
            refine ⟨.ref cl, rfl, _, rfl, cl, _, _, .int cs'[a], rfl, rfl, SqL.of h1, atI_nat (by rw [List.getElem?_map, List.getElem?_eq_getElem hac]; rfl), .ref cl, rfl, _, rfl, cl, _, _, it l j a, rfl, rfl, h1, by rw [List.length_map, h2]; exact ixN_nat itn, ?_⟩
            have g4 := GScl (y := it l j a) g3 h1 h2 h3 (h3 _ (List.getElem_mem hac))
            refine ⟨.ref nm, rfl, _, rfl, nm, _, _, _, rfl, rfl, SqL.of (nmAt g4), look itn, ?_⟩
            exact ⟨⟨_, _, _, rfl⟩, g4⟩
        · exact ⟨⟨_, _, _, _, _, rfl⟩, g3⟩
      rintro σ H2 ⟨⟨y7, y8, y9, y10, y11, rfl⟩, g2⟩
      -- the marks of a ring of pairs
      refine ⟨_, rfl, n, rfl, by omega, by omega, ?_⟩
      refine for_it (walk_range (lo := 0) (n := ((n : Int)).toNat)) (fun i σ H' => (∃ y7 y8 y9 y10 y11, σ = [some (.ref p), some (.ref nm), some (.ref mn), some (.ref cl), some (.ref mk), some (.int n), some (.ref gv), y7, y8, y9, y10, y11]) ∧ GS H' (b + n * i)) ⟨⟨_, _, _, _, _, rfl⟩, g2⟩ (fun _ _ _ _ _ => trivial) ?_ ?_
      · rintro a x σ H3 H3' ha ⟨⟨y7, y8, y9, y10, y11, rfl⟩, g3⟩ ⟨rfl, ex⟩
        replace ex := rg0 ex
        subst ex
        rw [tn] at ha
        refine ⟨_, rfl, n, rfl, by omega, by omega, ?_⟩
        refine for_it (walk_range (lo := 0) (n := ((n : Int)).toNat)) (fun i σ H' => (∃ y8 y9 y10 y11, σ = [some (.ref p), some (.ref nm), some (.ref mn), some (.ref cl), some (.ref mk), some (.int n), some (.ref gv), some (.int (a : Nat)), y8, y9, y10, y11]) ∧ GS H' (b + n * a + i)) ⟨⟨_, _, _, _, rfl⟩, g3⟩ (fun _ _ _ _ _ => trivial) ?_ ?_
        · rintro c x σ H4 H4' hc ⟨⟨z8, z9, z10, z11, rfl⟩, g4⟩ ⟨rfl, ex⟩
          replace ex := rg0 ex
          subst ex
          rw [tn] at hc
          have lm : 0 < menu.length := List.length_pos_iff.mpr mne
          have bb : b + n * a + c ≤ 1000000 := by
            have : n * a ≤ 5 * 5 := Nat.mul_le_mul n5 (by omega)
            omega
          refine ⟨.ref mn, rfl, _, rfl, .ref mn, rfl, mn, _, rfl, .inl (SqL.of (mnAt g4)), p, b + n * a + c, menu.length, ?_, g4.2.1, bb, lm, by omega, fun d H5 hd b5 dk5 => ?_⟩
          · rw [List.length_map]
            rfl
          have g5 := GSdk g4 b5 dk5
          have vok := mok _ (List.getElem_mem hd)
          refine ⟨mn, _, _, .int menu[d], rfl, rfl, SqL.of (mnAt g5), atI_nat (by rw [List.getElem?_map, List.getElem?_eq_getElem hd]; rfl), ?_⟩
          refine ⟨_, rfl, ?_⟩
          refine ⟨_, rfl, ?_⟩
          obtain ⟨ta, ta1, ta5, eta⟩ := orbit pm ha
          obtain ⟨tc, tc1, tc5, etc⟩ := orbit pm hc
          have ea : it l (tc * ta) a = a := it_mul eta tc
          have ec : it l (tc * ta) c = c := by rw [Nat.mul_comm]; exact it_mul etc ta
          refine ⟨fun m σ H' => ∃ j, σ = [some (.ref p), some (.ref nm), some (.ref mn), some (.ref cl), some (.ref mk), some (.int n), some (.ref gv), some (.int (a : Nat)), some (.int (c : Nat)), some (.int menu[d]), some (.int (it l j a : Nat)), some (.int (it l j c : Nat))] ∧ GS H' (b + n * a + (c + 1)) ∧ j ≤ tc * ta ∧ m = tc * ta - j ∧
              (1 ≤ j → ∃ (g : Addr) (row : List Bool), gs[a]? = some g ∧ H' g = some (.lst (row.map V.bl)) ∧ row[c]? = some true),
            ⟨_, 0, rfl, g5, Nat.zero_le _, rfl, fun z => absurd z (by omega)⟩, ?_⟩
          rintro m σ H6 ⟨j, rfl, g6, jt, rfl, seen⟩
          have ian := it_lt pm ha j
          have icn := it_lt pm hc j
          obtain ⟨gx, hgx⟩ : ∃ g, gs[it l j a]? = some g := ⟨_, List.getElem?_eq_getElem (by omega)⟩
          obtain ⟨row, hrow, lrow, drow⟩ := g6.2.2.2.1.row _ _ hgx
          have hic : it l j c < row.length := by omega
          refine ⟨.ref gv, rfl, _, rfl, gv, _, _, .ref gx, rfl, rfl, SqL.of g6.2.2.2.1.top, refs_at hgx, _, rfl, gx, _, _, .bl row[it l j c], rfl, rfl, SqL.of hrow, atI_nat (by rw [List.getElem?_map, List.getElem?_eq_getElem hic]; rfl), row[it l j c], rfl, ?_⟩
          cases er : row[it l j c] with
          | true => exact iteF ⟨⟨_, _, _, _, rfl⟩, g6⟩
          | false =>
            have ne : it l j a ≠ it l j c := fun e => by
              have h1 := (List.getElem?_eq_some_iff.mp drow).2
              simp only [e] at h1
              rw [er] at h1
              cases h1
            have jlt : j < tc * ta := by
              rcases Nat.lt_or_ge j (tc * ta) with z | z
              · exact z
              · exfalso
                have hj : j = tc * ta := by omega
                have j1 : 1 ≤ j := by rw [hj]; exact Nat.mul_pos tc1 ta1
                obtain ⟨g, row', h1, h2, h3⟩ := seen j1
                have e1 : it l j a = a := by rw [hj]; exact ea
                have e2 : it l j c = c := by rw [hj]; exact ec
                rw [e1, h1] at hgx
                cases hgx
                rw [hrow] at h2
                have e3 : row = row' := by
                  have e4 : row.map V.bl = row'.map V.bl := by injection h2 with h2; injection h2
                  exact (List.map_inj_right (fun a b h => by injection h)).mp e4
                subst e3
                have h4 := (List.getElem?_eq_some_iff.mp h3).2
                simp only [e2] at er
                rw [er] at h4
                cases h4
            refine iteT ?_
            refine ⟨fun σ' H' => σ' = [some (.ref p), some (.ref nm), some (.ref mn), some (.ref cl), some (.ref mk), some (.int n), some (.ref gv), some (.int (a : Nat)), some (.int (c : Nat)), some (.int menu[d]), some (.int (it l (j + 1) a : Nat)), some (.int (it l (j + 1) c : Nat))] ∧ GS H' (b + n * a + (c + 1)) ∧
                (∃ (g : Addr) (row : List Bool), gs[a]? = some g ∧ H' g = some (.lst (row.map V.bl)) ∧ row[c]? = some true), fun σ' H' h => ⟨tc * ta - (j + 1), by omega, j + 1, h.1, h.2.1, by omega, rfl, fun _ => h.2.2⟩, ?_⟩
            refine ⟨.ref gv, rfl, _, rfl, gv, _, _, .ref gx, rfl, rfl, SqL.of g6.2.2.2.1.top, refs_at hgx, _, rfl, gx, _, _, it l j c, rfl, rfl, hrow, by rw [List.length_map, lrow]; exact ixN_nat icn, ?_⟩
            have g7 := GSgv (y := it l j c) g6 hgx hrow
            -- the first of them stays given
            have seen7 : ∃ (g : Addr) (row' : List Bool), gs[a]? = some g ∧ (upd H6 gx (.lst ((row.map V.bl).set (it l j c) (.bl true)))) g = some (.lst (row'.map V.bl)) ∧ row'[c]? = some true := by
              have new : (upd H6 gx (.lst ((row.map V.bl).set (it l j c) (.bl true)))) gx = some (.lst ((row.set (it l j c) true).map V.bl)) := by rw [upd_same, List.map_set]
              by_cases j0 : j = 0
              · subst j0
                refine ⟨gx, row.set (it l 0 c) true, hgx, new, ?_⟩
                rw [List.getElem?_set]
                show (if c = c then if c < row.length then some true else none else row[c]?) = some true
                rw [if_pos rfl, if_pos (show c < row.length from hic)]
              · obtain ⟨g, row', h1, h2, h3⟩ := seen (by omega)
                by_cases eg : g = gx
                · subst eg
                  rw [hrow] at h2
                  have e3 : row = row' := by
                    have e4 : row.map V.bl = row'.map V.bl := by injection h2 with h2; injection h2
                    exact (List.map_inj_right (fun a b h => by injection h)).mp e4
                  subst e3
                  refine ⟨g, _, h1, new, ?_⟩
                  rw [List.getElem?_set]
                  have hcl : c < row.length := (List.getElem?_eq_some_iff.mp h3).1
                  by_cases z : it l j c = c
                  · rw [if_pos z, if_pos (by rw [z]; exact hcl)]
                  · rw [if_neg z]
                    exact h3
                · exact ⟨g, row', h1, by rw [upd_ne eg]; exact h2, h3⟩
            generalize eH7 : upd H6 gx (.lst ((row.map V.bl).set (it l j c) (.bl true))) = H7 at g7 seen7
            obtain ⟨_, _, _, _, M7, mk7, ok7⟩ := id g7
            obtain ⟨r, hr7⟩ : ∃ r, rs[it l j a]? = some r := ⟨_, List.getElem?_eq_getElem (by rw [mk7.len]; exact ian)⟩
            have row7 := mk7.row _ _ hr7
            refine ⟨_, rfl, .ref mk, rfl, _, rfl, mk, _, _, .ref r, rfl, rfl, SqL.of mk7.top, refs_at hr7, _, rfl, r, _, _, it l j c, rfl, rfl, row7, by rw [List.length_map, List.length_range]; exact ixN_nat icn, ?_⟩
            have g8 := GSmk (v := menu[d]) g7 hr7 mk7 ok7 ne icn vok.1 vok.2
            have seen8 : ∃ (g : Addr) (row' : List Bool), gs[a]? = some g ∧ (upd H7 r (.lst (((List.range n).map fun k => V.int (M7 (it l j a) k)).set (it l j c) (.int menu[d])))) g = some (.lst (row'.map V.bl)) ∧ row'[c]? = some true := by
              obtain ⟨g, row', h1, h2, h3⟩ := seen7
              have : r ≠ g := off r (mkS r (List.mem_cons_of_mem _ (List.mem_of_getElem? hr7))) g (List.mem_cons_of_mem _ (List.mem_of_getElem? h1))
              exact ⟨g, row', h1, by rw [upd_ne this.symm]; exact h2, h3⟩
            refine ⟨.ref nm, rfl, _, rfl, nm, _, _, _, rfl, rfl, SqL.of (nmAt g8), look ian, ?_⟩
            refine ⟨.ref nm, rfl, _, rfl, nm, _, _, _, rfl, rfl, SqL.of (nmAt g8), look icn, ?_⟩
            exact ⟨rfl, g8, seen8⟩
        · rintro σ H4 ⟨⟨z8, z9, z10, z11, rfl⟩, g4⟩
          rw [tn] at g4
          exact ⟨⟨_, _, _, _, _, rfl⟩, by rw [Nat.mul_succ, ← Nat.add_assoc]; exact g4⟩
      rintro σ H3 ⟨⟨z7, z8, z9, z10, z11, rfl⟩, g3⟩
      rw [tn] at g3
      refine ⟨_, rfl, n, rfl, by omega, by omega, fun D nD => ?_⟩
      refine lcP (walk_range (lo := 0) (n := ((n : Int)).toNat)) (src := List.range n) (by rw [List.length_range, tn]) (sel := fun _ => true) (val := fun i => i) (Rel := fun _ _ _ => True) nD (fun _ _ _ _ _ _ t => t) (fun _ _ => trivial)
        (fun i H1 x H1' y => by obtain ⟨rfl, _⟩ := y; exact same_refl) (by omega) ?_ ?_
      · rintro i i' x H4 H4' N Kv hi' s4 ⟨rfl, ex⟩ s4' _ _ hK
        replace ex := rg0 ex
        subst ex
        obtain ⟨hin, ei⟩ := List.getElem?_eq_some_iff.mp hi'
        rw [List.length_range] at hin
        refine ⟨rfl, tyes ⟨_, rfl, _, rfl, nm, l, n, i, rfl, s4 _ _ (nmAt g3), pm, n5, hin, fun o fs H5 s5 ho fne => ?_⟩⟩
        refine ⟨o, _, fs, rfl, SqL.of ho, nats_ts fs, fne, by decide, fun v _ _ => hK v H5 rfl s5 trivial⟩
      · intro H4 zs s4 _ _
        obtain ⟨h1, h2, h3, _, M', h5, h6⟩ := GSsame g3 s4
        refine q (.ref D) M' H4 h1 (h2.more ?_) h3 h5 h6
        have : n * n ≤ 5 * 5 := Nat.mul_le_mul n5 n5
        omega
end
end LK
set_option autoImplicit false
set_option linter.all false
set_option maxRecDepth 100000
set_option synthInstance.maxSize 1000
set_option Elab.async false
namespace LK
open PySem PySem.Spec L2
theorem cut_nats (l : List Nat) (lo hi : Nat) : cutV (NatsV l) (some (lo : Int)) (some (hi : Int)) = NatsV ((l.drop (min lo l.length)).take (min hi l.length - min lo l.length)) := by
  unfold cutV NatsV
  rw [List.length_map, HT.sIx_nat, HT.sIx_nat, List.map_take, List.map_drop]
theorem rep_len : ∀ m : Nat, (List.replicate m [V.int 0]).flatten.length = m
  | 0 => rfl
  | m + 1 => by
    rw [List.replicate_succ, List.flatten_cons, List.length_append, rep_len m]
    simp only [List.length_cons, List.length_nil]
    omega
section
variable {P : Program} {w : World} {K : PySem.W.Frag} {mg : Str → Option Value} {base : Heap} {C : Addr}
/-! #### _law_rings -/
theorem scRings : FnScope ["_law_deck_here", "_law_order_here", "_law_mark", "_law_marks", "_law_n", "_law_long", "_law_again", "_law_lengths", "_law_at", "_law_ring_here", "_law_a", "_law_b"] ["_law_deck_here", "_law_order_here", "_law_mark", "_law_marks"] (defScope sLrings) := ⟨rfl, rfl, rfl, by decide +kernel, rfl, by decide +kernel, by decide +kernel⟩
def spRings : Sp := fun vs H Q _ => ∃ (p od mk : Addr) (b n : Nat) (l : List Nat) (m : Int) (rs : List Addr) (M : Nat → Nat → Int), vs = [.ref p, .ref od, .int m, .ref mk] ∧ Deck H p b ∧ b ≤ 900000 ∧ n ≤ 5 ∧
  H od = some (.lst (NatsV l)) ∧ l.Perm (List.range n) ∧ 0 ≤ m ∧ m ≤ 1000000000 ∧ MarksAt H mk rs n M ∧ OkM n M ∧ (p :: od :: mk :: rs).Nodup ∧
  ∀ v M' H', Fr (p :: rs) H H' → Deck H' p (b + 2) → MarksAt H' mk rs n M' → OkM n M' → Q v H'
theorem ok_rings {f : Addr} {fd : FuncData} (T : Tx K mg C) (F : FN K "_law_rings" sLrings f fd) (GT : Gf P w K mg base 1 "_law_take" ["_law_deck_here", "_law_many"] spTake) :
    FnOk P w K mg base CX0 2 f fd ["_law_deck_here", "_law_order_here", "_law_mark", "_law_marks"] spRings := by
  refine FDok F scRings (fun vs H Q E h => ?_) (fun cdv A outer s H vs Q E hr h => ?_)
  · obtain ⟨p, od, mk, b, n, l, m, rs, M, rfl, _⟩ := h
    rfl
  · obtain ⟨p, od, mk, b, n, l, m, rs, M, rfl, dk, b9, n5, hod, pm, m0, m1, hmk, okm, nd, q⟩ := h
    have ll : l.length = n := by rw [pm.length_eq, List.length_range]
    have S0 : ∀ x, x ∈ (p :: od :: mk :: rs) → ∃ y, H x = some (.lst y) := fun x hx => by
      rcases List.mem_cons.mp hx with rfl | hx
      · exact dk.lst
      rcases List.mem_cons.mp hx with rfl | hx
      · exact ⟨_, hod⟩
      rcases List.mem_cons.mp hx with rfl | hx
      · exact ⟨_, hmk.top⟩
      · obtain ⟨i, hi, e⟩ := List.getElem_of_mem hx
        exact ⟨_, hmk.row i x (by rw [List.getElem?_eq_getElem hi, e])⟩
    obtain ⟨nd1, nd2⟩ := List.nodup_cons.mp nd
    obtain ⟨nd3, nd4⟩ := List.nodup_cons.mp nd2
    have pmk : ∀ x, x ∈ mk :: rs → x ≠ p := fun x hx e => nd1 (e ▸ List.mem_cons_of_mem _ hx)
    have odO : od ∉ p :: rs := fun h => by
      rcases List.mem_cons.mp h with e | h
      · exact nd1 (e ▸ by simp)
      · exact nd3 (by simp [h])
    refine ⟨_, pss_cons (ps_set (i := 4) scRings.nd rfl (.inl rfl) (pe_callB call_len_seq (by rfl) T.len PySem.boot_len (pa_cons (pv 1) pa_nil)))
      (pss_cons (ps_set (i := 5) scRings.nd rfl (.inl rfl) (pe_op op_add pe_int (pe_f GT hr (by rfl) (pa_cons (pv 0) (pa_cons (pe_callB (call_max2 rfl) (by rfl) T.mx PyProof.Rows.boot_max (pa_cons pe_int (pa_cons (pv 4) pa_nil))) pa_nil)))))
      (pss_cons (ps_set (i := 6) scRings.nd rfl (.inl rfl) (pe_ix ix_list (pe_lst (pa_cons pe_int (pa_cons (pv 2) (pa_cons pe_int pa_nil)))) (pe_f GT hr (by rfl) (pa_cons (pv 0) (pa_cons pe_int pa_nil))) (fun _ _ => rfl)))
      (pss_cons (ps_set (i := 7) scRings.nd rfl (.inl rfl) (pe_op op_rep (pe_lst (pa_cons pe_int pa_nil)) (pv 4)))
      (pss_cons (ps_for PassesOwn.never rfl (pi_range1 (by rfl) T.rng (pa_cons (pv 4) pa_nil)) (pg_name (i := 8) scRings.nd rfl (.inl rfl))
        (pss_cons (ps_set (i := 9) scRings.nd rfl (.inl rfl) (pe_slice sl_list (pv 1) (po_some (pe_op op_mul (pe_op op_fdiv (pv 8) (pv 5)) (pv 5))) (po_some (pe_op op_add (pe_op op_mul (pe_op op_fdiv (pv 8) (pv 5)) (pv 5)) (pv 5)))))
        (pss_cons (ps_set (i := 10) scRings.nd rfl (.inl rfl) (pe_ix ix_list (pv 1) (pv 8) (fun _ _ => rfl)))
        (pss_cons (ps_set (i := 11) scRings.nd rfl (.inl rfl) (pe_ix ix_list (pv 9) (pe_op op_mod (pe_op op_add (pe_op op_mod (pv 8) (pv 5)) pe_int) (pe_callB call_len_seq (by rfl) T.len PySem.boot_len (pa_cons (pv 9) pa_nil))) (fun _ _ => rfl)))
        (pss_cons (ps_asg (pe_callB call_len_seq (by rfl) T.len PySem.boot_len (pa_cons (pv 9) pa_nil)) (pg_sub (pv 7) (pv 10) set_list))
        (pss_one (ps_if (pt_cmpR op_ne (pv 10) (pv 11) (nomark _))
          (pss_cons (ps_asg (pv 2) (pg_sub (pe_ix ix_list (pv 3) (pv 10) (fun _ _ => rfl)) (pv 11) set_list))
          (pss_one (ps_asg (pe_callB (call_max2 rfl) (by rfl) T.mx PyProof.Rows.boot_max (pa_cons (pe_ix ix_list (pe_ix ix_list (pv 3) (pv 11) (fun _ _ => rfl)) (pv 10) (fun _ _ => rfl)) (pa_cons (pv 6) pa_nil))) (pg_sub (pe_ix ix_list (pv 3) (pv 11) (fun _ _ => rfl)) (pv 10) set_list)))) pss_nil)))))))
      (pss_one (ps_ret (pv 7))))))), ?_⟩
    have tn : ((n : Int)).toNat = n := by omega
    refine ⟨_, rfl, od, _, rfl, .inl (SqL.of hod), ?_⟩
    rw [show ((NatsV l).length : Int) = (n : Int) by rw [List.length_map, ll]]
    have emx : V.int (if (n : Int) > 1 then (n : Int) else 1) = .int ((max 1 n : Nat) : Int) := by
      refine congrArg V.int ?_
      split <;> omega
    refine ⟨_, rfl, _, rfl, 1, n, rfl, p, b, max 1 n, ?_, dk, by omega, by omega, by omega, fun d H1 hd b1 dk1 => ?_⟩
    · show [V.ref p, V.int (if (n : Int) > 1 then (n : Int) else 1)] = _
      rw [emx]
    refine ⟨1, d, rfl, rfl, ?_⟩
    refine ⟨_, rfl, by show 3 ≤ sizeLine; decide, fun o1 no1 => ?_⟩
    have no10 : H o1 = none := by
      cases e : H o1 with
      | none => rfl
      | some y =>
        by_cases z : o1 = p
        · rw [z] at no1
          obtain ⟨acc, h⟩ := dk1.lst
          rw [h] at no1
          cases no1
        · rw [b1 _ _ z e] at no1
          cases no1
    refine ⟨_, rfl, p, b + 1, 3, rfl, dk1.same (same_new no1), by omega, by omega, by omega, fun d2 H3 hd2 b3 dk3 => ?_⟩
    have po1 : o1 ≠ p := dk1.ne no1
    have ho1 := b3 _ _ po1 (show (upd H1 o1 (.lst [.int 0, .int m, .int 1])) o1 = _ from upd_same)
    have again : ∃ g : Int, atI [V.int 0, V.int m, V.int 1] (d2 : Int) = some (.int g) ∧ 0 ≤ g ∧ g ≤ 1000000000 := by
      have : d2 = 0 ∨ d2 = 1 ∨ d2 = 2 := by omega
      rcases this with rfl | rfl | rfl
      · exact ⟨0, atI_nat (j := 0) rfl, by omega, by omega⟩
      · exact ⟨m, atI_nat (j := 1) rfl, m0, m1⟩
      · exact ⟨1, atI_nat (j := 2) rfl, by omega, by omega⟩
    obtain ⟨gg, hgg, gg0, gg1⟩ := again
    refine ⟨o1, _, _, _, rfl, rfl, SqL.of ho1, hgg, ?_⟩
    refine ⟨by show 1 ≤ sizeLine; decide, fun o2 no2 => ?_⟩
    refine ⟨_, rfl, o2, _, _, rfl, rfl, upd_same, by omega, by omega, ?_, fun Z nZ => ?_⟩
    · rw [tn, sizeLine_eq]
      simp only [List.length_cons, List.length_nil]
      omega
    have lz0 : (List.replicate ((n : Int)).toNat [V.int 0]).flatten.length = n := by
      rw [tn]
      exact rep_len n
    have f3 : Fr (p :: rs) H H3 := ((Fr.but (by simp) b1).trans (Fr.same (same_new no1))).trans (Fr.but (by simp) b3)
    have nZ0 : H Z = none := by
      cases e : H Z with
      | none => rfl
      | some y =>
        have s3 : Same H3 (upd H3 o2 (.lst [.int 0])) := same_new no2
        by_cases z : Z = p
        · rw [z] at nZ
          obtain ⟨acc, h⟩ := dk3.lst
          rw [s3 _ _ h] at nZ
          cases nZ
        · rw [s3 _ _ (b3 _ _ z ((same_new no1) _ _ (b1 _ _ z e)))] at nZ
          cases nZ
    have Zoff : ∀ x, x ∈ (p :: od :: mk :: rs) → x ≠ Z := fun x hx e => by
      obtain ⟨y, hy⟩ := S0 x hx
      rw [e, nZ0] at hy
      cases hy
    let GS : Hp → Prop := fun H' => Fr (p :: rs) H H' ∧ Deck H' p (b + 2) ∧ (∃ M', MarksAt H' mk rs n M' ∧ OkM n M') ∧ ∃ zs, H' Z = some (.lst zs) ∧ zs.length = n
    have s34 : Same H3 (upd (upd H3 o2 (.lst [.int 0])) Z (.lst (List.replicate ((n : Int)).toNat [V.int 0]).flatten)) := (same_new no2).trans (same_new nZ)
    have mk3 : MarksAt H3 mk rs n M := hmk.fr fun x hx y e => b3 _ _ (pmk x hx) ((same_new no1) _ _ (b1 _ _ (pmk x hx) e))
    have g4 : GS (upd (upd H3 o2 (.lst [.int 0])) Z (.lst (List.replicate ((n : Int)).toNat [V.int 0]).flatten)) :=
      ⟨f3.trans (Fr.same s34), dk3.same s34, ⟨M, mk3.fr fun x hx y e => s34 _ _ e, okm⟩, _, upd_same, lz0⟩
    generalize upd (upd H3 o2 (.lst [.int 0])) Z (.lst (List.replicate ((n : Int)).toNat [V.int 0]).flatten) = H4 at g4
    have odAt : ∀ {H'}, GS H' → H' od = some (.lst (NatsV l)) := fun {H'} g => g.1 _ _ odO hod
    have look : ∀ {x}, x < n → atI (NatsV l) (x : Int) = some (.int (l.getD x 0 : Nat)) := fun {x} hx => nats_at (nm_lt pm hx).2
    have GSsame : ∀ {H' H''}, GS H' → Same H' H'' → GS H'' := fun {H' H''} g s => by
      obtain ⟨g1, g2, ⟨M', g3, g4⟩, zs, g5, g6⟩ := g
      exact ⟨g1.trans (Fr.same s), g2.same s, ⟨M', g3.fr fun x hx y e => s _ _ e, g4⟩, zs, s _ _ g5, g6⟩
    have GSz : ∀ {H' zs j y}, GS H' → H' Z = some (.lst zs) → zs.length = n → GS (upd H' Z (.lst (zs.set j y))) := fun {H' zs j y} g h1 h2 => by
      obtain ⟨g1, g2, ⟨M', g3, g4⟩, _⟩ := g
      exact ⟨g1.fresh nZ0 But.upd, g2.but (Zoff p (by simp)) But.upd, ⟨M', g3.fr fun x hx y e => by rw [upd_ne (Zoff x (List.mem_cons_of_mem _ (List.mem_cons_of_mem _ hx)))]; exact e, g4⟩, _, upd_same, by rw [List.length_set]; exact h2⟩
    have GSmk : ∀ {H' : Hp} {x y : Nat} {v : Int} {r : Addr} {M' : Nat → Nat → Int}, GS H' → rs[x]? = some r → MarksAt H' mk rs n M' → OkM n M' → x ≠ y → y < n → 0 ≤ v → v ≤ 1000000000 → GS (upd H' r (.lst (((List.range n).map fun j => V.int (M' x j)).set y (.int v)))) := fun {H' x y v r M'} hh hr mm ok ne hy v0 v1 => by
      obtain ⟨g1, g2, _, zs, g5, g6⟩ := hh
      have mr : r ∈ mk :: rs := List.mem_cons_of_mem _ (List.mem_of_getElem? hr)
      exact ⟨g1.trans (Fr.but (List.mem_cons_of_mem _ (List.mem_of_getElem? hr)) But.upd), g2.but (pmk r mr).symm But.upd, ⟨_, mm.put nd4 hr hy v, ok.put ne v0 v1⟩, zs, by rw [upd_ne (Zoff r (List.mem_cons_of_mem _ (List.mem_cons_of_mem _ mr))).symm]; exact g5, g6⟩
    obtain ⟨lg, elg, lg1⟩ : ∃ lg : Nat, (1 : Int) + (d : Int) = (lg : Int) ∧ 1 ≤ lg ∧ lg ≤ 6 := ⟨1 + d, by omega, by omega, by omega⟩
    refine ⟨_, rfl, n, rfl, by omega, by omega, ?_⟩
    refine for_it (walk_range (lo := 0) (n := ((n : Int)).toNat)) (fun i σ H' => (∃ y8 y9 y10 y11, σ = [some (.ref p), some (.ref od), some (.int m), some (.ref mk), some (.int n), some (.int lg), some (.int gg), some (.ref Z), y8, y9, y10, y11]) ∧ GS H') ⟨⟨_, _, _, _, by rw [← elg]; rfl⟩, g4⟩ (fun _ _ _ _ _ => trivial) ?_ ?_
    · rintro i x σ H5 H5' hi ⟨⟨y8, y9, y10, y11, rfl⟩, g5⟩ ⟨rfl, ex⟩
      replace ex := rg0 ex
      subst ex
      rw [tn] at hi
      have elo : (i : Int) / (lg : Int) * (lg : Int) = ((i / lg * lg : Nat) : Int) := by
        rw [Int.natCast_mul, Int.natCast_ediv]
      have ehi : (i : Int) / (lg : Int) * (lg : Int) + (lg : Int) = ((i / lg * lg + lg : Nat) : Int) := by
        rw [elo]
        omega
      have lo_le : i / lg * lg ≤ i := Nat.div_mul_le_self i lg
      generalize hlo : i / lg * lg = lo at elo ehi lo_le
      refine ⟨.ref od, rfl, _, rfl, _, rfl, i, lg, rfl, rfl, ⟨by omega, by omega⟩, _, rfl, _, lg, rfl, rfl, .inr ⟨by omega, by omega⟩, _, rfl, _, rfl, _, rfl, i, lg, rfl, rfl, ⟨by omega, by omega⟩, _, rfl, _, lg, rfl, rfl, .inr ⟨by omega, by omega⟩, _, rfl, _, lg, rfl, rfl, _, rfl, od, _, rfl, SqL.of (odAt g5), fun rp nrp => ?_⟩
      have ering : cutV (NatsV l) (some ((i : Int) / (lg : Int) * (lg : Int))) (some ((i : Int) / (lg : Int) * (lg : Int) + (lg : Int))) = NatsV ((l.drop (min lo l.length)).take (min (lo + lg) l.length - min lo l.length)) := by
        rw [ehi, elo]
        exact cut_nats l lo (lo + lg)
      have rmem : ∀ x, x ∈ (l.drop (min lo l.length)).take (min (lo + lg) l.length - min lo l.length) → x < n := fun x hx => List.mem_range.mp (pm.mem_iff.mp (List.mem_of_mem_drop (List.mem_of_mem_take hx)))
      have rlen : 0 < ((l.drop (min lo l.length)).take (min (lo + lg) l.length - min lo l.length)).length ∧ ((l.drop (min lo l.length)).take (min (lo + lg) l.length - min lo l.length)).length ≤ 5 := by
        rw [List.length_take, List.length_drop]
        omega
      generalize (l.drop (min lo l.length)).take (min (lo + lg) l.length - min lo l.length) = ring at ering rmem rlen
      have hrp : (upd H5' rp (.lst (cutV (NatsV l) (some ((i : Int) / (lg : Int) * (lg : Int))) (some ((i : Int) / (lg : Int) * (lg : Int) + (lg : Int)))))) rp = some (.lst (NatsV ring)) := by
        rw [upd_same, ering]
      have g6 : GS (upd H5' rp (.lst (cutV (NatsV l) (some ((i : Int) / (lg : Int) * (lg : Int))) (some ((i : Int) / (lg : Int) * (lg : Int) + (lg : Int)))))) := GSsame g5 (same_new nrp)
      generalize upd H5' rp (.lst (cutV (NatsV l) (some ((i : Int) / (lg : Int) * (lg : Int))) (some ((i : Int) / (lg : Int) * (lg : Int) + (lg : Int))))) = H6 at hrp g6
      have ia := (nm_lt pm hi).1
      have rl : ((NatsV ring).length : Int) = (ring.length : Int) := by rw [List.length_map]
      refine ⟨.ref od, rfl, _, rfl, od, _, _, _, rfl, rfl, SqL.of (odAt g6), look hi, ?_⟩
      obtain ⟨kx, hkx, ekx⟩ : ∃ k : Nat, k < ring.length ∧ ((i : Int) % (lg : Int) + 1) % (ring.length : Int) = (k : Int) := by
        have h1 : 0 ≤ ((i : Int) % (lg : Int) + 1) % (ring.length : Int) := Int.emod_nonneg _ (by omega)
        have h2 : ((i : Int) % (lg : Int) + 1) % (ring.length : Int) < ring.length := Int.emod_lt_of_pos _ (by omega)
        exact ⟨_, by omega, (Int.toNat_of_nonneg h1).symm⟩
      refine ⟨.ref rp, rfl, _, rfl, _, rfl, i, lg, rfl, rfl, by show (0 : Int) < lg; omega, _, 1, rfl, rfl, .ref rp, rfl, rp, _, rfl, .inl (SqL.of hrp), _, _, rfl, rfl, by show (0 : Int) < ((NatsV ring).length : Int); rw [rl]; omega, rp, _, (kx : Int), .int (ring[kx] : Nat), rfl, ?_, SqL.of hrp, nats_at (List.getElem?_eq_getElem hkx), ?_⟩
      · refine congrArg V.int ?_
        show ((i : Int) % (lg : Int) + 1) % ((NatsV ring).length : Int) = _
        rw [rl]
        exact ekx
      have bn := rmem _ (List.getElem_mem hkx)
      generalize ring[kx] = bb at bn
      obtain ⟨_, _, _, zs, hZ, lz⟩ := id g6
      refine ⟨.ref rp, rfl, rp, _, rfl, .inl (SqL.of hrp), .ref Z, rfl, _, rfl, Z, zs, _, l.getD i 0, rfl, rfl, hZ, by rw [lz]; exact ixN_nat ia, ?_⟩
      have g7 := GSz (j := l.getD i 0) (y := V.int ((NatsV ring).length : Int)) g6 hZ lz
      refine ⟨_, rfl, _, rfl, rfl, _, rfl, ite2 (fun e => ?_) fun _ => ⟨⟨_, _, _, _, rfl⟩, g7⟩⟩
      have ne : l.getD i 0 ≠ bb := fun z => by
        rw [z, decide_eq_true rfl] at e
        cases e
      generalize upd H6 Z (.lst (zs.set (l.getD i 0) (V.int ((NatsV ring).length : Int)))) = H7 at g7
      generalize l.getD i 0 = aa at ia ne
      obtain ⟨_, _, ⟨M7, mk7, ok7⟩, _⟩ := id g7
      obtain ⟨r, hr7⟩ : ∃ r, rs[aa]? = some r := ⟨_, List.getElem?_eq_getElem (by rw [mk7.len]; exact ia)⟩
      refine ⟨_, rfl, .ref mk, rfl, _, rfl, mk, _, _, .ref r, rfl, rfl, SqL.of mk7.top, refs_at hr7, _, rfl, r, _, _, bb, rfl, rfl, mk7.row _ _ hr7, by rw [List.length_map, List.length_range]; exact ixN_nat bn, ?_⟩
      have g8 := GSmk (v := m) g7 hr7 mk7 ok7 ne bn m0 m1
      generalize upd H7 r (.lst (((List.range n).map fun j => V.int (M7 aa j)).set bb (.int m))) = H8 at g8
      obtain ⟨_, _, ⟨M8, mk8, ok8⟩, _⟩ := id g8
      obtain ⟨r2, hr8⟩ : ∃ r, rs[bb]? = some r := ⟨_, List.getElem?_eq_getElem (by rw [mk8.len]; exact bn)⟩
      have row8 := mk8.row _ _ hr8
      refine ⟨.ref mk, rfl, _, rfl, mk, _, _, .ref r2, rfl, rfl, SqL.of mk8.top, refs_at hr8, _, rfl, r2, _, _, _, rfl, rfl, SqL.of row8, range_at ia _, _, rfl, M8 bb aa, gg, rfl, .ref mk, rfl, _, rfl, mk, _, _, .ref r2, rfl, rfl, SqL.of mk8.top, refs_at hr8, _, rfl, r2, _, _, aa, rfl, rfl, row8, by rw [List.length_map, List.length_range]; exact ixN_nat ia, ⟨_, _, _, _, rfl⟩, ?_⟩
      have okb := ok8 bb aa bn ia
      exact GSmk (v := if gg > M8 bb aa then gg else M8 bb aa) g8 hr8 mk8 ok8 (fun e => ne e.symm) ia (by split <;> omega) (by split <;> omega)
    · rintro σ H5 ⟨⟨y8, y9, y10, y11, rfl⟩, g1, g2, ⟨M', g3, g4'⟩, _⟩
      exact ⟨_, rfl, q _ M' H5 g1 g2 g3 g4'⟩
end
end LK
set_option autoImplicit false
set_option linter.all false
set_option maxRecDepth 100000
set_option maxHeartbeats 0
set_option synthInstance.maxSize 1000
set_option Elab.async false
namespace LK
open PySem PySem.Spec L2
theorem atN {xs : List V} {d : Nat} (h : d < xs.length) : ∃ v, atI xs (d : Int) = some v ∧ v ∈ xs := ⟨xs[d], atI_nat (List.getElem?_eq_getElem h), List.getElem_mem h⟩
theorem rep_range (m : Nat) : (List.replicate m [V.int 0]).flatten = (List.range m).map fun _ => V.int 0 := by
  induction m with
  | zero => rfl
  | succ m ih =>
    rw [List.range_succ, List.map_append, ← ih, List.replicate_succ', List.flatten_append]
    rfl
theorem ints_at {l : List Int} {d : Nat} (h : d < l.length) : ∃ v, atI (IntsV l) (d : Int) = some (.int v) ∧ v ∈ l := ⟨l[d], atI_nat (by rw [List.getElem?_map, List.getElem?_eq_getElem h]; rfl), List.getElem_mem h⟩
/-- a colour that the law draws -/
def PcW (c : Int) : Prop := 0 ≤ c ∧ c ≤ 1000000000 ∧ c ≠ 17
theorem nat_none {H H' : Hp} {p x : Addr} {b : Nat} (bt : But p H H') (d : Deck H' p b) (n : H' x = none) : H x = none ∧ x ≠ p := by
  have xp := d.ne n
  refine ⟨?_, xp⟩
  cases e : H x with
  | none => rfl
  | some y => rw [bt _ _ xp e] at n; cases n
section
variable {P : Program} {w : World} {K : PySem.W.Frag} {mg : Str → Option Value} {base : Heap} {C : Addr}
/-! #### _law_web -/
theorem scWebL : FnScope ["_law_deck_here", "_law_n", "_law_choice", "_law_shades", "_law_first", "_law_low", "_law_menus", "_law_menu", "_law_order_here", "_law_colours", "_law_marks", "_law_mark", "_law_a", "_law_b"] ["_law_deck_here", "_law_n"] (defScope sLweb) := ⟨rfl, rfl, rfl, by decide +kernel, rfl, by decide +kernel, by decide +kernel⟩
def spWebL : Sp := fun vs H Q _ => ∃ (p : Addr) (b n : Nat), vs = [.ref p, .int n] ∧ Deck H p b ∧ b ≤ 800000 ∧ n ≤ 5 ∧
  ∀ t cl mk v rs M H', But p H H' → H' t = some (.tup [.ref cl, .ref mk, v]) → ColsAt H' cl n PcW → MarksAt H' mk rs n M → OkM n M → cl ∉ mk :: rs → Q (.ref t) H'
/-- what the menu is -/
structure Menu (m : List Int) : Prop where
  ne : m ≠ []
  len : m.length ≤ 4
  ok : ∀ v, v ∈ m → 0 ≤ v ∧ v ≤ 1000000000
theorem ok_webL {f : Addr} {fd : FuncData} (T : Tx K mg C) (F : FN K "_law_web" sLweb f fd) (GT : Gf P w K mg base 1 "_law_take" ["_law_deck_here", "_law_many"] spTake) (GO : Gf P w K mg base 2 "_law_order" ["_law_deck_here", "_law_n"] spOrd)
    (GK : Gf P w K mg base 2 "_law_kept" ["_law_deck_here", "_law_naming", "_law_menu", "_law_colours", "_law_marks"] spKept) (GR : Gf P w K mg base 2 "_law_rings" ["_law_deck_here", "_law_order_here", "_law_mark", "_law_marks"] spRings) :
    FnOk P w K mg base CX0 3 f fd ["_law_deck_here", "_law_n"] spWebL := by
  refine FDok F scWebL (fun vs H Q E h => ?_) (fun cdv A outer s H vs Q E hr h => ?_)
  · obtain ⟨p, b, n, rfl, _⟩ := h
    rfl
  · obtain ⟨p, b, n, rfl, dk, b8, n5, q⟩ := h
    have r1 := hr.mono (j := 1) (by decide)
    refine ⟨_, pss_cons (ps_set (i := 2) scWebL.nd rfl (.inr rfl) (pe_f GT r1 (by rfl) (pa_cons (pv 0) (pa_cons pe_int pa_nil))))
      (pss_cons (ps_set (i := 3) scWebL.nd rfl (.inr rfl) (pe_ix ix_list (pe_lst (pa_cons pe_int (pa_cons pe_int (pa_cons pe_int (pa_cons pe_int pa_nil))))) (pe_f GT r1 (by rfl) (pa_cons (pv 0) (pa_cons pe_int pa_nil))) (fun _ _ => rfl)))
      (pss_cons (ps_set (i := 4) scWebL.nd rfl (.inr rfl) (pe_ix ix_list (pe_lst (pa_cons pe_int (pa_cons (pe_op op_sub (pe_op op_pow pe_int pe_int) pe_int) (pa_cons (pe_op op_mul (pe_f GT r1 (by rfl) (pa_cons (pv 0) (pa_cons pe_int pa_nil))) pe_int) pa_nil)))) (pe_f GT r1 (by rfl) (pa_cons (pv 0) (pa_cons pe_int pa_nil))) (fun _ _ => rfl)))
      (pss_cons (ps_set (i := 5) scWebL.nd rfl (.inl rfl) (pe_ix ix_list (pe_lst (pa_cons pe_int (pa_cons (pe_op op_sub (pe_op op_pow pe_int pe_int) pe_int) (pa_cons (pe_op op_add pe_int (pe_op op_mul (pe_f GT r1 (by rfl) (pa_cons (pv 0) (pa_cons pe_int pa_nil))) pe_int)) pa_nil)))) (pe_f GT r1 (by rfl) (pa_cons (pv 0) (pa_cons pe_int pa_nil))) (fun _ _ => rfl)))
      (pss_cons (ps_set (i := 6) scWebL.nd rfl (.inl rfl) (pe_lst (pa_cons (pe_lst (pa_cons pe_int (pa_cons (pv 5) pa_nil))) (pa_cons (pe_lst (pa_cons pe_int (pa_cons pe_int (pa_cons pe_int (pa_cons (pv 5) pa_nil)))))
          (pa_cons (pe_lst (pa_cons pe_int (pa_cons (pv 5) (pa_cons (pe_op op_add (pv 5) pe_int) pa_nil)))) (pa_cons (pe_lst (pa_cons (pv 5) (pa_cons (pe_op op_add (pv 5) pe_int) (pa_cons (pe_op op_add (pv 5) pe_int) pa_nil)))) pa_nil))))))
      (pss_cons (ps_set (i := 7) scWebL.nd rfl (.inl rfl) (pe_ix ix_list (pv 6) (pe_f GT r1 (by rfl) (pa_cons (pv 0) (pa_cons pe_int pa_nil))) (fun _ _ => rfl)))
      (pss_cons (ps_set (i := 8) scWebL.nd rfl (.inl rfl) (pe_f GO hr (by rfl) (pa_cons (pv 0) (pa_cons (pv 1) pa_nil))))
      (pss_cons (ps_setLc (i := 9) (own := [("_law_a", 12)]) (g := gName 12) (tt := tYes) (te := tOp (rI0 fun i j => .int (i + j)) (tVar 4) (tCall spTake [] E0 (tCons (tVar 0) (tCons (tVar 3) tNil)))) rfl scWebL.nd rfl rfl (sw_true rfl rfl rfl (by kernel_rfl)) (pi_range1 (by rfl) T.rng (pa_cons (pv 1) pa_nil)) (blkOk_by (by kernel_rfl))
          (fun _ _ _ _ _ => pg_name (i := 12) scWebL.nd rfl (.inl rfl)) (fun _ _ _ _ _ => pts_nil) (fun _ _ _ _ _ => pe_op op_add (pv 4) (pe_f GT r1 (by rfl) (pa_cons (pv 0) (pa_cons (pv 3) pa_nil)))))
      (pss_cons (ps_setLc (i := 10) (own := [("_law_a", 12)]) (g := gName 12) (tt := tYes) (te := tOp rRep (tLst (tCons (tC (.int 0)) tNil)) (tVar 1)) rfl scWebL.nd rfl rfl (sw_true rfl rfl rfl (by kernel_rfl)) (pi_range1 (by rfl) T.rng (pa_cons (pv 1) pa_nil)) (blkOk_by (by kernel_rfl))
          (fun _ _ _ _ _ => pg_name (i := 12) scWebL.nd rfl (.inl rfl)) (fun _ _ _ _ _ => pts_nil) (fun _ _ _ _ _ => pe_op op_rep (pe_lst (pa_cons pe_int pa_nil)) (pv 1)))
      (pss_cons (ps_if (pt_cmpR op_eq (pv 2) pe_int (nomark _)) (pss_one (ps_ret (pe_tup (pa_cons (pv 9) (pa_cons (pv 10) (pa_cons (pe_f GK hr (by rfl) (pa_cons (pv 0) (pa_cons (pv 8) (pa_cons (pv 7) (pa_cons (pv 9) (pa_cons (pv 10) pa_nil)))))) pa_nil)))))) pss_nil)
      (pss_cons (ps_if (pt_cmpR op_eq (pv 2) pe_int (nomark _)) (pss_one (ps_ret (pe_tup (pa_cons (pv 9) (pa_cons (pv 10) (pa_cons (pe_f GR hr (by rfl) (pa_cons (pv 0) (pa_cons (pv 8) (pa_cons (pe_ix ix_list (pv 7) (pe_un un_neg pe_int) (fun _ _ => rfl)) (pa_cons (pv 10) pa_nil))))) pa_nil)))))) pss_nil)
      (pss_cons (ps_set (i := 11) scWebL.nd rfl (.inl rfl) (pe_ix ix_list (pv 7) (pe_f GT r1 (by rfl) (pa_cons (pv 0) (pa_cons (pe_callB call_len_seq (by rfl) T.len PySem.boot_len (pa_cons (pv 7) pa_nil)) pa_nil))) (fun _ _ => rfl)))
      (pss_cons (ps_for PassesOwn.never rfl (pi_range1 (by rfl) T.rng (pa_cons (pv 1) pa_nil)) (pg_name (i := 12) scWebL.nd rfl (.inl rfl))
        (pss_one (ps_for PassesOwn.never rfl (pi_range1 (by rfl) T.rng (pa_cons (pv 1) pa_nil)) (pg_name (i := 13) scWebL.nd rfl (.inl rfl))
          (pss_one (ps_if (pt_cmpR op_ne (pv 12) (pv 13) (nomark _)) (pss_one (ps_asg (pe_ix ix_list (pe_lst (pa_cons (pe_ix ix_list (pv 7) (pe_f GT r1 (by rfl) (pa_cons (pv 0) (pa_cons (pe_callB call_len_seq (by rfl) T.len PySem.boot_len (pa_cons (pv 7) pa_nil)) pa_nil))) (fun _ _ => rfl)) (pa_cons (pv 11) pa_nil)))
              (pe_callTy call_int1 (by rfl) T.int PyProof.Rows.boot_int (pa_cons (pe_cmpR op_eq (pv 2) pe_int (nomark _)) pa_nil)) (fun _ _ => rfl)) (pg_sub (pe_ix ix_list (pv 10) (pv 12) (fun _ _ => rfl)) (pv 13) set_list))) pss_nil)))))
      (pss_one (ps_ret (pe_tup (pa_cons (pv 9) (pa_cons (pv 10) (pa_cons (pe_lc (own := [("_law_a", 12)]) (g := gName 12) (tt := tYes) (te := tOp (rIxL K) (tLst (tCons (tVar 12) (tCons (tC (.int 0)) tNil))) (tCB (fun xs H Q => (∃ i, xs = [.int i] ∧ Q (.int i) H) ∨ ∃ k, xs = [.bl k] ∧ Q (.int (if k then 1 else 0)) H) (tCons (tOp rEq (tVar 2) (tC (.int 3))) tNil)))
          rfl scWebL.nd (pi_range1 (by rfl) T.rng (pa_cons (pv 1) pa_nil)) (blkOk_by (by kernel_rfl)) (fun _ _ _ _ _ => pg_name (i := 12) scWebL.nd rfl (.inl rfl)) (fun _ _ _ _ _ => pts_nil)
          (fun _ _ _ _ _ => pe_ix ix_list (pe_lst (pa_cons (pv 12) (pa_cons pe_int pa_nil))) (pe_callTy call_int1 (by rfl) T.int PyProof.Rows.boot_int (pa_cons (pe_cmpR op_eq (pv 2) pe_int (nomark _)) pa_nil)) (fun _ _ => rfl))) pa_nil)))))))))))))))))), ?_⟩
    have tn : ((n : Int)).toNat = n := by omega
    -- choice, shades
    refine ⟨_, rfl, p, b, 4, rfl, dk, by omega, by omega, by omega, fun ch H1 hch b1 dk1 => ?_⟩
    refine ⟨by show 4 ≤ sizeLine; decide, fun o1 no1 => ?_⟩
    refine ⟨_, rfl, p, b + 1, 4, rfl, dk1.same (same_new no1), by omega, by omega, by omega, fun d2 H2 hd2 b2 dk2 => ?_⟩
    obtain ⟨_, o1p⟩ := nat_none b1 dk1 no1
    have ho1 := b2 _ _ o1p (show (upd H1 o1 (.lst [.int 1, .int 1, .int 2, .int 3])) o1 = _ from upd_same)
    have bb2 : But p H H2 := (b1.trans (But.same (same_new no1))).trans b2
    obtain ⟨vs2, evs, mvs⟩ := atN (xs := [V.int 1, .int 1, .int 2, .int 3]) (d := d2) hd2
    obtain ⟨sh, rfl, sh1, sh3⟩ : ∃ sh : Nat, vs2 = V.int (sh : Int) ∧ 1 ≤ sh ∧ sh ≤ 3 := by
      simp only [List.mem_cons, List.not_mem_nil, or_false] at mvs
      rcases mvs with rfl | rfl | rfl | rfl
      · exact ⟨1, rfl, by omega, by omega⟩
      · exact ⟨1, rfl, by omega, by omega⟩
      · exact ⟨2, rfl, by omega, by omega⟩
      · exact ⟨3, rfl, by omega, by omega⟩
    refine ⟨o1, _, _, _, rfl, rfl, SqL.of ho1, evs, ?_⟩
    -- first
    refine ⟨10, 9, rfl, rfl, ⟨by decide, by decide, by decide⟩, _, 2, rfl, rfl, _, rfl, p, b + 2, 30000, rfl, dk2, by omega, by omega, by omega, fun d3 H3 hd3 b3 dk3 => ?_⟩
    refine ⟨_, 30000, rfl, rfl, .inr ⟨by decide, by decide⟩, by show 3 ≤ sizeLine; decide, fun o2 no2 => ?_⟩
    refine ⟨_, rfl, p, b + 3, 3, rfl, dk3.same (same_new no2), by omega, by omega, by omega, fun d4 H4 hd4 b4 dk4 => ?_⟩
    obtain ⟨_, o2p⟩ := nat_none b3 dk3 no2
    have ho2 := b4 _ _ o2p (upd_same (H := H3) (a := o2))
    have bb4 : But p H H4 := ((bb2.trans b3).trans (But.same (same_new no2))).trans b4
    obtain ⟨vs4, evs4, mvs4⟩ := atN (xs := [V.int 0, V.int ((10 : Int) ^ (9 : Int).toNat - 2), V.int ((d3 : Int) * 30000)]) (d := d4) hd4
    obtain ⟨fi, rfl, fi0, fi1, fi2⟩ : ∃ fi : Int, vs4 = V.int fi ∧ 0 ≤ fi ∧ fi ≤ 999999998 ∧ (fi = 0 ∨ 30000 ≤ fi) := by
      have e9 : ((10 : Int) ^ (9 : Int).toNat) = 1000000000 := rfl
      rw [e9] at mvs4
      simp only [List.mem_cons, List.not_mem_nil, or_false] at mvs4
      rcases mvs4 with rfl | rfl | rfl
      · exact ⟨0, rfl, by omega, by omega, by omega⟩
      · exact ⟨_, rfl, by omega, by omega, by omega⟩
      · exact ⟨_, rfl, by omega, by omega, by omega⟩
    refine ⟨o2, _, _, _, rfl, rfl, SqL.of ho2, evs4, ?_⟩
    -- low
    refine ⟨10, 9, rfl, rfl, ⟨by decide, by decide, by decide⟩, _, 2, rfl, rfl, _, rfl, p, b + 4, 30000, rfl, dk4, by omega, by omega, by omega, fun d5 H5 hd5 b5 dk5 => ?_⟩
    refine ⟨_, 30000, rfl, rfl, .inr ⟨by decide, by decide⟩, 1, _, rfl, rfl, by show 3 ≤ sizeLine; decide, fun o3 no3 => ?_⟩
    refine ⟨_, rfl, p, b + 5, 3, rfl, dk5.same (same_new no3), by omega, by omega, by omega, fun d6 H6 hd6 b6 dk6 => ?_⟩
    obtain ⟨_, o3p⟩ := nat_none b5 dk5 no3
    have ho3 := b6 _ _ o3p (upd_same (H := H5) (a := o3))
    have bb6 : But p H H6 := ((bb4.trans b5).trans (But.same (same_new no3))).trans b6
    obtain ⟨vs6, evs6, mvs6⟩ := atN (xs := [V.int 1, V.int ((10 : Int) ^ (9 : Int).toNat - 2), V.int (1 + (d5 : Int) * 30000)]) (d := d6) hd6
    obtain ⟨lo, rfl, lo0, lo1⟩ : ∃ lo : Int, vs6 = V.int lo ∧ 1 ≤ lo ∧ lo ≤ 999999998 := by
      have e9 : ((10 : Int) ^ (9 : Int).toNat) = 1000000000 := rfl
      rw [e9] at mvs6
      simp only [List.mem_cons, List.not_mem_nil, or_false] at mvs6
      rcases mvs6 with rfl | rfl | rfl
      · exact ⟨1, rfl, by omega, by omega⟩
      · exact ⟨_, rfl, by omega, by omega⟩
      · exact ⟨_, rfl, by omega, by omega⟩
    refine ⟨o3, _, _, _, rfl, rfl, SqL.of ho3, evs6, ?_⟩
    -- menus
    refine ⟨_, rfl, by show 2 ≤ sizeLine; decide, fun m1 nm1 => ?_⟩
    refine ⟨_, rfl, by show 4 ≤ sizeLine; decide, fun m2 nm2 => ?_⟩
    refine ⟨_, rfl, _, rfl, lo, 1, rfl, rfl, by show 3 ≤ sizeLine; decide, fun m3 nm3 => ?_⟩
    refine ⟨_, rfl, _, rfl, lo, 1, rfl, rfl, _, rfl, lo, 2, rfl, rfl, by show 3 ≤ sizeLine; decide, fun m4 nm4 => ?_⟩
    refine ⟨by show 4 ≤ sizeLine; decide, fun ms nms => ?_⟩
    have t1 : Same H6 (upd H6 m1 (.lst [.int 0, .int lo])) := same_new nm1
    have t2 := same_new (o := .lst [.int 0, .int 0, .int 0, .int lo]) nm2
    have t3 := same_new (o := .lst [.int 0, .int lo, .int (lo + 1)]) nm3
    have t4 := same_new (o := .lst [.int lo, .int (lo + 1), .int (lo + 2)]) nm4
    have t5 := same_new (o := .lst [.ref m1, .ref m2, .ref m3, .ref m4]) nms
    have s67 := t1.trans (t2.trans (t3.trans (t4.trans t5)))
    have hm1 := (t2.trans (t3.trans (t4.trans t5))) _ _ (upd_same (H := H6) (a := m1) (o := .lst [.int 0, .int lo]))
    have hm2 := (t3.trans (t4.trans t5)) _ _ (upd_same (H := upd H6 m1 (.lst [.int 0, .int lo])) (a := m2) (o := .lst [.int 0, .int 0, .int 0, .int lo]))
    have hm3 := (t4.trans t5) _ _ (upd_same (a := m3) (o := .lst [.int 0, .int lo, .int (lo + 1)]))
    have hm4 := t5 _ _ (upd_same (a := m4) (o := .lst [.int lo, .int (lo + 1), .int (lo + 2)]))
    have hms := upd_same (H := (upd (upd (upd (upd H6 m1 (.lst [.int 0, .int lo])) m2 (.lst [.int 0, .int 0, .int 0, .int lo])) m3 (.lst [.int 0, .int lo, .int (lo + 1)])) m4 (.lst [.int lo, .int (lo + 1), .int (lo + 2)]))) (a := ms) (o := .lst [.ref m1, .ref m2, .ref m3, .ref m4])
    have dk7 := dk6.same s67
    have bb7 := bb6.trans (But.same s67)
    generalize (upd (upd (upd (upd (upd H6 m1 (.lst [.int 0, .int lo])) m2 (.lst [.int 0, .int 0, .int 0, .int lo])) m3 (.lst [.int 0, .int lo, .int (lo + 1)])) m4 (.lst [.int lo, .int (lo + 1), .int (lo + 2)])) ms (.lst [.ref m1, .ref m2, .ref m3, .ref m4])) = H7 at s67 hm1 hm2 hm3 hm4 hms dk7 bb7
    have offp : ∀ {x : Addr}, H6 x = none → x ≠ p := fun {x} h => dk6.ne h
    have nH6 : ∀ {x : Addr} {H' : Hp}, Same H6 H' → H' x = none → H6 x = none := fun {x H'} s h => by
      cases e : H6 x with
      | none => rfl
      | some y => rw [s _ _ e] at h; cases h
    have m1p : m1 ≠ p := offp nm1
    have m2p : m2 ≠ p := offp (nH6 t1 nm2)
    have m3p : m3 ≠ p := offp (nH6 (t1.trans t2) nm3)
    have m4p : m4 ≠ p := offp (nH6 (t1.trans (t2.trans t3)) nm4)
    have msp : ms ≠ p := offp (nH6 (t1.trans (t2.trans (t3.trans t4))) nms)
    -- menu
    refine ⟨.ref ms, rfl, _, rfl, p, b + 6, 4, rfl, dk7, by omega, by omega, by omega, fun d8 H8 hd8 b8' dk8 => ?_⟩
    obtain ⟨vm, evm, mvm⟩ := atN (xs := [V.ref m1, V.ref m2, V.ref m3, V.ref m4]) (d := d8) hd8
    obtain ⟨mn, menu, rfl, hmn, mnp, men⟩ : ∃ (mn : Addr) (menu : List Int), vm = V.ref mn ∧ H8 mn = some (.lst (IntsV menu)) ∧ mn ≠ p ∧ Menu menu := by
      simp only [List.mem_cons, List.not_mem_nil, or_false] at mvm
      rcases mvm with rfl | rfl | rfl | rfl
      · exact ⟨m1, [0, lo], rfl, b8' _ _ m1p hm1, m1p, by simp, by simp, fun v hv => by simp only [List.mem_cons, List.not_mem_nil, or_false] at hv; omega⟩
      · exact ⟨m2, [0, 0, 0, lo], rfl, b8' _ _ m2p hm2, m2p, by simp, by simp, fun v hv => by simp only [List.mem_cons, List.not_mem_nil, or_false] at hv; omega⟩
      · exact ⟨m3, [0, lo, lo + 1], rfl, b8' _ _ m3p hm3, m3p, by simp, by simp, fun v hv => by simp only [List.mem_cons, List.not_mem_nil, or_false] at hv; omega⟩
      · exact ⟨m4, [lo, lo + 1, lo + 2], rfl, b8' _ _ m4p hm4, m4p, by simp, by simp, fun v hv => by simp only [List.mem_cons, List.not_mem_nil, or_false] at hv; omega⟩
    have bb8 := bb7.trans b8'
    refine ⟨ms, _, _, _, rfl, rfl, SqL.of (b8' _ _ msp hms), evm, ?_⟩
    clear hm1 hm2 hm3 hm4 hms s67 t1 t2 t3 t4 t5
    -- the order
    refine ⟨_, rfl, _, rfl, p, b + 7, n, rfl, dk8, by omega, n5, fun od l H9 b9 dk9 pm nod hod => ?_⟩
    obtain ⟨_, odp⟩ := nat_none (But.same same_refl) dk8 nod
    have hmn9 := b9 _ _ mnp hmn
    have odmn : od ≠ mn := fun e => by rw [e, hmn] at nod; cases nod
    have bb9 := bb8.trans b9
    -- the colours
    refine ⟨_, rfl, n, rfl, by omega, by omega, fun cl ncl => ?_⟩
    obtain ⟨cl0, clp⟩ := nat_none bb9 dk9 ncl
    have clod : cl ≠ od := fun e => by rw [e, hod] at ncl; cases ncl
    have clmn : cl ≠ mn := fun e => by rw [e, hmn9] at ncl; cases ncl
    refine lc_it (walk_range (lo := 0) (n := ((n : Int)).toNat)) (fun i H' => But p H9 H' ∧ Deck H' p (b + 7 + n + i) ∧ ∃ acc, H' cl = some (.lst (IntsV acc)) ∧ acc.length = i ∧ ∀ c, c ∈ acc → PcW c)
      ⟨But.same (same_new ncl), dk9.same (same_new ncl), [], upd_same, rfl, fun c hc => by cases hc⟩ (fun _ _ _ _ => trivial) ?_ ?_
    · rintro i x H' H'' hi ⟨c1, c2, acc, c3, c4, c5⟩ ⟨rfl, ex⟩
      rw [tn] at hi
      refine ⟨rfl, tyes ⟨_, rfl, _, rfl, _, rfl, p, b + 7 + n + i, sh, rfl, c2, by omega, by omega, by omega, fun d Ha hd ba dka => ⟨fi, d, rfl, rfl, IntsV acc, ba _ _ clp c3, ?_, ?_, ?_, acc ++ [fi + d], ?_, ?_, ?_⟩⟩⟩
      · rw [List.length_map, sizeLine_eq]
        omega
      · exact fun y z ny hy => by
          have := ba _ _ ny (c1 _ _ ny hy)
          rw [upd_ne (fun e => by rw [e, ncl] at hy; cases hy)]
          exact this
      · exact dka.but clp.symm But.upd
      · rw [upd_same]
        unfold IntsV
        rw [List.map_append]
        rfl
      · rw [List.length_append, c4]
        rfl
      · intro c hc
        rcases List.mem_append.mp hc with hc | hc
        · exact c5 c hc
        · rw [List.mem_singleton.mp hc]
          exact ⟨by omega, by omega, by omega⟩
    rintro H10 ⟨b10, dk10, cs, hcl, lcs, pcs⟩
    rw [tn] at lcs dk10
    have bb10 := bb9.trans b10
    have hod10 := b10 _ _ odp hod
    have hmn10 := b10 _ _ mnp hmn9
    -- the marks
    refine ⟨_, rfl, n, rfl, by omega, by omega, fun mk nmk => ?_⟩
    obtain ⟨mk0, mkp⟩ := nat_none bb10 dk10 nmk
    refine lc_it (walk_range (lo := 0) (n := ((n : Int)).toNat)) (fun i H' => Same H10 H' ∧ ∃ rs : List Addr, H' mk = some (.lst (rs.map V.ref)) ∧ rs.length = i ∧ rs.Nodup ∧ ∀ r, r ∈ rs → r ≠ mk ∧ H10 r = none ∧ H' r = some (.lst ((List.range n).map fun _ => V.int 0)))
      ⟨same_new nmk, [], upd_same, rfl, List.nodup_nil, fun r hr => by cases hr⟩ (fun _ _ _ _ => trivial) ?_ ?_
    · rintro i x H' H'' hi ⟨c1, rs, c3, c4, c5, c6⟩ ⟨rfl, ex⟩
      rw [tn] at hi
      refine ⟨rfl, tyes ⟨by show 1 ≤ sizeLine; decide, fun o no => ⟨_, rfl, o, n, _, rfl, rfl, upd_same, by omega, by omega, ?_, fun r nr => ?_⟩⟩⟩
      · rw [tn, sizeLine_eq]
        simp only [List.length_cons, List.length_nil]
        omega
      · have u1 : Same H'' (upd H'' o (.lst [.int 0])) := same_new no
        have u2 := u1.trans (same_new (o := .lst (List.replicate ((n : Int)).toNat [V.int 0]).flatten) nr)
        have hmk' := u2 _ _ c3
        have nr'' : H'' r = none := by
          cases e : H'' r with
          | none => rfl
          | some y => rw [u1 _ _ e] at nr; cases nr
        have rmk : r ≠ mk := fun e => by rw [e, c3] at nr''; cases nr''
        have nr10 : H10 r = none := by
          cases e : H10 r with
          | none => rfl
          | some y => rw [c1 _ _ e] at nr''; cases nr''
        refine ⟨rs.map V.ref, hmk', ?_, same_at (c1.trans u2) nmk, rs ++ [r], ?_, ?_, ?_, fun r' hr' => ?_⟩
        · rw [List.length_map, sizeLine_eq]
          omega
        · rw [upd_same, List.map_append]
          rfl
        · rw [List.length_append, c4]
          rfl
        · exact List.nodup_append.mpr ⟨c5, by simp, fun x hx y hy e => by
            rw [List.mem_singleton.mp hy] at e
            have := (c6 x hx).2.2
            rw [e, nr''] at this
            cases this⟩
        · rcases List.mem_append.mp hr' with h | h
          · obtain ⟨w1, w2, w3⟩ := c6 r' h
            refine ⟨w1, w2, ?_⟩
            rw [upd_ne w1]
            exact u2 _ _ w3
          · rw [List.mem_singleton.mp h]
            refine ⟨rmk, nr10, ?_⟩
            rw [upd_ne rmk, upd_same, tn, rep_range]
    rintro H11 ⟨s11, rs, hmk, lrs, ndr, rsf⟩
    rw [tn] at lrs
    have dk11 := dk10.same s11
    have bb11 := bb10.trans (But.same s11)
    have hod11 := s11 _ _ hod10
    have hmn11 := s11 _ _ hmn10
    have hcl11 := s11 _ _ hcl
    have cols11 : ColsAt H11 cl n PcW := ⟨cs, hcl11, lcs, pcs⟩
    have marks11 : MarksAt H11 mk rs n fun _ _ => 0 := ⟨hmk, lrs, fun i r hr => (rsf r (List.mem_of_getElem? hr)).2.2⟩
    have okm11 : OkM n fun _ _ => 0 := fun i j _ _ => ⟨Int.le_refl 0, by show (0 : Int) ≤ 1000000000; decide, fun _ => rfl⟩
    have rnone : ∀ r, r ∈ rs → H r = none := fun r hr => (nat_none bb10 dk10 (rsf r hr).2.1).1
    have in10 : ∀ {x y}, H10 x = some y → x ∉ mk :: rs := fun {x y} h hx => by
      rcases List.mem_cons.mp hx with rfl | hx
      · rw [nmk] at h; cases h
      · rw [(rsf x hx).2.1] at h; cases h
    have clO : cl ∉ mk :: rs := in10 hcl
    have ndk : (mk :: rs).Nodup := List.nodup_cons.mpr ⟨fun h => (rsf mk h).1 rfl, ndr⟩
    have pO : p ∉ mk :: rs := by
      obtain ⟨acc, h⟩ := dk10.lst
      exact in10 h
    have toBut : ∀ {H'}, Fr (p :: cl :: rs) H11 H' → But p H H' := fun {H'} f x y nx hx => f _ _ (fun h => by
      rcases List.mem_cons.mp h with e | h
      · exact nx e
      · rcases List.mem_cons.mp h with e | h
        · rw [e, cl0] at hx; cases hx
        · rw [rnone x h] at hx; cases hx) (bb11 _ _ nx hx)
    have lm : 0 < menu.length := List.length_pos_iff.mpr men.ne
    -- kept
    refine ⟨_, rfl, rfl, _, rfl, ite2 (fun _ => ?_) fun _ => ?_⟩
    · refine ⟨_, rfl, _, rfl, _, rfl, _, rfl, _, rfl, _, rfl, _, rfl, p, od, mn, cl, mk, b + 7 + n + n, n, l, menu, PcW, rs, _, rfl, dk11, by omega, n5, hod11, pm, hmn11, men.ne, men.len, men.ok, cols11, marks11, okm11, ?_, fun v M' H' fr dk' cols' marks' okm' => ?_⟩
      · refine List.nodup_cons.mpr ⟨fun h => ?_, List.nodup_cons.mpr ⟨fun h => ?_, List.nodup_cons.mpr ⟨fun h => ?_, List.nodup_cons.mpr ⟨clO, ndk⟩⟩⟩⟩
        · rcases List.mem_cons.mp h with e | h
          · exact odp e.symm
          · rcases List.mem_cons.mp h with e | h
            · exact mnp e.symm
            · rcases List.mem_cons.mp h with e | h
              · exact clp e.symm
              · exact pO h
        · rcases List.mem_cons.mp h with e | h
          · exact odmn e
          · rcases List.mem_cons.mp h with e | h
            · exact clod e.symm
            · exact in10 hod10 h
        · rcases List.mem_cons.mp h with e | h
          · exact clmn e.symm
          · exact in10 hmn10 h
      · refine ⟨by show 3 ≤ sizeLine; decide, fun t nt => ?_⟩
        have st : Same H' (upd H' t (.tup [.ref cl, .ref mk, v])) := same_new nt
        obtain ⟨cs', w1, w2⟩ := cols'
        exact q t cl mk v rs M' _ ((toBut fr).trans (But.same st)) upd_same ⟨cs', st _ _ w1, w2⟩ (marks'.fr fun x _ y e => st _ _ e) okm' clO
    -- rings
    refine ⟨_, rfl, rfl, _, rfl, ite2 (fun _ => ?_) fun _ => ?_⟩
    · obtain ⟨lastm, elast⟩ : ∃ v, menu.getLast? = some v := ⟨_, List.getLast?_eq_some_getLast men.ne⟩
      have mlast : lastm ∈ menu := List.mem_of_getLast? elast
      have atl : atI (IntsV menu) (-1) = some (.int lastm) := by
        obtain ⟨ini, e⟩ := List.getLast?_eq_some_iff.mp elast
        rw [e]
        unfold IntsV
        rw [List.map_append]
        exact atI_last _ _
      have lok := men.ok _ mlast
      refine ⟨_, rfl, _, rfl, _, rfl, _, rfl, .ref mn, rfl, 1, rfl, mn, _, -1, _, rfl, rfl, SqL.of hmn11, atl, _, rfl, p, od, mk, b + 7 + n + n, n, l, lastm, rs, _, rfl, dk11, by omega, n5, hod11, pm, lok.1, lok.2, marks11, okm11, ?_, fun v M' H' fr dk' marks' okm' => ?_⟩
      · refine List.nodup_cons.mpr ⟨fun h => ?_, List.nodup_cons.mpr ⟨in10 hod10, ndk⟩⟩
        rcases List.mem_cons.mp h with e | h
        · exact odp e.symm
        · exact pO h
      · refine ⟨by show 3 ≤ sizeLine; decide, fun t nt => ?_⟩
        have st : Same H' (upd H' t (.tup [.ref cl, .ref mk, v])) := same_new nt
        have fr' : Fr (p :: cl :: rs) H11 H' := fr.sub fun x hx => by
          rcases List.mem_cons.mp hx with e | hx
          · rw [e]; simp
          · simp [hx]
        have hcl' : H' cl = some (.lst (IntsV cs)) := fr _ _ (fun h => by
          rcases List.mem_cons.mp h with e | h
          · exact clp e
          · exact clO (List.mem_cons_of_mem _ h)) hcl11
        exact q t cl mk v rs M' _ ((toBut fr').trans (But.same st)) upd_same ⟨cs, st _ _ hcl', lcs, pcs⟩ (marks'.fr fun x _ y e => st _ _ e) okm' clO
    -- any, all alike
    refine ⟨.ref mn, rfl, _, rfl, .ref mn, rfl, mn, _, rfl, .inl (SqL.of hmn11), p, b + 7 + n + n, menu.length, by rw [List.length_map]; rfl, dk11, by omega, lm, by have := men.len; omega, fun d12 H12 hd12 b12 dk12 => ?_⟩
    obtain ⟨mm, emm, memm⟩ := ints_at (l := menu) hd12
    have hmn12 := b12 _ _ mnp hmn11
    refine ⟨mn, _, _, _, rfl, rfl, SqL.of hmn12, emm, ?_⟩
    let GS : Hp → Nat → Prop := fun H' b' => Fr (p :: rs) H11 H' ∧ Deck H' p b' ∧ ∃ M', MarksAt H' mk rs n M' ∧ OkM n M'
    have g12 : GS H12 (b + 20) := ⟨Fr.but (by simp) b12, dk12.more (by omega), _, marks11.fr fun x hx y e => b12 _ _ (fun z => pO (z ▸ hx)) e, okm11⟩
    have mnO : mn ∉ p :: rs := fun h => by
      rcases List.mem_cons.mp h with e | h
      · exact mnp e
      · exact in10 hmn10 (List.mem_cons_of_mem _ h)
    have GSsame : ∀ {H' H'' b'}, GS H' b' → Same H' H'' → GS H'' b' := fun {H' H'' b'} g s => by
      obtain ⟨g1, g2, M', g3, g4⟩ := g
      exact ⟨g1.trans (Fr.same s), g2.same s, M', g3.fr fun x hx y e => s _ _ e, g4⟩
    have two : ∀ (k : Bool) (v1 v2 : Int), atI [V.int v1, V.int v2] (if k then 1 else 0) = some (.int (if k then v2 else v1)) := fun k v1 v2 => by
      cases k
      · exact atI_nat (j := 0) rfl
      · exact atI_nat (j := 1) rfl
    refine ⟨_, rfl, n, rfl, by omega, by omega, ?_⟩
    refine for_it (walk_range (lo := 0) (n := ((n : Int)).toNat)) (fun i σ H' => (∃ y12 y13, σ = [some (.ref p), some (.int n), some (.int ch), some (.int sh), some (.int fi), some (.int lo), some (.ref ms), some (.ref mn), some (.ref od), some (.ref cl), some (.ref mk), some (.int mm), y12, y13]) ∧ GS H' (b + 20 + n * i)) ⟨⟨_, _, rfl⟩, g12⟩ (fun _ _ _ _ _ => trivial) ?_ ?_
    · rintro a x σ H3 H3' ha ⟨⟨y12, y13, rfl⟩, g3⟩ ⟨rfl, ex⟩
      replace ex := rg0 ex
      subst ex
      rw [tn] at ha
      refine ⟨_, rfl, n, rfl, by omega, by omega, ?_⟩
      refine for_it (walk_range (lo := 0) (n := ((n : Int)).toNat)) (fun i σ H' => (∃ y13, σ = [some (.ref p), some (.int n), some (.int ch), some (.int sh), some (.int fi), some (.int lo), some (.ref ms), some (.ref mn), some (.ref od), some (.ref cl), some (.ref mk), some (.int mm), some (.int (a : Nat)), y13]) ∧ GS H' (b + 20 + n * a + i)) ⟨⟨_, rfl⟩, g3⟩ (fun _ _ _ _ _ => trivial) ?_ ?_
      · rintro c x σ H4 H4' hc ⟨⟨z13, rfl⟩, g4⟩ ⟨rfl, ex⟩
        replace ex := rg0 ex
        subst ex
        rw [tn] at hc
        refine ⟨_, rfl, _, rfl, rfl, _, rfl, ite2 (fun e => ?_) fun _ => ?_⟩
        · have ne : a ≠ c := fun z => by
            rw [z, decide_eq_true rfl] at e
            cases e
          have hmn4 := g4.1 _ _ mnO hmn11
          have bnd : b + 20 + n * a + c ≤ 1000000 := by
            have : n * a ≤ 5 * 5 := Nat.mul_le_mul n5 (by omega)
            omega
          refine ⟨.ref mn, rfl, _, rfl, .ref mn, rfl, mn, _, rfl, .inl (SqL.of hmn4), p, b + 20 + n * a + c, menu.length, by rw [List.length_map]; rfl, g4.2.1, bnd, lm, by have := men.len; omega, fun d H5 hd b5 dk5 => ?_⟩
          obtain ⟨vv, evv, mvv⟩ := ints_at (l := menu) hd
          refine ⟨mn, _, _, _, rfl, rfl, SqL.of (b5 _ _ mnp hmn4), evv, _, rfl, by show 2 ≤ sizeLine; decide, fun o no => ?_⟩
          have g5 : GS H5 (b + 20 + n * a + c + 1) := by
            obtain ⟨w1, _, M', w3, w4⟩ := g4
            exact ⟨w1.trans (Fr.but (by simp) b5), dk5, M', w3.fr fun x hx y e => b5 _ _ (fun z => pO (z ▸ hx)) e, w4⟩
          have g6 := GSsame g5 (same_new (o := .lst [V.int vv, V.int mm]) no)
          refine ⟨_, rfl, rfl, .inr ⟨_, rfl, o, _, _, _, rfl, rfl, SqL.of upd_same, two _ _ _, ?_⟩⟩
          generalize upd H5 o (.lst [V.int vv, V.int mm]) = H6 at g6
          obtain ⟨w1, w2, M6, mk6, ok6⟩ := id g6
          obtain ⟨r, hr6⟩ : ∃ r, rs[a]? = some r := ⟨_, List.getElem?_eq_getElem (by omega)⟩
          refine ⟨.ref mk, rfl, _, rfl, mk, _, _, .ref r, rfl, rfl, SqL.of mk6.top, refs_at hr6, _, rfl, r, _, _, c, rfl, rfl, mk6.row _ _ hr6, by rw [List.length_map, List.length_range]; exact ixN_nat hc, ⟨_, rfl⟩, ?_⟩
          have vok := men.ok _ mvv
          have mok := men.ok _ memm
          have rp : r ≠ p := fun z => pO (z ▸ List.mem_cons_of_mem _ (List.mem_of_getElem? hr6))
          exact ⟨w1.trans (Fr.but (List.mem_cons_of_mem _ (List.mem_of_getElem? hr6)) But.upd), w2.but rp.symm But.upd, _, mk6.put ndk hr6 hc _, ok6.put ne (by split <;> omega) (by split <;> omega)⟩
        · obtain ⟨w1, w2, w3⟩ := g4
          exact ⟨⟨_, rfl⟩, w1, w2.more (by omega), w3⟩
      · rintro σ H4 ⟨⟨z13, rfl⟩, g4⟩
        rw [tn] at g4
        exact ⟨⟨_, _, rfl⟩, by rw [Nat.mul_succ, ← Nat.add_assoc]; exact g4⟩
    · rintro σ H3 ⟨⟨y12, y13, rfl⟩, g3⟩
      rw [tn] at g3
      refine ⟨_, rfl, _, rfl, _, rfl, n, rfl, by omega, by omega, fun D nD => ?_⟩
      refine lcP (walk_range (lo := 0) (n := ((n : Int)).toNat)) (src := List.range n) (by rw [List.length_range, tn]) (sel := fun _ => true) (val := fun i => i) (Rel := fun _ _ _ => True) nD (fun _ _ _ _ _ _ t => t) (fun _ _ => trivial)
        (fun i H1 x H1' y => by obtain ⟨rfl, _⟩ := y; exact same_refl) (by omega) ?_ ?_
      · rintro i i' x H4 H4' N Kv hi' s4 ⟨rfl, ex⟩ s4' _ _ hK
        replace ex := rg0 ex
        subst ex
        refine ⟨rfl, tyes ⟨_, rfl, by show 2 ≤ sizeLine; decide, fun o no => ⟨_, rfl, rfl, .inr ⟨_, rfl, o, _, _, _, rfl, rfl, SqL.of upd_same, two _ _ _, ?_⟩⟩⟩⟩
        exact hK _ _ rfl (same_new no) trivial
      · intro H4 zs s4 _ _
        obtain ⟨w1, w2, M', w3, w4⟩ := GSsame g3 s4
        refine ⟨by show 3 ≤ sizeLine; decide, fun t nt => ?_⟩
        have st : Same H4 (upd H4 t (.tup [.ref cl, .ref mk, .ref D])) := same_new nt
        have fr' : Fr (p :: cl :: rs) H11 H4 := w1.sub fun x hx => by
          rcases List.mem_cons.mp hx with e | hx
          · rw [e]; simp
          · simp [hx]
        have hcl' : H4 cl = some (.lst (IntsV cs)) := w1 _ _ (fun h => by
          rcases List.mem_cons.mp h with e | h
          · exact clp e
          · exact clO (List.mem_cons_of_mem _ h)) hcl11
        exact q t cl mk (.ref D) rs M' _ ((toBut fr').trans (But.same st)) upd_same ⟨cs, st _ _ hcl', lcs, pcs⟩ (w3.fr fun x _ y e => st _ _ e) w4 clO
end
end LK
set_option autoImplicit false
set_option linter.all false
set_option maxRecDepth 100000
set_option synthInstance.maxSize 1000
set_option Elab.async false
namespace LK
open PySem PySem.Spec L2
/-! ### a tuple that was just made of numbers, with what its object is -/
structure TupX0 (l : Addr) (ns : List Nat) (h : Heap) : Prop where
  ex : ∃ (vs : List Value) (n : Nat) (sl : Array (Option Value)), h.get? l = some { cls := .type "tuple", dict := none, data := .seq vs.toArray n, slots := sl } ∧ Vals (NatsV ns) vs
def TupX (l : Addr) (ns : List Nat) : HO := .ext fun h => TupX0 l ns h
theorem tupX_ok {P : Program} {w : World} {H : Hp} {h : Heap} {l : Addr} {ns : List Nat} (R : TupX0 l ns h) : ObjOk P w H h l (TupX l ns) := by
  have ⟨vs, n, sl, ho, r⟩ := R
  refine ⟨R, ⟨_, ho⟩, fun h1 h2 p k => ?_⟩
  have ⟨vs', n', sl', ho', r'⟩ := TupX0.ex p
  exact ⟨vs', n', sl', k _ ho', r'⟩
section
variable {X : Cx}
def rTupX (K : PySem.W.Frag) : List V → Hp → VK → Prop := fun xs H Q => ∃ (p : Addr) (ns : List Nat), xs = [V.ref p] ∧ SqL K H p (NatsV ns) ∧ ∀ l, H l = none → Q (.ref l) (upd H l (TupX l ns))
theorem cr_tupX : CallR X (.type "tuple") (rTupX X.K) := by
  intro pins s σ H xs us Q I r h
  obtain ⟨p, ns, rfl, hq, q⟩ := h
  rw [Vals.ref1 r]
  obtain ⟨its, r', pl, hz⟩ := I.list hq
  have hlen := r'.length
  refine call_tuple_list pl.isList (fun h' kp => ?_) (by simp only [List.size_toArray]; omega)
  have I1 : Inv X pins σ H { s with heap := h' } := I.kept (t' := s.toks) kp
  have I2 : Inv X pins σ (upd H h'.objs.size (TupX h'.objs.size ns)) { s with heap := h'.push { cls := .type "tuple", data := .seq its.toArray } } :=
    I1.laid (t' := s.toks) (fun b o e => Heap.get?_push_of_some _ e) (Nat.le_refl _) (tupX_ok ⟨its, 0, _, Heap.get?_push_size _ rfl, r'⟩)
  exact ⟨.ref h'.objs.size, _, I2, rfl, q _ (I1.hok.fresh (Nat.le_refl _))⟩
def rLenX : List V → Hp → VK → Prop := fun xs H Q => ∃ (a : Addr) (ns : List Nat), xs = [V.ref a] ∧ H a = some (TupX a ns) ∧ ns.length ≤ 1000 ∧ Q (.int ns.length) H
theorem cr_lenX : CallR X (.builtin "len") rLenX := by
  intro pins s σ H xs us Q I r h
  obtain ⟨a, ns, rfl, ha, l1, q⟩ := h
  rw [Vals.ref1 r]
  obtain ⟨vs, n, sl, ho, rv⟩ := ((I.hok a _ ha).1 : TupX0 a ns s.heap).ex
  have hlen := rv.length
  rw [List.length_map] at hlen
  exact PyProof.Rows.len_tuple (show s.heap.IsTuple a vs.toArray from ⟨_, ho, rfl, n, rfl⟩) (by simp only [List.size_toArray]; omega) ⟨.int ns.length, H, I.tok _, ⟨s.toks + 1, by rw [List.size_toArray, hlen]⟩, q⟩
def tIndexX (to te : TE) : TE := fun σ H Q => to σ H fun x H1 => (∃ (a : Addr) (ns : List Nat), x = V.ref a ∧ H1 a = some (TupX a ns)) ∧ te σ H1 fun y H2 => ∃ (a : Addr) (ns : List Nat) (k j : Nat), x = V.ref a ∧ H2 a = some (TupX a ns) ∧ y = .int (k : Int) ∧ ns[j]? = some k ∧ (∀ m, m < j → ns[m]? ≠ some k) ∧ Q (.int (j : Int)) H2
theorem pe_indexX {o e : Expr} {to te : TE} {apos cpos : Pos} (ho : PE X o to) (he : PE X e te)
    (hbase : attributeBase o "index" X.env (eval o X.env) = eval o X.env := by rfl)
    (hfew : ((backTo cpos (starEach [e] X.env)).all (fun x => !x.1) && (backToKw cpos (keywordEach [] X.env)).all (fun x => x.1.isSome)
      && decide (([e] : List Expr).length + ([] : List Keyword).length + (if ([] : List Keyword).isEmpty then 0 else 1) < 30)) = true := by rfl)
    (hline : (apos.endLine == cpos.line) = true := by rfl) (hs : starEach [e] X.env = (false, eval e X.env) :: starEach [] X.env := by rfl) :
    PE X (.Call (.Attribute o "index" apos) [e] [] cpos) (tIndexX to te) := by
  refine ⟨fun pins s σ H Q I h => ?_⟩
  refine wpAny_Call_method_late hbase hfew hline rfl (thn (ho.run pins s σ H _ I h) fun v s1 ⟨x, H1, I1, r1, ty, q1⟩ => ?_)
  obtain ⟨a, ns, rfl, ha⟩ := ty
  obtain ⟨vs, n, sl, hob, rv⟩ := ((I1.hok a _ ha).1 : TupX0 a ns s1.heap).ex
  cases r1
  refine ⟨"tuple", "tuple.index", PySem.F.plainAttrs_tuple, PySem.F.slot_tuple_index, PySem.F.type_tuple_index, ⟨_, hob, rfl⟩, fun b hb => ?_, ?_⟩
  · cases hb
    exact ⟨_, hob, rfl⟩
  rw [hs]
  refine Calls.callWith_builtin rfl (Calls.evalArgs_plain (Calls.spliced_cons (thn (he.run pins s1 σ H1 _ I1 q1) fun iv s2 ⟨y, H2, I2, ry, q2⟩ => Calls.spliced_nil ?_)))
  obtain ⟨a', ns', k, j, e1, ha2, rfl, hj, hno, q⟩ := q2
  cases e1
  obtain ⟨vs2, n2, sl2, ho2, rv2⟩ := ((I2.hok a _ ha2).1 : TupX0 a ns' s2.heap).ex
  obtain ⟨tk, rfl⟩ := ry
  have hlen := rv2.length
  rw [List.length_map] at hlen
  obtain ⟨hjl, ej⟩ := List.getElem?_eq_some_iff.mp hj
  have val : ∀ (m : Nat) (hm : m < vs2.toArray.size), ∃ t, vs2.toArray[m] = .int ((ns'.getD m 0 : Nat) : Int) t := fun m hm => by
    have hm' : m < ns'.length := by rw [List.size_toArray] at hm; omega
    have hx : (NatsV ns')[m]? = some (.int (ns'[m] : Nat)) := by rw [List.getElem?_map, List.getElem?_eq_getElem hm']; rfl
    obtain ⟨u, hu, t, rfl⟩ := rv2.get hx
    refine ⟨t, ?_⟩
    obtain ⟨h1, h2⟩ := List.getElem?_eq_some_iff.mp hu
    rw [List.getElem_toArray, h2, List.getD_eq_getElem?_getD, List.getElem?_eq_getElem hm']
    rfl
  refine call_meets PySem.F.slot_tuple_index ⟨_, ho2, rfl⟩ PySem.F.entry_tuple_index (PySem.F.args_tuple_index_2 _ _) (PySem.SeqAt.tuple_index2_found a vs2.toArray n2 none sl2 (.int (k : Int) tk) (fun m => ((ns'.getD m 0 : Nat) : Int) == (k : Int)) j (by rw [List.size_toArray]; omega) (Nat.zero_le _) (by rw [List.size_toArray]; omega) ?_ fun m hm _ hmj => ?_) ⟨ho2, fun m hm => ?_, ?_⟩
  · show (((ns'.getD j 0 : Nat) : Int) == (k : Int)) = true
    rw [List.getD_eq_getElem?_getD, hj]
    exact beq_self_eq_true _
  · rw [beq_eq_false_iff_ne]
    intro e
    have hm' : m < ns'.length := by rw [List.size_toArray] at hm; omega
    refine hno m hmj ?_
    rw [List.getD_eq_getElem?_getD, List.getElem?_eq_getElem hm'] at e
    rw [List.getElem?_eq_getElem hm']
    exact congrArg some (Int.ofNat.inj e)
  · obtain ⟨t, e⟩ := val m hm
    rw [e]
    exact PySem.SeqAt.EqAt.int_int _ _ _ _
  · exact ⟨.int (j : Int), H2, I2.tok _, ⟨_, rfl⟩, q⟩
end
end LK
set_option autoImplicit false
set_option linter.all false
set_option maxRecDepth 100000
set_option synthInstance.maxSize 1000
set_option Elab.async false
namespace LK
open PySem PySem.Spec L2
section
variable {P : Program} {w : World} {K : PySem.W.Frag} {mg : Str → Option Value} {base : Heap} {C : Addr}
/-! #### naming_by -/
theorem scNam : FnScope ["stand", "naming", "at", "cell"] ["stand"] (defScope sF_naming_by) := ⟨rfl, rfl, rfl, by decide +kernel, rfl, by decide +kernel, by decide +kernel⟩
def spNam : Sp := fun vs H Q _ => ∃ (v : V) (s : LW.Stand) (n : Nat), vs = [v] ∧ Tl eSt H v s ∧ LW.Part n s ∧ n ≤ 5 ∧ LW.Disc s ∧ ∀ u H', Same H H' → H' u = some (TupX u (LW.nam n s)) → Q (.ref u) H'
def namI (n : Nat) (s : LW.Stand) (i : Nat) : List Nat := (List.range n).map fun x => if LW.cellOf s x < i then LW.cellOf s x else 0
theorem ok_nam {f : Addr} {fd : FuncData} (T : Tx K mg C) (F : FN K "naming_by" sF_naming_by f fd) (GT : Gf P w K mg base 1 "target" ["stand"] spTgt) : FnOk P w K mg base CX0 2 f fd ["stand"] spNam := by
  refine FDok F scNam (fun vs H Q E h => ?_) (fun cdv A outer s H vs Q E hr h => ?_)
  · obtain ⟨v, s, n, rfl, _⟩ := h
    rfl
  · obtain ⟨v, s, n, rfl, hv, hP, n5, hd, q⟩ := h
    obtain ⟨b, xs, rfl, hb, hts⟩ := tl_row.mp hv
    have lxs := hts.len
    have ls : s.length = n := by
      have := LW.ord_len hP hd
      rwa [LW.ord, List.length_map] at this
    refine ⟨_, pss_cons (ps_if (pt_cmpR op_ne (pe_f GT hr (by rfl) (pa_cons (pv 0) pa_nil)) (pe_un un_neg pe_int) (nomark _)) (pss_one ps_never) pss_nil)
      (pss_cons (ps_set (i := 1) scNam.nd rfl (.inl rfl) (pe_op op_rep (pe_lst (pa_cons pe_int pa_nil)) (pe_callB call_len_seq (by rfl) T.len PySem.boot_len (pa_cons (pv 0) pa_nil))))
      (pss_cons (ps_for PassesOwn.never rfl (pi_enumT (by rfl) T.enu (pa_cons (pv 0) pa_nil)) (pg_tup rfl (pgs_cons (pg_name (i := 2) scNam.nd rfl (.inl rfl)) (pgs_cons (pg_name (i := 3) scNam.nd rfl (.inl rfl)) pgs_nil)))
        (pss_one (ps_asg (pv 2) (pg_sub (pv 1) (pe_ix ix_tup (pv 3) pe_int (fun _ _ => rfl)) set_list))))
      (pss_one (ps_ret (pe_callTy cr_tupX (by rfl) T.tup PyProof.Rows.boot_tuple (pa_cons (pv 1) pa_nil)))))), ?_⟩
    refine ⟨_, rfl, .ref b, s, rfl, hv, fun H1 s1 => ?_⟩
    have et : tgt s = -1 := by
      unfold tgt
      rw [if_pos (show LW.target s = s.length from hd)]
    rw [et]
    refine ⟨1, rfl, rfl, _, rfl, ?_⟩
    refine ite2 (fun e => absurd e (by decide)) fun _ => ?_
    refine ⟨by show 1 ≤ sizeLine; decide, fun o1 no1 => ?_⟩
    have s2 : Same H (upd H1 o1 (.lst [.int 0])) := s1.trans (same_new no1)
    refine ⟨.ref b, rfl, b, xs, rfl, .inr (SqT.of (s2 _ _ hb)), o1, _, _, rfl, rfl, upd_same, by omega, by omega, ?_, fun o no => ?_⟩
    · rw [lxs, ls, sizeLine_eq]
      simp only [List.length_cons, List.length_nil]
      omega
    have no0 : H o = none := by
      cases e : H o with
      | none => rfl
      | some y => rw [s2 _ _ e] at no; cases no
    have s3 : Same H (upd (upd H1 o1 (.lst [.int 0])) o (.lst (List.replicate ((xs.length : Int)).toNat [V.int 0]).flatten)) := s2.trans (same_new no)
    have e0 : (List.replicate ((xs.length : Int)).toNat [V.int 0]).flatten = (namI n s 0).map fun (i : Nat) => V.int (i : Int) := by
      have e1 : ((xs.length : Int)).toNat = n := by omega
      rw [e1]
      unfold namI
      rw [List.map_map]
      have : ∀ m, (List.replicate m [V.int 0]).flatten = (List.range m).map fun _ => V.int 0 := fun m => by
        induction m with
        | zero => rfl
        | succ m ih =>
          rw [List.range_succ, List.map_append, ← ih, List.replicate_succ', List.flatten_append]
          rfl
      rw [this]
      refine List.map_congr_left fun x _ => ?_
      simp
    refine ⟨.ref b, rfl, b, xs, rfl, SqT.of (s3 _ _ hb), ?_⟩
    refine for_it (walk_enumT (xs := xs)) (fun i σ H6 => (∃ y2 y3, σ = [some (.ref b), some (.ref o), y2, y3]) ∧ Same H H6 ∧ H6 o = some (.lst ((namI n s i).map fun (i : Nat) => V.int (i : Int)))) ⟨⟨_, _, rfl⟩, s3, by rw [upd_same, e0]⟩ (fun i σ H1 _ p => SqT.of (p.2.1 _ _ hb)) ?_ ?_
    · rintro i x σ H6 H6' hi ⟨⟨y2, y3, rfl⟩, s6, ho⟩ y
      obtain ⟨tp, x1, x2, rfl, ntp, rfl, e1, e2⟩ := y
      obtain rfl := Option.some.inj e1
      obtain ⟨cell, hcell, tcell⟩ := hts.get e2
      obtain ⟨ca, cxs, rfl, hca, hcts⟩ := tl_row.mp (show Tl eNs H x2 cell from tcell)
      obtain ⟨x, rfl⟩ := LW.Disc.single hd hP cell (List.mem_of_getElem? hcell)
      have ecx := ts_nat.mp hcts
      rw [ecx] at hca
      have xlt : x < n := hP.lt (List.mem_of_getElem? hcell) (List.mem_singleton.mpr rfl)
      have st : Same H6 (upd H6 tp (.tup [.int (i : Nat), .ref ca])) := same_new ntp
      have s07 := s6.trans st
      refine ⟨tp, _, rfl, SqT.of upd_same, rfl, _, _, rfl, _, _, rfl, rfl, ?_⟩
      refine ⟨_, rfl, .ref o, rfl, .ref ca, rfl, ca, _, 0, .int (x : Int), rfl, rfl, SqT.of (s07 _ _ hca), atI_nat (j := 0) rfl, o, _, _, x, rfl, rfl, st _ _ ho, ?_, ⟨_, _, rfl⟩, same_at s07 no0, ?_⟩
      · rw [List.length_map]
        unfold namI
        rw [List.length_map, List.length_range]
        exact ixN_nat xlt
      · rw [upd_same]
        refine congrArg (fun z => some (HO.lst z)) ?_
        unfold namI
        rw [List.map_map, List.map_map]
        refine List.ext_getElem (by simp) fun j h1 h2 => ?_
        rw [List.getElem_set]
        simp only [List.getElem_map, List.getElem_range, Function.comp]
        have ci := hP.cellOf_eq hcell (List.mem_singleton.mpr rfl)
        by_cases e : x = j
        · subst e
          rw [if_pos rfl, ci, if_pos (by omega)]
        · rw [if_neg e]
          have jn : j < n := by
            simp only [List.length_map, List.length_range] at h2
            exact h2
          have ne : LW.cellOf s j ≠ i := fun z => by
            obtain ⟨cl, h3, h4, _⟩ := hP.cellOf jn
            rw [z, hcell] at h3
            cases h3
            exact e (List.mem_singleton.mp h4).symm
          by_cases lt1 : LW.cellOf s j < i
          · rw [if_pos lt1, if_pos (by omega)]
          · rw [if_neg lt1, if_neg (by omega)]
    · rintro σ H6 ⟨⟨y2, y3, rfl⟩, s6, ho⟩
      have e1 : namI n s xs.length = LW.nam n s := by
        unfold namI LW.nam
        refine List.map_congr_left fun x hx => ?_
        have := (hP.cellOf (List.mem_range.mp hx))
        obtain ⟨_, _, _, h3⟩ := this
        rw [if_pos (by omega)]
      rw [e1] at ho
      exact ⟨_, rfl, o, _, rfl, SqL.of ho, fun l nl => q l _ (s6.trans (same_new nl)) upd_same⟩
end
end LK
set_option autoImplicit false
set_option linter.all false
set_option maxRecDepth 100000
set_option maxHeartbeats 0
set_option synthInstance.maxSize 1000
set_option Elab.async false
namespace LK
open PySem PySem.Spec L2
theorem nd_flat {α β : Type} (f : α → List β) : ∀ l : List α, l.Nodup → (∀ x, x ∈ l → (f x).Nodup) → (∀ x y, x ∈ l → y ∈ l → x ≠ y → ∀ z, z ∈ f x → z ∉ f y) → (l.flatMap f).Nodup
  | [], _, _, _ => List.nodup_nil
  | a :: l, nd, h1, h2 => by
    obtain ⟨n1, n2⟩ := List.nodup_cons.mp nd
    rw [List.flatMap_cons]
    refine List.nodup_append.mpr ⟨h1 a List.mem_cons_self, nd_flat f l n2 (fun x hx => h1 x (List.mem_cons_of_mem _ hx)) fun x y hx hy => h2 x y (List.mem_cons_of_mem _ hx) (List.mem_cons_of_mem _ hy), fun z hz y hy e => ?_⟩
    obtain ⟨b, hb, hzb⟩ := List.mem_flatMap.mp hy
    exact h2 a b List.mem_cons_self (List.mem_cons_of_mem _ hb) (fun w => n1 (w ▸ hb)) z hz (e ▸ hzb)
/-- the arrows that point at b -/
def arrB (n : Nat) (M : Nat → Nat → Int) (b : Nat) : List Tri := ((List.range n).filter fun a => decide (0 < M a b)).map fun a : Nat => (((a : Int), (b : Int), M a b) : Tri)
def arrA (n : Nat) (M : Nat → Nat → Int) (k : Nat) : List Tri := (List.range k).flatMap (arrB n M)
theorem mem_arrB {n b : Nat} {M : Nat → Nat → Int} {t : Tri} : t ∈ arrB n M b ↔ ∃ a, a < n ∧ 0 < M a b ∧ t = ((a : Int), (b : Int), M a b) := by
  unfold arrB
  rw [List.mem_map]
  constructor
  · rintro ⟨a, ha, rfl⟩
    rw [List.mem_filter, List.mem_range, decide_eq_true_eq] at ha
    exact ⟨a, ha.1, ha.2, rfl⟩
  · rintro ⟨a, h1, h2, rfl⟩
    exact ⟨a, List.mem_filter.mpr ⟨List.mem_range.mpr h1, decide_eq_true h2⟩, rfl⟩
theorem mem_arrA {n k : Nat} {M : Nat → Nat → Int} {t : Tri} : t ∈ arrA n M k ↔ ∃ a b, a < n ∧ b < k ∧ 0 < M a b ∧ t = ((a : Int), (b : Int), M a b) := by
  unfold arrA
  rw [List.mem_flatMap]
  constructor
  · rintro ⟨b, hb, h⟩
    obtain ⟨a, h1, h2, h3⟩ := mem_arrB.mp h
    exact ⟨a, b, h1, List.mem_range.mp hb, h2, h3⟩
  · rintro ⟨a, b, h1, h2, h3, h4⟩
    exact ⟨b, List.mem_range.mpr h2, mem_arrB.mpr ⟨a, h1, h3, h4⟩⟩
theorem arrA_nd (n : Nat) (M : Nat → Nat → Int) : ((arrA n M n).map fun t => (t.1, t.2.1)).Nodup := by
  unfold arrA
  rw [List.map_flatMap]
  refine nd_flat _ _ List.nodup_range (fun b _ => ?_) fun x y _ _ ne z hz hy => ?_
  · unfold arrB
    rw [List.map_map]
    refine List.pairwise_map.mpr (List.Pairwise.imp (fun {a a'} ne e => ne ?_) (List.nodup_range.filter _))
    have := congrArg Prod.fst e
    simp only [Function.comp] at this
    omega
  · obtain ⟨t, ht, rfl⟩ := List.mem_map.mp hz
    obtain ⟨u, hu, e⟩ := List.mem_map.mp hy
    obtain ⟨a, _, _, rfl⟩ := mem_arrB.mp ht
    obtain ⟨c, _, _, rfl⟩ := mem_arrB.mp hu
    have := congrArg Prod.snd e
    simp only at this
    omega
section
variable {P : Program} {w : World} {K : PySem.W.Frag} {mg : Str → Option Value} {base : Heap} {C : Addr}
/-! #### _law_made -/
theorem scMade : FnScope ["_law_colours", "_law_marks", "_law_arrows", "_law_b", "_law_a"] ["_law_colours", "_law_marks"] (defScope sLmade) := ⟨rfl, rfl, rfl, by decide +kernel, rfl, by decide +kernel, by decide +kernel⟩
def mkW (cs : List Int) (M : Nat → Nat → Int) : LW.Web := ⟨cs, fun i j => if i < cs.length ∧ j < cs.length then M i j else 0⟩
def spMade (C : Addr) : Sp := fun vs H Q _ => ∃ (cl mk : Addr) (cs : List Int) (rs : List Addr) (M : Nat → Nat → Int), vs = [.ref cl, .ref mk] ∧ H cl = some (.lst (IntsV cs)) ∧ cs.length ≤ 5 ∧ (∀ c, c ∈ cs → 0 ≤ c ∧ c ≤ 1000000000) ∧ MarksAt H mk rs cs.length M ∧ OkM cs.length M ∧
  ∀ x H', Same H H' → WebAt C H' x (mkW cs M) → Q (.ref x) H'
theorem ok_made {f fI : Addr} {fd fdI : FuncData} (T : Tx K mg C) (F : FN K "_law_made" sLmade f fd) (M0 : Mk K C fI) (GI : FnOk P w K mg base CX0 5 fI fdI ["self", "colours", "arrows"] (spInit C)) (bI : Binds K fdI ["self", "colours", "arrows"] []) (mW : mg "Web" = some (.ref C)) :
    FnOk P w K mg base CX0 7 f fd ["_law_colours", "_law_marks"] (spMade C) := by
  refine FDok F scMade (fun vs H Q E h => ?_) (fun cdv A outer s H vs Q E hr h => ?_)
  · obtain ⟨cl, mk, cs, rs, M, rfl, _⟩ := h
    rfl
  · obtain ⟨cl, mk, cs, rs, M, rfl, hcl, n5, hcs, hmk, okm, q⟩ := h
    have tn : ((cs.length : Int)).toNat = cs.length := by omega
    have lcl : (IntsV cs).length = cs.length := List.length_map ..
    refine ⟨_, pss_cons (ps_set (i := 2) scMade.nd rfl (.inl rfl) (pe_lst pa_nil))
      (pss_cons (ps_for PassesOwn.never rfl (pi_range1 (by rfl) T.rng (pa_cons (pe_callB call_len_seq (by rfl) T.len PySem.boot_len (pa_cons (pv 0) pa_nil)) pa_nil)) (pg_name (i := 3) scMade.nd rfl (.inr rfl))
        (pss_one (ps_set (i := 2) scMade.nd rfl (.inl rfl) (pe_op op_cat (pv 2) (pe_lc (own := [("_law_a", 4)]) (g := gName 4) (tt := tTest (tOp (rI0 fun i j => .bl (decide (j < i))) (tOp (rIxL K) (tOp (rIxL K) (tVar 1) (tVar 4)) (tVar 3)) (tC (.int 0))))
          (te := tLst (tCons (tVar 4) (tCons (tVar 3) (tCons (tOp (rIxL K) (tOp (rIxL K) (tVar 1) (tVar 4)) (tVar 3)) tNil)))) rfl scMade.nd (pi_range1 (by rfl) T.rng (pa_cons (pe_callB call_len_seq (by rfl) T.len PySem.boot_len (pa_cons (pv 0) pa_nil)) pa_nil)) (blkOk_by (by kernel_rfl))
          (fun _ _ _ _ _ => pg_name (i := 4) scMade.nd rfl (.inl rfl)) (fun _ _ _ _ _ => pts_one (pt_cmpR op_gt (pe_ix ix_list (pe_ix ix_list (pv 1) (pv 4) (fun _ _ => rfl)) (pv 3) (fun _ _ => rfl)) pe_int (nomark _)))
          (fun _ _ _ _ _ => pe_lst (pa_cons (pv 4) (pa_cons (pv 3) (pa_cons (pe_ix ix_list (pe_ix ix_list (pv 1) (pv 4) (fun _ _ => rfl)) (pv 3) (fun _ _ => rfl)) pa_nil)))))))))
      (pss_one (ps_ret (pe_make M0 GI hr (by rfl) mW bI .nil pass0 (pa_cons (pe_callTy call_list_of (by rfl) T.lst PyProof.Rows.boot_list (pa_cons (pv 0) pa_nil)) (pa_cons (pv 2) pa_nil)))))), ?_⟩
    refine ⟨Nat.zero_le _, fun o no => ?_⟩
    have s1 : Same H (upd H o (.lst [])) := same_new no
    refine ⟨.ref cl, rfl, cl, _, rfl, .inl (SqL.of (s1 _ _ hcl)), ?_⟩
    rw [lcl]
    refine ⟨cs.length, rfl, by omega, by omega, ?_⟩
    refine for_it (walk_range (lo := 0) (n := ((cs.length : Int)).toNat)) (fun i σ H1 => (∃ ar y3 y4, σ = [some (.ref cl), some (.ref mk), some (.ref ar), y3, y4] ∧ ∃ xs, H1 ar = some (.lst xs) ∧ RowsA H1 xs (arrA cs.length M i)) ∧ Same H H1) ⟨⟨o, _, _, rfl, [], upd_same, .nil⟩, s1⟩ (fun _ _ _ _ _ => trivial) ?_ ?_
    · rintro b x σ H1 H1' hb ⟨⟨ar, y3, y4, rfl, xs, har, hxs⟩, s2⟩ ⟨rfl, ex⟩
      replace ex := rg0 ex
      subst ex
      rw [tn] at hb
      refine ⟨_, rfl, .ref cl, rfl, cl, _, rfl, .inl (SqL.of (s2 _ _ hcl)), ?_⟩
      rw [lcl]
      refine ⟨cs.length, rfl, by omega, by omega, fun D nD => ?_⟩
      have rowAt : ∀ {H' : Hp} {a : Nat}, Same H H' → a < cs.length → ∃ r, H' mk = some (.lst (rs.map V.ref)) ∧ atI (rs.map V.ref) (a : Int) = some (.ref r) ∧ H' r = some (.lst ((List.range cs.length).map fun j => V.int (M a j))) := fun {H' a} s' ha => by
        obtain ⟨r, hr'⟩ : ∃ r, rs[a]? = some r := ⟨_, List.getElem?_eq_getElem (by rw [hmk.len]; exact ha)⟩
        exact ⟨r, s' _ _ hmk.top, refs_at hr', s' _ _ (hmk.row _ _ hr')⟩
      refine lcP (walk_range (lo := 0) (n := ((cs.length : Int)).toNat)) (src := List.range cs.length) (by rw [List.length_range, tn]) (sel := fun a => decide (0 < M a b)) (val := fun a => (((a : Int), (b : Int), M a b) : Tri))
        (Rel := fun H' v t => ∃ r, v = .ref r ∧ r ≠ D ∧ H' r = some (.lst (triV t))) nD (fun H1 H2 v t _ bt ⟨r, e1, e2, e3⟩ => ⟨r, e1, e2, bt _ _ e2 e3⟩) (fun _ _ => trivial) (fun i H1 x H1' y => by obtain ⟨rfl, _⟩ := y; exact same_refl) (by omega) ?_ ?_
      · rintro a a' x H2 H2' N Kv ha' s3 ⟨rfl, ex⟩ s3' gD hN hK
        replace ex := rg0 ex
        subst ex
        obtain ⟨han, ea⟩ := List.getElem?_eq_some_iff.mp ha'
        rw [List.getElem_range] at ea
        subst ea
        rw [List.length_range] at han
        obtain ⟨r, w1, w2, w3⟩ := rowAt (s2.trans s3) han
        refine ⟨rfl, .ref mk, rfl, _, rfl, mk, _, _, _, rfl, rfl, SqL.of w1, w2, _, rfl, r, _, _, _, rfl, rfl, SqL.of w3, range_at hb _, M a b, 0, rfl, rfl, _, rfl, ?_⟩
        cases e : decide (0 < M a b) with
        | false => exact iteF (hN _ e same_refl)
        | true =>
          refine iteT ⟨_, rfl, _, rfl, .ref mk, rfl, _, rfl, mk, _, _, _, rfl, rfl, SqL.of w1, w2, _, rfl, r, _, _, _, rfl, rfl, SqL.of w3, range_at hb _, by show 3 ≤ sizeLine; decide, fun p np => ?_⟩
          refine hK _ _ e (same_new np) ⟨p, rfl, fun z => ?_, upd_same⟩
          rw [z] at np
          exact gD np
      · intro H2 zs s3 hD hz
        have lz := hz.len
        rw [List.length_map] at lz
        have lf := List.length_filter_le (fun a => decide (0 < M a b)) (List.range cs.length)
        rw [List.length_range] at lf
        have la : xs.length ≤ b * 5 := by
          rw [hxs.len]
          have := LW.flatMap_len (arrB cs.length M) 5 (List.range b) fun x _ => by
            unfold arrB
            rw [List.length_map]
            have := List.length_filter_le (fun a => decide (0 < M a x)) (List.range cs.length)
            rw [List.length_range] at this
            omega
          rwa [List.length_range] at this
        refine ⟨ar, D, xs, zs, rfl, rfl, s3 _ _ har, hD, ?_, fun p np => ?_⟩
        · rw [sizeLine_eq]
          omega
        · have s4 := s3.trans (same_new (o := .lst (xs ++ zs)) np)
          refine ⟨⟨p, _, _, rfl, xs ++ zs, upd_same, ?_⟩, s2.trans s4⟩
          have e : arrA cs.length M (b + 1) = arrA cs.length M b ++ arrB cs.length M b := by
            unfold arrA
            rw [List.range_succ, List.flatMap_append]
            simp
          rw [e]
          have z1 : RowsA (upd H2 p (.lst (xs ++ zs))) xs (arrA cs.length M b) := hxs.imp fun v t ⟨r, e1, e2⟩ => ⟨r, e1, s4 _ _ e2⟩
          have z2 : RowsA (upd H2 p (.lst (xs ++ zs))) zs (arrB cs.length M b) := hz.imp fun v t h => by
            obtain ⟨r, e1, _, e3⟩ := h
            exact ⟨r, e1, (same_new np) _ _ e3⟩
          exact z1.append z2
    · rintro σ H1 ⟨⟨ar, y3, y4, rfl, xs, har, hxs⟩, s2⟩
      rw [tn] at hxs
      refine ⟨.ref cl, rfl, cl, _, rfl, .inl (SqL.of (s2 _ _ hcl)), fun lp nlp => ?_⟩
      have s3 := same_new (o := .lst (IntsV cs)) nlp
      refine ⟨_, rfl, fun x dx nx ndx ne => ?_⟩
      have s4 := same_new (o := .own x) ndx
      have nx' : (upd (upd H1 lp (.lst (IntsV cs))) dx (.own x)) x = none := by rw [upd_ne ne.symm]; exact nx
      have s5 := same_new (o := .ins C dx []) nx'
      have s35 := s3.trans (s4.trans s5)
      have nxH : H x = none := by
        cases e : H x with
        | none => rfl
        | some y => rw [(s2.trans s3) _ _ e] at nx; cases nx
      refine ⟨x, dx, lp, ar, cs, xs, arrA cs.length M cs.length, fun i j => if i < cs.length ∧ j < cs.length then M i j else 0, rfl, upd_same, (s4.trans s5) _ _ upd_same, n5, hcs, s35 _ _ har, hxs.imp fun v t ⟨r, e1, e2⟩ => ⟨r, e1, s35 _ _ e2⟩, arrA_nd _ _, fun t ht => ?_, ?_, fun i j m hm => ?_, fun i j hm => ?_, fun H' bt hW => ⟨rfl, q x H' (fun y z hy => ?_) hW⟩⟩
      · obtain ⟨a, b, ha, hb, pos, rfl⟩ := mem_arrA.mp ht
        have o1 := okm a b ha hb
        refine ⟨by show (0 : Int) ≤ (a : Int); omega, by show (a : Int) < (cs.length : Int); omega, by show (0 : Int) ≤ (b : Int); omega, by show (b : Int) < (cs.length : Int); omega, fun e => ?_, by show 1 ≤ M a b; omega, o1.2.1⟩
        have e' : (a : Int) = (b : Int) := e
        have := o1.2.2 (by omega)
        omega
      · have := LW.flatMap_len (arrB cs.length M) 5 (List.range cs.length) fun x _ => by
          unfold arrB
          rw [List.length_map]
          have := List.length_filter_le (fun a => decide (0 < M a x)) (List.range cs.length)
          rw [List.length_range] at this
          omega
        rw [List.length_range] at this
        show (arrA cs.length M cs.length).length ≤ 100
        unfold arrA
        omega
      · obtain ⟨a, b, ha, hb, pos, e⟩ := mem_arrA.mp hm
        simp only [Prod.mk.injEq] at e
        have ea : i = a := by omega
        have eb : j = b := by omega
        subst ea
        subst eb
        show (if i < cs.length ∧ j < cs.length then M i j else 0) = m
        rw [if_pos ⟨ha, hb⟩, e.2.2]
      · show (if i < cs.length ∧ j < cs.length then M i j else 0) = 0
        by_cases z : i < cs.length ∧ j < cs.length
        · rw [if_pos z]
          have o1 := okm i j z.1 z.2
          have : ¬ 0 < M i j := fun pos => hm (M i j) (mem_arrA.mpr ⟨i, j, z.1, z.2, pos, rfl⟩)
          omega
        · rw [if_neg z]
      · have yx : y ≠ x := fun e => by rw [e, nxH] at hy; cases hy
        exact bt _ _ yx (s35 _ _ (s2 _ _ hy))
end
end LK
set_option autoImplicit false
set_option linter.all false
set_option maxRecDepth 100000
set_option maxHeartbeats 0
set_option synthInstance.maxSize 1000
set_option Elab.async false
namespace LK
open PySem PySem.Spec L2
abbrev RowsN (H : Hp) (vs : List V) (ls : List (List Nat)) : Prop := LW.All2 (fun v l => ∃ r, v = V.ref r ∧ H r = some (.lst (NatsV l))) vs ls
theorem RowsN.same {H H' : Hp} {vs : List V} {ls : List (List Nat)} (s : Same H H') (h : RowsN H vs ls) : RowsN H' vs ls := h.imp fun v l ⟨r, e1, e2⟩ => ⟨r, e1, s _ _ e2⟩
def ext (n : Nat) (row : List Nat) : List (List Nat) := ((List.range n).filter fun b => !decide (b ∈ row)).map fun b => row ++ [b]
theorem ext_len (n : Nat) (row : List Nat) : (ext n row).length ≤ n := by
  unfold ext
  rw [List.length_map]
  have := List.length_filter_le (fun b => !decide (b ∈ row)) (List.range n)
  rwa [List.length_range] at this
theorem ordF_len (n : Nat) : ∀ k, (LW.ordF n k).length ≤ n ^ k
  | 0 => Nat.le_refl _
  | k + 1 => by
    have h := LW.flatMap_len (ext n) n (LW.ordF n k) fun r _ => ext_len n r
    have ih := ordF_len n k
    show ((LW.ordF n k).flatMap (ext n)).length ≤ n ^ (k + 1)
    rw [Nat.pow_succ]
    exact Nat.le_trans h (Nat.mul_le_mul_right n ih)
section
variable {P : Program} {w : World} {K : PySem.W.Frag} {mg : Str → Option Value} {base : Heap} {C : Addr}
/-! #### _law_orders -/
theorem scOrds : FnScope ["_law_n", "_law_found", "_law_a", "_law_more", "_law_row", "_law_b"] ["_law_n"] (defScope sLorders) := ⟨rfl, rfl, rfl, by decide +kernel, rfl, by decide +kernel, by decide +kernel⟩
def spOrds : Sp := fun vs H Q _ => ∃ n : Nat, vs = [.int n] ∧ n ≤ 5 ∧ ∀ p ys H', Same H H' → H' p = some (.lst ys) → RowsN H' ys (LW.ordF n n) → Q (.ref p) H'
theorem ok_ords {f : Addr} {fd : FuncData} (T : Tx K mg C) (F : FN K "_law_orders" sLorders f fd) : FnOk P w K mg base CX0 1 f fd ["_law_n"] spOrds := by
  refine FDok F scOrds (fun vs H Q E h => ?_) (fun cdv A outer s H vs Q E hr h => ?_)
  · obtain ⟨n, rfl, _⟩ := h
    rfl
  · obtain ⟨n, rfl, n5, q⟩ := h
    have tn : ((n : Int)).toNat = n := by omega
    refine ⟨_, pss_cons (ps_set (i := 1) scOrds.nd rfl (.inl rfl) (pe_lst (pa_cons (pe_lst pa_nil) pa_nil)))
      (pss_cons (ps_for PassesOwn.never rfl (pi_range1 (by rfl) T.rng (pa_cons (pv 0) pa_nil)) (pg_name (i := 2) scOrds.nd rfl (.inl rfl))
        (pss_cons (ps_set (i := 3) scOrds.nd rfl (.inl rfl) (pe_lst pa_nil))
        (pss_cons (ps_for PassesOwn.never rfl (pi_list (pv 1)) (pg_name (i := 4) scOrds.nd rfl (.inr rfl))
          (pss_one (ps_set (i := 3) scOrds.nd rfl (.inl rfl) (pe_op op_cat (pv 3) (pe_lc (own := [("_law_b", 5)]) (g := gName 5) (tt := tTest (tOp (rIn K true) (tVar 5) (tVar 4))) (te := tOp rCat (tVar 4) (tLst (tCons (tVar 5) tNil))) rfl scOrds.nd (pi_range1 (by rfl) T.rng (pa_cons (pv 0) pa_nil)) (blkOk_by (by kernel_rfl))
            (fun _ _ _ _ _ => pg_name (i := 5) scOrds.nd rfl (.inl rfl)) (fun _ _ _ _ _ => pts_one (pt_cmpR op_notIn_seq (pv 5) (pv 4) rfl)) (fun _ _ _ _ _ => pe_op op_cat (pv 4) (pe_lst (pa_cons (pv 5) pa_nil))))))))
        (pss_one (ps_set (i := 1) scOrds.nd rfl (.inl rfl) (pv 3))))))
      (pss_one (ps_ret (pv 1)))), ?_⟩
    refine ⟨Nat.zero_le _, fun o1 no1 => ⟨by show 1 ≤ sizeLine; decide, fun o2 no2 => ?_⟩⟩
    have s1 := same_new (H := H) (o := .lst []) no1
    have s2 := s1.trans (same_new (o := .lst [.ref o1]) no2)
    refine ⟨_, rfl, n, rfl, by omega, by omega, ?_⟩
    refine for_it (walk_range (lo := 0) (n := ((n : Int)).toNat)) (fun i σ H1 => (∃ fo y2 y3 y4 y5, σ = [some (.int n), some (.ref fo), y2, y3, y4, y5] ∧ ∃ vs, H1 fo = some (.lst vs) ∧ RowsN H1 vs (LW.ordF n i)) ∧ Same H H1) ⟨⟨o2, _, _, _, _, rfl, _, upd_same, .cons ⟨o1, rfl, (same_new no2) _ _ upd_same⟩ .nil⟩, s2⟩ (fun _ _ _ _ _ => trivial) ?_ ?_
    · rintro i x σ H1 H1' hi ⟨⟨fo, y2, y3, y4, y5, rfl, vs, hfo, hvs⟩, s3⟩ ⟨rfl, ex⟩
      replace ex := rg0 ex
      subst ex
      rw [tn] at hi
      refine ⟨Nat.zero_le _, fun mo nmo => ?_⟩
      have s4 := same_new (H := H1') (o := .lst []) nmo
      have hfo4 := s4 _ _ hfo
      refine ⟨.ref fo, rfl, fo, rfl, ⟨_, SqL.of hfo4⟩, ?_⟩
      have lvs := hvs.len
      have lof := ordF_len n i
      have p5 : n ^ i ≤ 5 ^ 5 := Nat.le_trans (Nat.pow_le_pow_left n5 i) (Nat.pow_le_pow_right (by decide) (by omega))
      have e5 : (5 : Nat) ^ 5 = 3125 := rfl
      refine for_it (walk_list (xs := vs)) (fun j σ H2 => (∃ m2 y4 y5, σ = [some (.int n), some (.ref fo), some (.int (i : Nat)), some (.ref m2), y4, y5] ∧ ∃ ws, H2 m2 = some (.lst ws) ∧ RowsN H2 ws (((LW.ordF n i).take j).flatMap (ext n))) ∧ Same H1' H2) ⟨⟨mo, _, _, rfl, [], upd_same, .nil⟩, s4⟩ (fun j σ H2 _ z => SqL.of (z.2 _ _ hfo)) ?_ ?_
      · rintro j x σ H2 H2' hj ⟨⟨m2, z4, z5, rfl, ws, hm2, hws⟩, s5⟩ ⟨rfl, hx⟩
        obtain ⟨row, hrow, r, rfl, hr0⟩ := hvs.get hx
        have hr2 := s5 _ _ hr0
        refine ⟨_, rfl, _, rfl, n, rfl, by omega, by omega, fun D nD => ?_⟩
        refine lcP (walk_range (lo := 0) (n := ((n : Int)).toNat)) (src := List.range n) (by rw [List.length_range, tn]) (sel := fun b => !decide (b ∈ row)) (val := fun b => row ++ [b])
          (Rel := fun H' v l => ∃ r, v = .ref r ∧ r ≠ D ∧ H' r = some (.lst (NatsV l))) nD (fun H1 H2 v t _ bt ⟨r, e1, e2, e3⟩ => ⟨r, e1, e2, bt _ _ e2 e3⟩) (fun _ _ => trivial) (fun i H1 x H1' y => by obtain ⟨rfl, _⟩ := y; exact same_refl) (by omega) ?_ ?_
        · rintro b b' x H3 H3' N Kv hb' s6 ⟨rfl, ex⟩ s6' gD hN hK
          replace ex := rg0 ex
          subst ex
          obtain ⟨hbn, eb⟩ := List.getElem?_eq_some_iff.mp hb'
          rw [List.getElem_range] at eb
          subst eb
          have hr3 := s6 _ _ hr2
          refine ⟨rfl, _, rfl, _, rfl, r, _, rfl, .inl (SqL.of hr3), rfl, flat_nats row, _, rfl, ?_⟩
          rw [if_pos rfl, inV_nat]
          cases e : (!decide (b ∈ row)) with
          | false => exact iteF (hN _ e same_refl)
          | true =>
            refine iteT ⟨_, rfl, _, rfl, by show 1 ≤ sizeLine; decide, fun o no => ?_⟩
            have u1 := same_new (H := H3') (o := .lst [.int (b : Nat)]) no
            have hlen : row.length ≤ 5 := by
              have h1 := (LW.mem_ordF n i row).mp (List.mem_of_getElem? hrow)
              omega
            refine ⟨r, o, _, _, rfl, rfl, u1 _ _ hr3, upd_same, ?_, fun p np => ?_⟩
            · rw [List.length_map, sizeLine_eq]
              simp only [List.length_cons, List.length_nil]
              omega
            · refine hK _ _ e (u1.trans (same_new np)) ⟨p, rfl, fun z => ?_, ?_⟩
              · rw [z] at np
                cases hD : H3' D with
                | none => exact gD hD
                | some y => rw [u1 _ _ hD] at np; cases np
              · rw [upd_same]
                unfold NatsV
                rw [List.map_append]
                rfl
        · intro H3 zs s6 hD hz
          have lz := hz.len
          rw [List.length_map] at lz
          have lf := List.length_filter_le (fun b => !decide (b ∈ row)) (List.range n)
          rw [List.length_range] at lf
          have lw : ws.length ≤ j * n := by
            rw [hws.len]
            have := LW.flatMap_len (ext n) n ((LW.ordF n i).take j) fun r _ => ext_len n r
            rw [List.length_take] at this
            exact Nat.le_trans this (Nat.mul_le_mul_right n (Nat.min_le_left _ _))
          have jn : j * n ≤ 3125 * 5 := Nat.mul_le_mul (by omega) n5
          refine ⟨m2, D, ws, zs, rfl, rfl, s6 _ _ hm2, hD, ?_, fun p np => ?_⟩
          · rw [sizeLine_eq]
            omega
          · have s7 := s6.trans (same_new (o := .lst (ws ++ zs)) np)
            refine ⟨⟨p, _, _, rfl, ws ++ zs, upd_same, ?_⟩, s5.trans s7⟩
            rw [take_next' hrow, List.flatMap_append]
            have z1 : RowsN (upd H3 p (.lst (ws ++ zs))) zs (ext n row) := hz.imp fun v t h => by
              obtain ⟨r, e1, _, e3⟩ := h
              exact ⟨r, e1, (same_new np) _ _ e3⟩
            have e : [row].flatMap (ext n) = ext n row := by simp
            rw [e]
            exact (RowsN.same s7 hws).append z1
      · rintro σ H2 ⟨⟨m2, z4, z5, rfl, ws, hm2, hws⟩, s5⟩
        rw [lvs, List.take_length] at hws
        exact ⟨_, rfl, ⟨m2, _, _, _, _, rfl, ws, hm2, hws⟩, s3.trans s5⟩
    · rintro σ H1 ⟨⟨fo, y2, y3, y4, y5, rfl, vs, hfo, hvs⟩, s3⟩
      rw [tn] at hvs
      exact ⟨_, rfl, q fo vs H1 s3 hfo hvs⟩
/-! #### _law_keeps -/
theorem scKeeps : FnScope ["_law_colours", "_law_marks", "_law_order_here", "_law_n", "_law_a", "_law_b"] ["_law_colours", "_law_marks", "_law_order_here"] (defScope sLkeeps) := ⟨rfl, rfl, rfl, by decide +kernel, rfl, by decide +kernel, by decide +kernel⟩
def spKeeps : Sp := fun vs H Q _ => ∃ (cl mk od : Addr) (cs : List Int) (rs : List Addr) (M : Nat → Nat → Int) (o : List Nat), vs = [.ref cl, .ref mk, .ref od] ∧ H cl = some (.lst (IntsV cs)) ∧ cs.length ≤ 5 ∧ MarksAt H mk rs cs.length M ∧ H od = some (.lst (NatsV o)) ∧ o.length = cs.length ∧ (∀ x, x ∈ o → x < cs.length) ∧
  ∀ H', Same H H' → Q (.bl (LW.keepsB (mkW cs M) o)) H'
theorem isE_filter {zs : List V} {src : List Nat} {p : Nat → Bool} (h : zs.length = (src.filter p).length) : zs.isEmpty = src.all fun x => !p x := by
  cases e : src.all fun x => !p x with
  | true =>
    have : src.filter p = [] := List.filter_eq_nil_iff.mpr fun x hx hp => by
      have := List.all_eq_true.mp e x hx
      rw [hp] at this
      cases this
    rw [this] at h
    rw [List.length_eq_zero_iff.mp h]
    rfl
  | false =>
    cases zs with
    | cons z zs => rfl
    | nil =>
      exfalso
      have e2 : src.filter p = [] := List.length_eq_zero_iff.mp h.symm
      have : (src.all fun x => !p x) = true := List.all_eq_true.mpr fun x hx => by
        have := List.filter_eq_nil_iff.mp e2 x hx
        simp [this]
      rw [this] at e
      cases e
theorem ok_keeps {f : Addr} {fd : FuncData} (T : Tx K mg C) (F : FN K "_law_keeps" sLkeeps f fd) : FnOk P w K mg base CX0 1 f fd ["_law_colours", "_law_marks", "_law_order_here"] spKeeps := by
  refine FDok F scKeeps (fun vs H Q E h => ?_) (fun cdv A outer s H vs Q E hr h => ?_)
  · obtain ⟨cl, mk, od, cs, rs, M, o, rfl, _⟩ := h
    rfl
  · obtain ⟨cl, mk, od, cs, rs, M, o, rfl, hcl, n5, hmk, hod, lo, olt, q⟩ := h
    have tn : ((cs.length : Int)).toNat = cs.length := by omega
    have oAt : ∀ {a : Nat}, a < cs.length → o[a]? = some (o.getD a 0) ∧ o.getD a 0 < cs.length := fun {a} ha => by
      have h' : a < o.length := by omega
      have e : o[a]? = some (o.getD a 0) := by
        rw [List.getD_eq_getElem?_getD, List.getElem?_eq_getElem h']
        rfl
      exact ⟨e, olt _ (List.mem_of_getElem? e)⟩
    have cAt : ∀ {a : Nat}, a < cs.length → atI (IntsV cs) (a : Int) = some (.int ((mkW cs M).col a)) := fun {a} ha => atI_nat (by
      rw [List.getElem?_map, show cs[a]? = some ((mkW cs M).col a) from col_at (W := mkW cs M) ha]
      rfl)
    have rowAt : ∀ {a : Nat}, a < cs.length → ∃ r, atI (rs.map V.ref) (a : Int) = some (.ref r) ∧ rs[a]? = some r := fun {a} ha => by
      obtain ⟨r, hr'⟩ : ∃ r, rs[a]? = some r := ⟨_, List.getElem?_eq_getElem (by rw [hmk.len]; exact ha)⟩
      exact ⟨r, refs_at hr', hr'⟩
    have mrkE : ∀ {a b : Nat}, a < cs.length → b < cs.length → (mkW cs M).mrk a b = M a b := fun {a b} ha hb => if_pos ⟨ha, hb⟩
    refine ⟨_, pss_cons (ps_set (i := 3) scKeeps.nd rfl (.inl rfl) (pe_callB call_len_seq (by rfl) T.len PySem.boot_len (pa_cons (pv 2) pa_nil)))
      (pss_cons (ps_if (pt_cmpR (op_neNil hr.units) (pe_lc (own := [("_law_a", 4)]) (g := gName 4) (tt := tTest (tOp rNe (tOp (rIxL K) (tVar 0) (tOp (rIxL K) (tVar 2) (tVar 4))) (tOp (rIxL K) (tVar 0) (tVar 4)))) (te := tVar 4) rfl scKeeps.nd (pi_range1 (by rfl) T.rng (pa_cons (pv 3) pa_nil)) (blkOk_by (by kernel_rfl))
          (fun _ _ _ _ _ => pg_name (i := 4) scKeeps.nd rfl (.inl rfl)) (fun _ _ _ _ _ => pts_one (pt_cmpR op_ne (pe_ix ix_list (pv 0) (pe_ix ix_list (pv 2) (pv 4) (fun _ _ => rfl)) (fun _ _ => rfl)) (pe_ix ix_list (pv 0) (pv 4) (fun _ _ => rfl)) (nomark _))) (fun _ _ _ _ _ => pv 4)) (pe_lst pa_nil) (nomark _))
        (pss_one (ps_ret pe_bl)) pss_nil)
      (pss_cons (ps_for PassesOwn.never rfl (pi_range1 (by rfl) T.rng (pa_cons (pv 3) pa_nil)) (pg_name (i := 4) scKeeps.nd rfl (.inr rfl))
        (pss_one (ps_if (pt_cmpR (op_neNil hr.units) (pe_lc (own := [("_law_b", 5)]) (g := gName 5) (tt := tTest (tOp rNe (tOp (rIxL K) (tOp (rIxL K) (tVar 1) (tOp (rIxL K) (tVar 2) (tVar 4))) (tOp (rIxL K) (tVar 2) (tVar 5))) (tOp (rIxL K) (tOp (rIxL K) (tVar 1) (tVar 4)) (tVar 5)))) (te := tVar 5) rfl scKeeps.nd
          (pi_range1 (by rfl) T.rng (pa_cons (pv 3) pa_nil)) (blkOk_by (by kernel_rfl)) (fun _ _ _ _ _ => pg_name (i := 5) scKeeps.nd rfl (.inl rfl))
          (fun _ _ _ _ _ => pts_one (pt_cmpR op_ne (pe_ix ix_list (pe_ix ix_list (pv 1) (pe_ix ix_list (pv 2) (pv 4) (fun _ _ => rfl)) (fun _ _ => rfl)) (pe_ix ix_list (pv 2) (pv 5) (fun _ _ => rfl)) (fun _ _ => rfl)) (pe_ix ix_list (pe_ix ix_list (pv 1) (pv 4) (fun _ _ => rfl)) (pv 5) (fun _ _ => rfl)) (nomark _)))
          (fun _ _ _ _ _ => pv 5)) (pe_lst pa_nil) (nomark _)) (pss_one (ps_ret pe_bl)) pss_nil)))
      (pss_one (ps_ret pe_bl)))), ?_⟩
    refine ⟨_, rfl, od, _, rfl, .inl (SqL.of hod), ?_⟩
    rw [show ((NatsV o).length : Int) = (cs.length : Int) by rw [List.length_map, lo]]
    refine ⟨_, rfl, cs.length, rfl, by omega, by omega, fun D nD => ?_⟩
    refine lcP (walk_range (lo := 0) (n := ((cs.length : Int)).toNat)) (src := List.range cs.length) (by rw [List.length_range, tn]) (sel := fun a => !decide ((mkW cs M).col (o.getD a 0) = (mkW cs M).col a)) (val := fun a => a) (Rel := fun _ _ _ => True) nD (fun _ _ _ _ _ _ t => t) (fun _ _ => trivial)
      (fun i H1 x H1' y => by obtain ⟨rfl, _⟩ := y; exact same_refl) (by omega) ?_ ?_
    · rintro a a' x H1 H1' N Kv ha' s1 ⟨rfl, ex⟩ s1' _ hN hK
      replace ex := rg0 ex
      subst ex
      obtain ⟨han, ea⟩ := List.getElem?_eq_some_iff.mp ha'
      rw [List.getElem_range] at ea
      subst ea
      rw [List.length_range] at han
      obtain ⟨o1, o2⟩ := oAt han
      refine ⟨rfl, .ref cl, rfl, .ref od, rfl, _, rfl, od, _, _, _, rfl, rfl, SqL.of (s1 _ _ hod), nats_at o1, cl, _, _, _, rfl, rfl, SqL.of (s1 _ _ hcl), cAt o2, .ref cl, rfl, _, rfl, cl, _, _, _, rfl, rfl, SqL.of (s1 _ _ hcl), cAt han, rfl, _, rfl, ?_⟩
      have ee : (!decide (V.int ((mkW cs M).col (o.getD a 0)) = V.int ((mkW cs M).col a))) = !decide ((mkW cs M).col (o.getD a 0) = (mkW cs M).col a) := by
        refine congrArg not (decide_eq_decide.mpr ⟨fun e => by injection e, fun e => by rw [e]⟩)
      rw [ee]
      cases e : (!decide ((mkW cs M).col (o.getD a 0) = (mkW cs M).col a)) with
      | false => exact iteF (hN _ e same_refl)
      | true => exact iteT ⟨_, rfl, hK _ _ e same_refl trivial⟩
    · intro H1 zs s1 hD hz
      have lz := hz.len
      rw [List.map_id'] at lz
      have e1 := isE_filter lz
      refine ⟨Nat.zero_le _, fun o3 no3 => ?_⟩
      have s2 := s1.trans (same_new (o := .lst []) no3)
      refine ⟨D, o3, zs, rfl, rfl, SqL.of ((same_new no3) _ _ hD), SqL.of upd_same, _, rfl, ?_⟩
      rw [e1]
      have kB : LW.keepsB (mkW cs M) o = (((List.range cs.length).all fun a => !!decide ((mkW cs M).col (o.getD a 0) = (mkW cs M).col a)) && ((List.range cs.length).all fun a => (List.range cs.length).all fun b => decide ((mkW cs M).mrk (o.getD a 0) (o.getD b 0) = (mkW cs M).mrk a b))) := by
        rw [Bool.eq_iff_iff, Bool.and_eq_true]
        unfold LW.keepsB
        simp only [List.all_eq_true, Bool.and_eq_true, Bool.not_not]
        exact ⟨fun h => ⟨fun a ha => (h a ha).1, fun a ha => (h a ha).2⟩, fun h a ha => ⟨h.1 a ha, h.2 a ha⟩⟩
      cases ec : (List.range cs.length).all fun a => !!decide ((mkW cs M).col (o.getD a 0) = (mkW cs M).col a) with
      | false =>
        refine iteT ?_
        have z := q _ s2
        rw [kB, ec] at z
        exact z
      | true =>
        refine iteF ?_
        rw [ec, Bool.true_and] at kB
        refine ⟨_, rfl, cs.length, rfl, by omega, by omega, ?_⟩
        refine for_it (walk_range (lo := 0) (n := ((cs.length : Int)).toNat)) (fun i σ H3 => (∃ y4 y5, σ = [some (.ref cl), some (.ref mk), some (.ref od), some (.int cs.length), y4, y5]) ∧ Same H H3 ∧ ∀ a, a < i → ((List.range cs.length).all fun b => decide ((mkW cs M).mrk (o.getD a 0) (o.getD b 0) = (mkW cs M).mrk a b)) = true)
          ⟨⟨_, _, rfl⟩, s2, fun a ha => absurd ha (Nat.not_lt_zero _)⟩ (fun _ _ _ _ _ => trivial) ?_ ?_
        · rintro a x σ H3 H3' ha ⟨⟨y4, y5, rfl⟩, s3, all⟩ ⟨rfl, ex⟩
          replace ex := rg0 ex
          subst ex
          rw [tn] at ha
          obtain ⟨o1, o2⟩ := oAt ha
          refine ⟨_, rfl, cs.length, rfl, by omega, by omega, fun D2 nD2 => ?_⟩
          refine lcP (walk_range (lo := 0) (n := ((cs.length : Int)).toNat)) (src := List.range cs.length) (by rw [List.length_range, tn]) (sel := fun b => !decide ((mkW cs M).mrk (o.getD a 0) (o.getD b 0) = (mkW cs M).mrk a b)) (val := fun a => a) (Rel := fun _ _ _ => True) nD2 (fun _ _ _ _ _ _ t => t) (fun _ _ => trivial)
            (fun i H1 x H1' y => by obtain ⟨rfl, _⟩ := y; exact same_refl) (by omega) ?_ ?_
          · rintro b b' x H4 H4' N Kv hb' s4 ⟨rfl, ex⟩ s4' _ hN hK
            replace ex := rg0 ex
            subst ex
            obtain ⟨hbn, eb⟩ := List.getElem?_eq_some_iff.mp hb'
            rw [List.getElem_range] at eb
            subst eb
            rw [List.length_range] at hbn
            obtain ⟨p1, p2⟩ := oAt hbn
            have s34 := s3.trans s4
            obtain ⟨r1, h1, h1'⟩ := rowAt o2
            obtain ⟨r2, h2, h2'⟩ := rowAt ha
            refine ⟨rfl, .ref mk, rfl, .ref od, rfl, _, rfl, od, _, _, _, rfl, rfl, SqL.of (s34 _ _ hod), nats_at o1, mk, _, _, _, rfl, rfl, SqL.of (s34 _ _ hmk.top), h1, .ref od, rfl, _, rfl, od, _, _, _, rfl, rfl, SqL.of (s34 _ _ hod), nats_at p1, r1, _, _, _, rfl, rfl, SqL.of (s34 _ _ (hmk.row _ _ h1')), range_at p2 _,
              .ref mk, rfl, _, rfl, mk, _, _, _, rfl, rfl, SqL.of (s34 _ _ hmk.top), h2, _, rfl, r2, _, _, _, rfl, rfl, SqL.of (s34 _ _ (hmk.row _ _ h2')), range_at hbn _, rfl, _, rfl, ?_⟩
            have ee : (!decide (V.int (M (o.getD a 0) (o.getD b 0)) = V.int (M a b))) = !decide ((mkW cs M).mrk (o.getD a 0) (o.getD b 0) = (mkW cs M).mrk a b) := by
              rw [mrkE o2 p2, mrkE ha hbn]
              refine congrArg not (decide_eq_decide.mpr ⟨fun e => by injection e, fun e => by rw [e]⟩)
            rw [ee]
            cases e : (!decide ((mkW cs M).mrk (o.getD a 0) (o.getD b 0) = (mkW cs M).mrk a b)) with
            | false => exact iteF (hN _ e same_refl)
            | true => exact iteT ⟨_, rfl, hK _ _ e same_refl trivial⟩
          · intro H4 ws s4 hD2 hw
            have lw := hw.len
            rw [List.map_id'] at lw
            have e2 := isE_filter lw
            refine ⟨Nat.zero_le _, fun o4 no4 => ?_⟩
            have s5 := (s3.trans s4).trans (same_new (o := .lst []) no4)
            refine ⟨D2, o4, ws, rfl, rfl, SqL.of ((same_new no4) _ _ hD2), SqL.of upd_same, _, rfl, ?_⟩
            rw [e2]
            have e3 : ((List.range cs.length).all fun b => !!decide ((mkW cs M).mrk (o.getD a 0) (o.getD b 0) = (mkW cs M).mrk a b)) = (List.range cs.length).all fun b => decide ((mkW cs M).mrk (o.getD a 0) (o.getD b 0) = (mkW cs M).mrk a b) := by
              refine List.all_congr rfl fun b => ?_
              rw [Bool.not_not]
            rw [e3]
            cases e4 : (List.range cs.length).all fun b => decide ((mkW cs M).mrk (o.getD a 0) (o.getD b 0) = (mkW cs M).mrk a b) with
            | false =>
              refine iteT ?_
              have z := q _ s5
              have : (List.range cs.length).all (fun a => (List.range cs.length).all fun b => decide ((mkW cs M).mrk (o.getD a 0) (o.getD b 0) = (mkW cs M).mrk a b)) = false := by
                rw [Bool.eq_false_iff]
                intro h
                rw [List.all_eq_true.mp h a (List.mem_range.mpr ha)] at e4
                cases e4
              rw [kB, this] at z
              exact z
            | true =>
              refine iteF ⟨⟨_, _, rfl⟩, s5, fun a' ha' => ?_⟩
              by_cases z : a' = a
              · rw [z]; exact e4
              · exact all a' (by omega)
        · rintro σ H3 ⟨⟨y4, y5, rfl⟩, s3, all⟩
          rw [tn] at all
          have z := q _ s3
          have : (List.range cs.length).all (fun a => (List.range cs.length).all fun b => decide ((mkW cs M).mrk (o.getD a 0) (o.getD b 0) = (mkW cs M).mrk a b)) = true := List.all_eq_true.mpr fun a ha => all a (List.mem_range.mp ha)
          rw [kB, this] at z
          exact z
end
end LK
set_option autoImplicit false
set_option linter.all false
set_option maxRecDepth 100000
set_option maxHeartbeats 0
set_option synthInstance.maxSize 1000
set_option Elab.async false
namespace LK
open PySem PySem.Spec L2
/-! ### lists of whole numbers, and forms, as data -/
theorem none_back {H H' : Hp} {a : Addr} (s : Same H H') (h : H' a = none) : H a = none := by
  cases e : H a with
  | none => rfl
  | some y => rw [s _ _ e] at h; cases h
theorem depth_le {n : Nat} : ∀ ds : List PyData, (∀ d, d ∈ ds → d.depth ≤ n) → PyData.depthAll ds ≤ n
  | [], _ => Nat.zero_le _
  | d :: ds, h => by
    have h1 := h d List.mem_cons_self
    have h2 := depth_le ds fun x hx => h x (List.mem_cons_of_mem _ hx)
    rw [PyData.depthAll]
    omega
theorem lay_all : ∀ ds : List PyData, (∀ d, d ∈ ds → d.canLay0 = true) → PyData.canLayAll0 ds = true
  | [], _ => by rw [PyData.canLayAll0]
  | d :: ds, h => by
    rw [PyData.canLayAll0, h d List.mem_cons_self, lay_all ds fun x hx => h x (List.mem_cons_of_mem _ hx)]
    rfl
def dN (l : List Int) : PyData := .list (l.map PyData.int)
theorem dN_lay (l : List Int) : (dN l).canLay0 = true := by
  unfold dN
  rw [PyData.canLay0]
  refine lay_all _ fun d hd => ?_
  obtain ⟨i, _, rfl⟩ := List.mem_map.mp hd
  rw [PyData.canLay0]
theorem dN_depth (l : List Int) : (dN l).depth ≤ 1 := by
  unfold dN
  rw [PyData.depth]
  have := depth_le (n := 0) (l.map PyData.int) fun d hd => by
    obtain ⟨i, _, rfl⟩ := List.mem_map.mp hd
    rw [PyData.depth]
    exact Nat.le_refl _
  omega
theorem dN_shaped (l : List Int) : SeqAt.shaped (dN l) = true := by
  unfold SeqAt.shaped
  rw [dN_lay, Bool.true_and]
  have := dN_depth l
  exact decide_eq_true (by omega)
def dF (f : List Int × List (List Int)) : PyData := .tuple [dN f.1, .list (f.2.map dN)]
theorem dF_lay (f : List Int × List (List Int)) : (dF f).canLay0 = true := by
  unfold dF
  rw [PyData.canLay0]
  refine lay_all _ fun d hd => ?_
  simp only [List.mem_cons, List.not_mem_nil, or_false] at hd
  rcases hd with rfl | rfl
  · exact dN_lay _
  · rw [PyData.canLay0]
    refine lay_all _ fun d hd => ?_
    obtain ⟨i, _, rfl⟩ := List.mem_map.mp hd
    exact dN_lay _
theorem dF_depth (f : List Int × List (List Int)) : (dF f).depth ≤ 3 := by
  unfold dF
  rw [PyData.depth]
  have h1 := dN_depth f.1
  have h2 : (PyData.list (f.2.map dN)).depth ≤ 2 := by
    rw [PyData.depth]
    have := depth_le (n := 1) (f.2.map dN) fun d hd => by
      obtain ⟨i, _, rfl⟩ := List.mem_map.mp hd
      exact dN_depth _
    omega
  have := depth_le (n := 2) [dN f.1, .list (f.2.map dN)] fun d hd => by
    simp only [List.mem_cons, List.not_mem_nil, or_false] at hd
    rcases hd with rfl | rfl
    · omega
    · exact h2
  omega
theorem dF_shaped (f : List Int × List (List Int)) : SeqAt.shaped (dF f) = true := by
  unfold SeqAt.shaped
  rw [dF_lay, Bool.true_and]
  have := dF_depth f
  exact decide_eq_true (by omega)
theorem dp_ints {K : PySem.W.Frag} {H : Hp} : ∀ l : List Int, DpAll K H (IntsV l) (l.map PyData.int)
  | [] => .nil
  | i :: l => .cons (.int i) (dp_ints l)
theorem dp_N {K : PySem.W.Frag} {H : Hp} {a : Addr} {l : List Int} (h : H a = some (.lst (IntsV l))) : Dp K H (.ref a) (dN l) := .lst (SqL.of h) (dp_ints l)
/-- a form that stands in H, its lists new since H0 -/
def FormF (H0 H : Hp) (v : V) (f : List Int × List (List Int)) : Prop := ∃ (a c m : Addr) (vs : List V), v = .ref a ∧ H a = some (.tup [.ref c, .ref m]) ∧ H0 c = none ∧ H0 m = none ∧ H c = some (.lst (IntsV f.1)) ∧ H m = some (.lst vs) ∧
  LW.All2 (fun v l => ∃ r, v = V.ref r ∧ H0 r = none ∧ H r = some (.lst (IntsV l))) vs f.2
theorem dp_F {K : PySem.W.Frag} {H0 H : Hp} {v : V} {f : List Int × List (List Int)} (h : FormF H0 H v f) : Dp K H v (dF f) := by
  obtain ⟨a, c, m, vs, rfl, ha, _, _, hc, hm, hr⟩ := h
  refine .tup (SqT.of ha) (.cons (dp_N hc) (.cons (.lst (SqL.of hm) ?_) .nil))
  generalize f.2 = ls at hr
  clear hm
  induction hr with
  | nil => exact .nil
  | cons z _ ih =>
    obtain ⟨r, rfl, _, e⟩ := z
    exact .cons (dp_N e) ih
theorem FormF.but {H0 H H' : Hp} {v : V} {f : List Int × List (List Int)} {D : Addr} (hD : H0 D ≠ none) (hl : ∃ acc, H D = some (.lst acc)) (b : But D H H') (h : FormF H0 H v f) : FormF H0 H' v f := by
  obtain ⟨a, c, m, vs, e, ha, n1, n2, hc, hm, hr⟩ := h
  refine ⟨a, c, m, vs, e, b _ _ ?_ ha, n1, n2, b _ _ ?_ hc, b _ _ ?_ hm, hr.imp fun v l ⟨r, e1, e2, e3⟩ => ⟨r, e1, e2, b _ _ ?_ e3⟩⟩
  · rintro rfl
    obtain ⟨acc, hl⟩ := hl
    rw [ha] at hl
    cases hl
  · rintro rfl
    exact hD n1
  · rintro rfl
    exact hD n2
  · rintro rfl
    exact hD e2
theorem FormF.same {H0 H H' : Hp} {v : V} {f : List Int × List (List Int)} (b : Same H H') (h : FormF H0 H v f) : FormF H0 H' v f := by
  obtain ⟨a, c, m, vs, e, ha, n1, n2, hc, hm, hr⟩ := h
  exact ⟨a, c, m, vs, e, b _ _ ha, n1, n2, b _ _ hc, b _ _ hm, hr.imp fun v l ⟨r, e1, e2, e3⟩ => ⟨r, e1, e2, b _ _ e3⟩⟩
theorem all2_ints {H : Hp} {zs : List V} {l : List Int} (h : LW.All2 (fun v i => v = V.int i) zs l) : zs = IntsV l := by
  induction h with
  | nil => rfl
  | cons e _ ih => rw [e, ih]; rfl
theorem all2_nats {zs : List V} {l : List Nat} (h : LW.All2 (fun v (i : Nat) => v = V.int (i : Int)) zs l) : zs = NatsV l := by
  induction h with
  | nil => rfl
  | cons e _ ih => rw [e, ih]; rfl
theorem filter_yes {α : Type} (l : List α) : l.filter (fun _ => true) = l := List.filter_eq_self.mpr fun _ _ => rfl
theorem map_getD {α β : Type} {l : List α} {n : Nat} (e : l.length = n) (d : α) (f : α → β) : ((List.range n).map fun a => f (l.getD a d)) = l.map f := by
  refine List.ext_getElem? fun i => ?_
  rw [List.getElem?_map, List.getElem?_map]
  by_cases h : i < n
  · rw [List.getElem?_range h, List.getElem?_eq_getElem (show i < l.length by omega)]
    show some (f (l.getD i d)) = some (f l[i])
    rw [List.getD_eq_getElem?_getD, List.getElem?_eq_getElem (show i < l.length by omega)]
    rfl
  · rw [List.getElem?_eq_none (by simpa using h), List.getElem?_eq_none (by omega)]
    rfl
section
variable {P : Program} {w : World} {K : PySem.W.Frag} {mg : Str → Option Value} {base : Heap} {C : Addr}
/-! #### _law_renamed -/
theorem scRen : FnScope ["_law_colours", "_law_marks", "_law_naming", "_law_n", "_law_old", "_law_a", "_law_b"] ["_law_colours", "_law_marks", "_law_naming"] (defScope sLrenamed) := ⟨rfl, rfl, rfl, by decide +kernel, rfl, by decide +kernel, by decide +kernel⟩
def spRen : Sp := fun vs H Q _ => ∃ (cl mk u : Addr) (cs : List Int) (rs : List Addr) (M : Nat → Nat → Int) (s : LW.Stand), vs = [.ref cl, .ref mk, .ref u] ∧ H cl = some (.lst (IntsV cs)) ∧ cs.length ≤ 5 ∧ MarksAt H mk rs cs.length M ∧ H u = some (TupX u (LW.nam cs.length s)) ∧ LW.Part cs.length s ∧ LW.Disc s ∧
  ∀ v H', Same H H' → FormF H H' v (LW.form (mkW cs M) (LW.ord s)) → Q v H'
theorem ok_ren {f : Addr} {fd : FuncData} (T : Tx K mg C) (F : FN K "_law_renamed" sLrenamed f fd) : FnOk P w K mg base CX0 1 f fd ["_law_colours", "_law_marks", "_law_naming"] spRen := by
  refine FDok F scRen (fun vs H Q E h => ?_) (fun cdv A outer s H vs Q E hr h => ?_)
  · obtain ⟨cl, mk, u, cs, rs, M, s, rfl, _⟩ := h
    rfl
  · obtain ⟨cl, mk, u, cs, rs, M, st, rfl, hcl, n5, hmk, hu, hP, hd, q⟩ := h
    generalize en : cs.length = n at *
    have tn : ((n : Int)).toNat = n := by omega
    have ln : (LW.nam n st).length = n := by
      unfold LW.nam
      rw [List.length_map, List.length_range]
    have lod := LW.ord_len hP hd
    have oAt : ∀ {a : Nat}, a < n → (LW.ord st)[a]? = some ((LW.ord st).getD a 0) ∧ (LW.ord st).getD a 0 < n := fun {a} ha => by
      obtain ⟨x, e1, e2, _, e3⟩ := LW.ord_get hP hd ha
      rw [e3]
      exact ⟨e1, e2⟩
    have cAt : ∀ {a : Nat}, a < n → atI (IntsV cs) (a : Int) = some (.int ((mkW cs M).col a)) := fun {a} ha => atI_nat (by
      rw [List.getElem?_map, show cs[a]? = some ((mkW cs M).col a) from col_at (W := mkW cs M) (by rw [← en] at ha; exact ha)]
      rfl)
    have rowAt : ∀ {a : Nat}, a < n → ∃ r, atI (rs.map V.ref) (a : Int) = some (.ref r) ∧ rs[a]? = some r := fun {a} ha => by
      obtain ⟨r, hr'⟩ : ∃ r, rs[a]? = some r := ⟨_, List.getElem?_eq_getElem (by rw [hmk.len]; exact ha)⟩
      exact ⟨r, refs_at hr', hr'⟩
    have mrkE : ∀ {a b : Nat}, a < n → b < n → (mkW cs M).mrk a b = M a b := fun {a b} ha hb => if_pos ⟨by omega, by omega⟩
    refine ⟨_, pss_cons (ps_set (i := 3) scRen.nd rfl (.inr rfl) (pe_callB cr_lenX (by rfl) T.len PySem.boot_len (pa_cons (pv 2) pa_nil)))
      (pss_cons (ps_set (i := 4) scRen.nd rfl (.inr rfl) (pe_lc (own := [("_law_a", 5)]) (g := gName 5) (tt := tYes) (te := tIndexX (tVar 2) (tVar 5)) rfl scRen.nd (pi_range1 (by rfl) T.rng (pa_cons (pv 3) pa_nil)) (blkOk_by (by kernel_rfl))
          (fun _ _ _ _ _ => pg_name (i := 5) scRen.nd rfl (.inl rfl)) (fun _ _ _ _ _ => pts_nil) (fun _ _ _ _ _ => pe_indexX (pv 2) (pv 5))))
      (pss_one (ps_ret (pe_tup (pa_cons (pe_lc (own := [("_law_a", 5)]) (g := gName 5) (tt := tYes) (te := tOp (rIxL K) (tVar 0) (tOp (rIxL K) (tVar 4) (tVar 5))) rfl scRen.nd (pi_range1 (by rfl) T.rng (pa_cons (pv 3) pa_nil)) (blkOk_by (by kernel_rfl))
            (fun _ _ _ _ _ => pg_name (i := 5) scRen.nd rfl (.inl rfl)) (fun _ _ _ _ _ => pts_nil) (fun _ _ _ _ _ => pe_ix ix_list (pv 0) (pe_ix ix_list (pv 4) (pv 5) (fun _ _ => rfl)) (fun _ _ => rfl)))
          (pa_cons (pe_lc (own := [("_law_a", 5)]) (g := gName 5) (tt := tYes) (te := tLc (iRng1 (tCons (tVar 3) tNil)) (gName 6) tYes (tOp (rIxL K) (tOp (rIxL K) (tVar 1) (tOp (rIxL K) (tVar 4) (tVar 5))) (tOp (rIxL K) (tVar 4) (tVar 6))) [6]) rfl scRen.nd (pi_range1 (by rfl) T.rng (pa_cons (pv 3) pa_nil)) (blkOk_by (by kernel_rfl))
            (fun _ _ _ _ _ => pg_name (i := 5) scRen.nd rfl (.inr rfl)) (fun _ _ _ _ _ => pts_nil) (fun _ _ _ _ _ => pe_lc (own := [("_law_b", 6)]) (g := gName 6) (tt := tYes) (te := tOp (rIxL K) (tOp (rIxL K) (tVar 1) (tOp (rIxL K) (tVar 4) (tVar 5))) (tOp (rIxL K) (tVar 4) (tVar 6))) rfl scRen.nd
                (pi_range1 (by rfl) T.rng (pa_cons (pv 3) pa_nil)) (blkOk_by (by kernel_rfl)) (fun _ _ _ _ _ => pg_name (i := 6) scRen.nd rfl (.inl rfl)) (fun _ _ _ _ _ => pts_nil)
                (fun _ _ _ _ _ => pe_ix ix_list (pe_ix ix_list (pv 1) (pe_ix ix_list (pv 4) (pv 5) (fun _ _ => rfl)) (fun _ _ => rfl)) (pe_ix ix_list (pv 4) (pv 6) (fun _ _ => rfl)) (fun _ _ => rfl)))) pa_nil)))))), ?_⟩
    refine ⟨_, rfl, u, _, rfl, hu, by omega, ?_⟩
    rw [ln]
    refine ⟨_, rfl, n, rfl, by omega, by omega, fun D1 nD1 => ?_⟩
    refine lcP (walk_range (lo := 0) (n := ((n : Int)).toNat)) (src := List.range n) (by rw [List.length_range, tn]) (sel := fun _ => true) (val := fun a => (LW.ord st).getD a 0) (Rel := fun _ v (i : Nat) => v = .int (i : Int)) nD1 (fun _ _ _ _ _ _ t => t) (fun _ _ => trivial)
      (fun i H1 x H1' y => by obtain ⟨rfl, _⟩ := y; exact same_refl) (by omega) ?_ ?_
    · rintro a a' x H1 H1' N Kv ha' s1 ⟨rfl, ex⟩ s1' _ hN hK
      replace ex := rg0 ex
      subst ex
      obtain ⟨han, ea⟩ := List.getElem?_eq_some_iff.mp ha'
      rw [List.getElem_range] at ea
      subst ea
      rw [List.length_range] at han
      obtain ⟨x, h1, h2, h3⟩ := LW.nam_old hP hd han
      have ex : (LW.ord st).getD a 0 = x := by rw [List.getD_eq_getElem?_getD, h1]; rfl
      have hu1 := s1 _ _ hu
      refine ⟨rfl, tyes ⟨.ref u, rfl, ⟨u, _, rfl, hu1⟩, _, rfl, u, _, a, x, rfl, hu1, rfl, h2, fun m hm e => ?_, ?_⟩⟩
      · have := h3 m e
        omega
      · exact hK _ _ rfl same_refl (by rw [ex])
    intro H1 zs s1 hD1 hz
    rw [filter_yes, map_getD (f := fun x => x) lod, List.map_id'] at hz
    have ez := all2_nats hz
    subst ez
    refine ⟨_, rfl, n, rfl, by omega, by omega, fun D2 nD2 => ?_⟩
    refine lcP (walk_range (lo := 0) (n := ((n : Int)).toNat)) (src := List.range n) (by rw [List.length_range, tn]) (sel := fun _ => true) (val := fun a => (mkW cs M).col ((LW.ord st).getD a 0)) (Rel := fun _ v (i : Int) => v = .int i) nD2 (fun _ _ _ _ _ _ t => t) (fun _ _ => trivial)
      (fun i H1 x H1' y => by obtain ⟨rfl, _⟩ := y; exact same_refl) (by omega) ?_ ?_
    · rintro a a' x H2 H2' N Kv ha' s2 ⟨rfl, ex⟩ s2' _ hN hK
      replace ex := rg0 ex
      subst ex
      obtain ⟨han, ea⟩ := List.getElem?_eq_some_iff.mp ha'
      rw [List.getElem_range] at ea
      subst ea
      rw [List.length_range] at han
      obtain ⟨o1, o2⟩ := oAt han
      refine ⟨rfl, tyes ⟨.ref cl, rfl, .ref D1, rfl, _, rfl, D1, _, _, _, rfl, rfl, SqL.of (s2 _ _ hD1), nats_at o1, cl, _, _, _, rfl, rfl, SqL.of ((s1.trans s2) _ _ hcl), cAt o2, ?_⟩⟩
      exact hK _ _ rfl same_refl rfl
    intro H2 ws s2 hD2 hw
    rw [filter_yes, map_getD (f := (mkW cs M).col) lod] at hw
    have ew := all2_ints (H := H2) hw
    subst ew
    have s02 := s1.trans s2
    refine ⟨_, rfl, n, rfl, by omega, by omega, fun D3 nD3 => ?_⟩
    refine lcP (walk_range (lo := 0) (n := ((n : Int)).toNat)) (src := List.range n) (by rw [List.length_range, tn]) (sel := fun _ => true) (val := fun a => (LW.ord st).map fun y => (mkW cs M).mrk ((LW.ord st).getD a 0) y)
      (Rel := fun H' v l => ∃ r, v = .ref r ∧ r ≠ D3 ∧ H r = none ∧ H' r = some (.lst (IntsV l))) nD3 (fun H1 H2 v t _ bt ⟨r, e1, e2, e3, e4⟩ => ⟨r, e1, e2, e3, bt _ _ e2 e4⟩) (fun _ _ => trivial)
      (fun i H1 x H1' y => by obtain ⟨rfl, _⟩ := y; exact same_refl) (by omega) ?_ ?_
    · rintro a a' x H3 H3' N Kv ha' s3 ⟨rfl, ex⟩ s3' gD hN hK
      replace ex := rg0 ex
      subst ex
      obtain ⟨han, ea⟩ := List.getElem?_eq_some_iff.mp ha'
      rw [List.getElem_range] at ea
      subst ea
      rw [List.length_range] at han
      obtain ⟨o1, o2⟩ := oAt han
      have s03 := s02.trans s3
      refine ⟨rfl, tyes ⟨_, rfl, n, rfl, by omega, by omega, fun D4 nD4 => ?_⟩⟩
      refine lcP (walk_range (lo := 0) (n := ((n : Int)).toNat)) (src := List.range n) (by rw [List.length_range, tn]) (sel := fun _ => true) (val := fun b => (mkW cs M).mrk ((LW.ord st).getD a 0) ((LW.ord st).getD b 0)) (Rel := fun _ v (i : Int) => v = .int i) nD4 (fun _ _ _ _ _ _ t => t) (fun _ _ => trivial)
        (fun i H1 x H1' y => by obtain ⟨rfl, _⟩ := y; exact same_refl) (by omega) ?_ ?_
      · rintro b b' x H4 H4' N2 Kv2 hb' s4 ⟨rfl, ex⟩ s4' _ hN2 hK2
        replace ex := rg0 ex
        subst ex
        obtain ⟨hbn, eb⟩ := List.getElem?_eq_some_iff.mp hb'
        rw [List.getElem_range] at eb
        subst eb
        rw [List.length_range] at hbn
        obtain ⟨p1, p2⟩ := oAt hbn
        obtain ⟨r, h1, h1'⟩ := rowAt o2
        have s04 := s03.trans s4
        have hD14 := (s2.trans (s3.trans s4)) _ _ hD1
        refine ⟨rfl, tyes ⟨.ref mk, rfl, .ref D1, rfl, _, rfl, D1, _, _, _, rfl, rfl, SqL.of hD14, nats_at o1, mk, _, _, _, rfl, rfl, SqL.of (s04 _ _ hmk.top), h1, .ref D1, rfl, _, rfl, D1, _, _, _, rfl, rfl, SqL.of hD14, nats_at p1, r, _, _, _, rfl, rfl, SqL.of (s04 _ _ (hmk.row _ _ h1')), range_at p2 _, ?_⟩⟩
        exact hK2 _ _ rfl same_refl (by rw [mrkE o2 p2])
      intro H4 ys s4 hD4 hy
      rw [filter_yes, map_getD (f := fun y => (mkW cs M).mrk ((LW.ord st).getD a 0) y) lod] at hy
      have ey := all2_ints (H := H4) hy
      subst ey
      refine hK _ _ rfl s4 ⟨D4, rfl, fun z => ?_, none_back s03 nD4, hD4⟩
      rw [z] at nD4
      exact gD nD4
    intro H3 vs s3 hD3 hv
    rw [filter_yes, map_getD (f := fun x => (LW.ord st).map fun y => (mkW cs M).mrk x y) lod] at hv
    have s03 := s02.trans s3
    refine ⟨by show 2 ≤ sizeLine; decide, fun p np => ?_⟩
    have sp := same_new (o := .tup [.ref D2, .ref D3]) np
    refine q (.ref p) _ (s03.trans sp) ⟨p, D2, D3, vs, rfl, upd_same, none_back s1 nD2, none_back s02 nD3, sp _ _ (s3 _ _ hD2), sp _ _ hD3, hv.imp fun v l ⟨r, e1, _, e2, e3⟩ => ⟨r, e1, e2, sp _ _ e3⟩⟩
end
end LK
set_option autoImplicit false
set_option linter.all false
set_option maxRecDepth 100000
set_option maxHeartbeats 0
set_option synthInstance.maxSize 1000
set_option Elab.async false
namespace LK
open PySem PySem.Spec L2
abbrev rLenS (K : PySem.W.Frag) : List V → Hp → VK → Prop := fun xs H Q => ∃ p ys, xs = [V.ref p] ∧ (SqL K H p ys ∨ SqT K H p ys) ∧ Q (.int ys.length) H
section
variable {P : Program} {w : World} {K : PySem.W.Frag} {mg : Str → Option Value} {base : Heap} {C : Addr}
/-! #### _law_leaf_right -/
theorem scLR : FnScope ["_law_web_here", "_law_colours", "_law_row", "_law_stand", "_law_last", "_law_cell", "_law_told"] ["_law_web_here", "_law_colours", "_law_row"] (defScope sLleaf_right) := ⟨rfl, rfl, rfl, by decide +kernel, rfl, by decide +kernel, by decide +kernel⟩
def spLR (C : Addr) : Sp := fun vs H Q _ => ∃ (a cl : Addr) (W : LW.Web) (v : V) (row : List Nat), vs = [.ref a, .ref cl, v] ∧ WebAt C H a W ∧ Fit W ∧ H cl = some (.lst (IntsV W.cs)) ∧ Tl eNs H v row ∧ row ∈ LW.leaves opsD W ∧ ∀ H', Same H H' → Q (.bl true) H'
theorem ok_LR {f : Addr} {fd : FuncData} (T : Tx K mg C) (F : FN K "_law_leaf_right" sLleaf_right f fd) (GS : Gf P w K mg base 9 "row_stand" ["web", "row"] (spRowS C)) (GI : Gf P w K mg base 3 "is_row" ["web", "thing"] (spIsRow C)) (GW : Gf P w K mg base 9 "worth" ["web", "row"] (spWorth C)) :
    FnOk P w K mg base CX0 10 f fd ["_law_web_here", "_law_colours", "_law_row"] (spLR C) := by
  refine FDok F scLR (fun vs H Q E h => ?_) (fun cdv A outer s H vs Q E hr h => ?_)
  · obtain ⟨a, cl, W, v, row, rfl, _⟩ := h
    rfl
  · obtain ⟨a, cl, W, v, row, rfl, hW, hF, hcl, hv, hm, q⟩ := h
    obtain ⟨b, rxs, rfl, hb, hrt⟩ := tl_row.mp hv
    obtain ⟨y, d⟩ := LW.leaf_way hm
    have n5 := hF.n5
    have nd := y.nd
    have lt := y.lt
    have lrow := row_few nd lt
    have lrx := hrt.len
    refine ⟨_, pss_cons (ps_set (i := 3) scLR.nd rfl (.inl rfl) (pe_f GS hr (by rfl) (pa_cons (pv 0) (pa_cons (pv 2) pa_nil))))
      (pss_cons (ps_if (PW.pt (pw_or (pt_cmpR op_notBl (pe_f GI (hr.mono (by decide)) (by rfl) (pa_cons (pv 0) (pa_cons (pv 2) pa_nil))) pe_bl (nomark _))
          (pw_or1 (pt_cmpR (op_neNil hr.units) (pe_lc (own := [("_law_cell", 5)]) (g := gName 5) (tt := tTest (tOp rNe (tCB (rLenS K) (tCons (tVar 5) tNil)) (tC (.int 1)))) (te := tVar 5) rfl scLR.nd (pi_tup (pv 3)) (blkOk_by (by kernel_rfl))
            (fun _ _ _ _ _ => pg_name (i := 5) scLR.nd rfl (.inl rfl)) (fun _ _ _ _ _ => pts_one (pt_cmpR op_ne (pe_callB call_len_seq (by rfl) T.len PySem.boot_len (pa_cons (pv 5) pa_nil)) pe_int (nomark _))) (fun _ _ _ _ _ => pv 5)) (pe_lst pa_nil) (nomark _)))))
        (pss_one (ps_ret pe_bl)) pss_nil)
      (pss_cons (ps_set (i := 4) scLR.nd rfl (.inl rfl) (pe_ix ix_tup (pe_ix ix_tup (pe_f GW hr (by rfl) (pa_cons (pv 0) (pa_cons (pv 2) pa_nil))) (pe_callB call_len_seq (by rfl) T.len PySem.boot_len (pa_cons (pv 2) pa_nil)) (fun _ _ => rfl)) pe_int (fun _ _ => rfl)))
      (pss_one (ps_ret (pe_cmpR (op_eqD hr.units) (pe_lc (own := [("_law_told", 6)]) (g := gName 6) (tt := tYes) (te := tOp (rIxT K) (tVar 6) (tC (.int 0))) rfl scLR.nd (pi_tup (pv 4)) (blkOk_by (by kernel_rfl))
            (fun _ _ _ _ _ => pg_name (i := 6) scLR.nd rfl (.inl rfl)) (fun _ _ _ _ _ => pts_nil) (fun _ _ _ _ _ => pe_ix ix_tup (pv 6) pe_int (fun _ _ => rfl)))
          (pe_lc (own := [("_law_cell", 5)]) (g := gName 5) (tt := tYes) (te := tOp (rIxL K) (tVar 1) (tOp (rIxT K) (tVar 5) (tC (.int 0)))) rfl scLR.nd (pi_tup (pv 3)) (blkOk_by (by kernel_rfl))
            (fun _ _ _ _ _ => pg_name (i := 5) scLR.nd rfl (.inl rfl)) (fun _ _ _ _ _ => pts_nil) (fun _ _ _ _ _ => pe_ix ix_list (pv 1) (pe_ix ix_tup (pv 5) pe_int (fun _ _ => rfl)) (fun _ _ => rfl))) (nomark _)))))), ?_⟩
    refine ⟨_, rfl, .ref b, rfl, a, W, .ref b, row, rfl, hW, hF, hv, nd, lt, fun u H1 s1 tu => ?_⟩
    obtain ⟨sa, sxs, rfl, hsa, hst⟩ := tl_row.mp tu
    generalize est : LW.rowStand opsD W row = st at *
    have hP : LW.Part W.n st := y.part
    have lod := LW.ord_len hP d
    have lst : st.length = W.n := by
      unfold LW.ord at lod
      rwa [List.length_map] at lod
    have lsx := hst.len
    have one := d.single hP
    refine ⟨_, rfl, .ref b, rfl, a, W, .ref b, row, rfl, hW.same s1, n5, tl_same s1 hv, nd, lt, fun H2 s2 => ?_⟩
    refine ⟨true, true, rfl, rfl, _, rfl, iteF ?_⟩
    have hsa2 := s2 _ _ hsa
    refine ⟨.ref sa, rfl, sa, rfl, ⟨_, SqT.of hsa2⟩, fun D nD => ?_⟩
    refine lcP (walk_tup (xs := sxs)) (src := st) lsx.symm (sel := fun _ => false) (val := fun m => m) (Rel := fun _ _ _ => True) nD (fun _ _ _ _ _ _ t => t) (fun H2 s2 => SqT.of (s2 _ _ hsa2)) (fun i H1 x H1' y => y_at y) (by omega) ?_ ?_
    · rintro i m x H3 H3' N Kv hm3 s3 ⟨rfl, hx⟩ s3' _ hN hK
      obtain ⟨m', hm', tm⟩ := hst.get hx
      rw [hm3] at hm'
      cases hm'
      obtain ⟨x0, rfl⟩ := one m (List.mem_of_getElem? hm3)
      obtain ⟨ca, cxs, rfl, hca, hct⟩ := tl_row.mp (show Tl eNs H1 x [x0] from tm)
      have lcx := hct.len
      refine ⟨rfl, .ref ca, rfl, ca, cxs, rfl, .inr (SqT.of (s3 _ _ (s2 _ _ hca))), rfl, _, rfl, ?_⟩
      rw [lcx]
      exact ite2 (fun e => absurd e (by simp)) fun _ => hN _ rfl same_refl
    · intro H3 zs s3 hD hz
      have lz := hz.len
      have e0 : (st.filter fun _ => false) = [] := List.filter_eq_nil_iff.mpr fun _ _ => by decide
      rw [e0, List.map_nil, List.length_nil] at lz
      have ez := List.length_eq_zero_iff.mp lz
      subst ez
      refine ⟨Nat.zero_le _, fun o3 no3 => ?_⟩
      have s4 := s3.trans (same_new (o := .lst []) no3)
      refine ⟨D, o3, [], rfl, rfl, SqL.of ((same_new no3) _ _ hD), SqL.of upd_same, _, rfl, iteF ?_⟩
      have s14 := s2.trans s4
      have s04 := s1.trans s14
      refine ⟨_, rfl, .ref b, rfl, a, W, .ref b, row, rfl, hW.same s04, hF, tl_same s04 hv, nd, lt, fun u H5 s5 t5 => ?_⟩
      have s05 := s04.trans s5
      obtain ⟨wa, wxs, rfl, hwa, hwt⟩ := tl_row.mp (show Tl eR.row H5 u (LW.worth opsD W row) from t5)
      obtain ⟨lx, hlx, tlx⟩ := ts_at hwt (LW.worth_last (O := opsD) (W := W) (r := row))
      obtain ⟨la, l1, l2, rfl, hla, tl1, tl2⟩ := tl_two.mp (show Tl (eT.two eNs) H5 lx _ from tlx)
      rw [est] at tl1
      obtain ⟨ta, txs, rfl, hta, htt⟩ := tl_row.mp (show Tl eC.row H5 l1 (LW.telling opsD W st) from tl1)
      refine ⟨.ref b, rfl, b, rxs, rfl, .inr (SqT.of (s05 _ _ hb)), wa, wxs, _, .ref la, rfl, rfl, SqT.of hwa, atI_nat (by rw [lrx]; exact hlx), la, _, _, .ref ta, rfl, rfl, SqT.of hla, rfl, ?_⟩
      have ltx := htt.len
      have ltel : (LW.telling opsD W st).length = st.length := by unfold LW.telling; rw [List.length_map]
      refine ⟨.ref ta, rfl, ta, rfl, ⟨_, SqT.of hta⟩, fun D2 nD2 => ?_⟩
      refine lcP (walk_tup (xs := txs)) (src := LW.telling opsD W st) ltx.symm (sel := fun _ => true) (val := fun m => m.1) (Rel := fun _ v (i : Int) => v = .int i) nD2 (fun _ _ _ _ _ _ t => t) (fun H2 s2 => SqT.of (s2 _ _ hta)) (fun i H1 x H1' y => y_at y) (by omega) ?_ ?_
      · rintro i m x H6 H6' N Kv hm6 s6 ⟨rfl, hx⟩ s6' _ hN hK
        obtain ⟨m', hm', tm⟩ := htt.get hx
        rw [hm6] at hm'
        cases hm'
        obtain ⟨ca, c1, c2, c3, rfl, hca, tc1, _, _⟩ := tl_three.mp (show Tl (Enc.num.three Enc.nat eL) H5 x m from tm)
        obtain rfl := tl_num.mp tc1
        refine ⟨rfl, tyes ⟨.ref ca, rfl, ca, _, _, _, rfl, rfl, SqT.of (s6 _ _ hca), rfl, ?_⟩⟩
        exact hK _ _ rfl same_refl rfl
      intro H6 ys s6 hD2 hy
      rw [filter_yes] at hy
      have ey := all2_ints (H := H6) hy
      subst ey
      have s16 := (s14.trans s5).trans s6
      have hsa6 := s16 _ _ hsa
      refine ⟨.ref sa, rfl, sa, rfl, ⟨_, SqT.of hsa6⟩, fun D3 nD3 => ?_⟩
      refine lcP (walk_tup (xs := sxs)) (src := st) lsx.symm (sel := fun _ => true) (val := fun cell => W.col (LW.hd cell)) (Rel := fun _ v (i : Int) => v = .int i) nD3 (fun _ _ _ _ _ _ t => t) (fun H2 s2 => SqT.of (s2 _ _ hsa6)) (fun i H1 x H1' y => y_at y) (by omega) ?_ ?_
      · rintro i m x H7 H7' N Kv hm7 s7 ⟨rfl, hx⟩ s7' _ hN hK
        obtain ⟨m', hm', tm⟩ := hst.get hx
        rw [hm7] at hm'
        cases hm'
        obtain ⟨x0, rfl⟩ := one m (List.mem_of_getElem? hm7)
        have hx0 : x0 < W.n := hP.lt (List.mem_of_getElem? hm7) (List.mem_singleton.mpr rfl)
        obtain ⟨ca, cxs, rfl, hca, hct⟩ := tl_row.mp (show Tl eNs H1 x [x0] from tm)
        obtain ⟨cx, hcx, tcx⟩ := ts_at (i := 0) (b := x0) hct rfl
        obtain rfl := tl_nat.mp tcx
        have s17 := s16.trans s7
        refine ⟨rfl, tyes ⟨.ref cl, rfl, .ref ca, rfl, ca, cxs, _, _, rfl, rfl, SqT.of (s17 _ _ hca), atI_nat (j := 0) hcx, cl, _, _, _, rfl, rfl, SqL.of ((s1.trans s17) _ _ hcl), atI_nat (show (IntsV W.cs)[x0]? = some (.int (W.col x0)) by rw [List.getElem?_map, col_at hx0]; rfl), ?_⟩⟩
        exact hK _ _ rfl same_refl rfl
      intro H7 ws s7 hD3 hw
      rw [filter_yes] at hw
      have ew := all2_ints (H := H7) hw
      subst ew
      refine ⟨dN _, dN _, dp_N (s7 _ _ hD2), dp_N hD3, dN_shaped _, dN_shaped _, ?_⟩
      have ec := LW.leaf_colours hm
      rw [est] at ec
      rw [ec, SeqAt.eqv_refl _ (dN_lay _)]
      exact q _ ((s1.trans s16).trans s7)
end
end LK
set_option autoImplicit false
set_option linter.all false
set_option maxRecDepth 100000
set_option maxHeartbeats 0
set_option synthInstance.maxSize 1000
set_option Elab.async false
namespace LK
open PySem PySem.Spec L2
/-! ### what the law needs of its own values -/
theorem seq_mid {t u : L2.TS} {D : Ends} {σ : St} {H : Hp} (R : St → Hp → Prop) (h1 : ∀ D' : Ends, (∀ σ H, R σ H → D'.nx σ H) → t D' σ H) (h2 : ∀ σ H, R σ H → u D σ H) : tSeq t u D σ H := h1 _ h2
/-- the script, whatever it holds by now -/
def Scr (K : PySem.W.Frag) (H : Hp) (a : Addr) : Prop := ∃ ns : List Int, SqL K H a (ns.map V.int) ∧ ns.length ≤ 63
theorem Scr.same {K : PySem.W.Frag} {H H' : Hp} {a : Addr} (s : Same H H') (h : Scr K H a) : Scr K H' a := by
  obtain ⟨ns, h, l⟩ := h
  refine ⟨ns, ?_, l⟩
  rcases h with h | h
  · refine .inl ?_
    rcases h with h | ⟨o, h⟩
    · exact .inl (s _ _ h)
    · exact .inr ⟨o, s _ _ h⟩
  · exact .inr h
theorem Scr.put {K : PySem.W.Frag} {H : Hp} {a c : Addr} {cs ds : List Int} (hc : H c = some (.lst (IntsV cs))) (ld : ds.length ≤ 63) (h : Scr K H a) : Scr K (upd H c (.lst (IntsV ds))) a := by
  by_cases e : a = c
  · rw [e]
    exact ⟨ds, SqL.of upd_same, ld⟩
  · obtain ⟨ns, h, l⟩ := h
    refine ⟨ns, ?_, l⟩
    rcases h with h | h
    · refine .inl ?_
      rcases h with h | ⟨o, h⟩
      · exact .inl (by rw [upd_ne e]; exact h)
      · exact .inr ⟨o, by rw [upd_ne e]; exact h⟩
    · exact .inr h
theorem but_new {H H1 H2 : Hp} {p : Addr} (n : H p = none) (s : Same H H1) (b : But p H1 H2) : Same H H2 := fun x o h => b x o (fun e => by rw [e, n] at h; cases h) (s x o h)
theorem fit_small {W : LW.Web} (h : W.n ≤ 4) : Fit W := ⟨by omega, fun k => by
  have := List.length_filter_le (fun c => decide (W.col c = k)) (List.range W.n)
  rw [List.length_range] at this
  omega⟩
theorem fit_odd {W : LW.Web} (h : W.n = 5) {d : Nat} (hd : d < 5) (e : W.col d = 17) (ne : ∀ c, c < 5 → c ≠ d → W.col c ≠ 17) : Fit W := ⟨by omega, fun k => by
  have : ((List.range W.n).filter fun c => decide (W.col c = k)).length < (List.range W.n).length := by
    rw [List.length_filter_lt_length_iff_exists]
    by_cases hk : k = 17
    · by_cases h0 : d = 0
      · exact ⟨1, List.mem_range.mpr (by omega), by
          rw [hk]
          have := ne 1 (by omega) (by omega)
          simpa using this⟩
      · exact ⟨0, List.mem_range.mpr (by omega), by
          rw [hk]
          have := ne 0 (by omega) (by omega)
          simpa using this⟩
    · exact ⟨d, List.mem_range.mpr (by omega), by
        rw [e]
        simpa using fun z : (17 : Int) = k => hk z.symm⟩
  rw [List.length_range] at this
  omega⟩
theorem few_ord {n : Nat} (h : n ≤ 5) : (LW.ordF n n).length ≤ 120 := by
  have : n = 0 ∨ n = 1 ∨ n = 2 ∨ n = 3 ∨ n = 4 ∨ n = 5 := by omega
  rcases this with rfl | rfl | rfl | rfl | rfl | rfl <;> decide +kernel
theorem MarksAt.same' {H H' : Hp} {mk : Addr} {rs : List Addr} {n : Nat} {M : Nat → Nat → Int} (m : MarksAt H mk rs n M) (s : Same H H') : MarksAt H' mk rs n M := ⟨s _ _ m.top, m.len, fun i r h => s _ _ (m.row i r h)⟩
/-- the leaves, called with its most -/
structure Gl1 (P : Program) (w : World) (K : PySem.W.Frag) (mg : Str → Option Value) (base : Heap) (C : Addr) : Prop where
  ex : ∃ (f : Addr) (fd : FuncData), mg "leaves" = some (.ref f) ∧ PySem.W.keepIn K (.ref f) = true ∧ KBn K fd ["web", "most"] 1 ["most"] (fun us ws => us ++ ws) (fun vs zs => vs ++ zs) ∧ FnOk P w K mg base CX0 10 f fd ["web", "most"] (spLeaves C)
theorem sqT_in {K : PySem.W.Frag} {H : Hp} {a : Addr} {xs : List V} (h : H a = some (.tup xs)) : SqT K H a xs := SqT.of h
section
variable {P : Program} {w : World} {K : PySem.W.Frag} {mg : Str → Option Value} {base : Heap} {C : Addr}
/-! #### law -/
theorem scLaw : FnScope ["_law_script", "_law_k", "_law_deck_here", "_law_n", "_law_odd", "_law_colours", "_law_marks", "_law_plan", "_law_web_here", "_law_some", "_law_row", "_law_one", "_law_worths", "_law_own", "_law_lowest", "_law_order_here", "_law_forms"] ["_law_script"] (defScope sF_law) := ⟨rfl, rfl, rfl, by decide +kernel, rfl, by decide +kernel, by decide +kernel⟩
def spLaw (K : PySem.W.Frag) : Sp := fun vs H Q _ => ∃ (a : Addr) (ns : List Int), vs = [.ref a] ∧ SqL K H a (ns.map V.int) ∧ ns.length ≤ 63 ∧ ∀ H', Q (.bl true) H'
theorem ok_law {f : Addr} {fd : FuncData} (T : Tx K mg C) (F : FN K "law" sF_law f fd) (GD : Gf P w K mg base 1 "_law_deck" ["_law_script", "_law_k"] (spDeck K)) (GT : Gf P w K mg base 1 "_law_take" ["_law_deck_here", "_law_many"] spTake)
    (GWb : Gf P w K mg base 3 "_law_web" ["_law_deck_here", "_law_n"] spWebL) (GM : Gf P w K mg base 7 "_law_made" ["_law_colours", "_law_marks"] (spMade C)) (GL : Gl1 P w K mg base C) (GR : Gf P w K mg base 10 "_law_leaf_right" ["_law_web_here", "_law_colours", "_law_row"] (spLR C))
    (GW : Gf P w K mg base 9 "worth" ["web", "row"] (spWorth C)) (GO : Gf P w K mg base 1 "_law_orders" ["_law_n"] spOrds) (GK : Gf P w K mg base 1 "_law_keeps" ["_law_colours", "_law_marks", "_law_order_here"] spKeeps)
    (GN : Gf P w K mg base 1 "_law_renamed" ["_law_colours", "_law_marks", "_law_naming"] spRen) (GB : Gf P w K mg base 2 "naming_by" ["stand"] spNam) (GS : Gf P w K mg base 9 "row_stand" ["web", "row"] (spRowS C)) :
    FnOk P w K mg base CX0 11 f fd ["_law_script"] (spLaw K) := by
  obtain ⟨fL, fdL, mL, kL, bL, FL⟩ := GL
  refine FDok F scLaw (fun vs H Q E h => ?_) (fun cdv A outer s H vs Q E hr h => ?_)
  · obtain ⟨a, ns, rfl, _⟩ := h
    rfl
  · obtain ⟨a, ns, rfl, hS0, l63, q⟩ := h
    have r1 := hr.mono (j := 1) (by decide)
    have r9 := hr.mono (j := 9) (by decide)
    refine ⟨_, pss_cons (ps_for PassesOwn.never rfl (pi_range1 (by rfl) T.rng (pa_cons pe_int pa_nil)) (pg_name (i := 1) scLaw.nd rfl (.inl rfl))
      (pss_cons (ps_set (i := 2) scLaw.nd rfl (.inl rfl) (pe_f GD r1 (by rfl) (pa_cons (pv 0) (pa_cons (pv 1) pa_nil))))
      (pss_cons (ps_set (i := 3) scLaw.nd rfl (.inl rfl) (pe_ix ix_list (pe_lst (pa_cons (pe_f GT r1 (by rfl) (pa_cons (pv 2) (pa_cons pe_int pa_nil))) (pa_cons pe_int pa_nil))) (pe_op op_fdiv (pe_f GT r1 (by rfl) (pa_cons (pv 2) (pa_cons pe_int pa_nil))) pe_int) (fun _ _ => rfl)))
      (pss_cons (ps_set (i := 4) scLaw.nd rfl (.inl rfl) (pe_f GT r1 (by rfl) (pa_cons (pv 2) (pa_cons pe_int pa_nil))))
      (pss_cons (ps_asg (pe_f GWb (hr.mono (by decide)) (by rfl) (pa_cons (pv 2) (pa_cons (pv 3) pa_nil))) (pg_tup rfl (pgs_cons (pg_name (i := 5) scLaw.nd rfl (.inr rfl)) (pgs_cons (pg_name (i := 6) scLaw.nd rfl (.inr rfl)) (pgs_cons (pg_name (i := 7) scLaw.nd rfl (.inl rfl)) pgs_nil)))))
      (pss_cons (ps_if (pt_cmpR op_eq (pv 3) pe_int (nomark _)) (pss_one (ps_asg pe_int (pg_sub (pv 5) (pv 4) set_list))) pss_nil)
      (pss_cons (ps_set (i := 8) scLaw.nd rfl (.inr rfl) (pe_f GM (hr.mono (by decide)) (by rfl) (pa_cons (pv 5) (pa_cons (pv 6) pa_nil))))
      (pss_cons (ps_set (i := 9) scLaw.nd rfl (.inl rfl) (pe_callN FL hr (by rfl) mL kL bL pass0 (pa_cons (pv 8) pa_nil) (pk_cons pe_int pk_nil)))
      (pss_cons (ps_if (pt_cmpR (op_neNil hr.units) (pe_lc (own := [("_law_row", 10)]) (g := gName 10) (tt := tNot (tB (tCall (spLR C) [] E0 (tCons (tVar 8) (tCons (tVar 5) (tCons (tVar 10) tNil)))))) (te := tVar 10) rfl scLaw.nd (pi_list (pv 9)) (blkOk_by (by kernel_rfl))
          (fun _ _ _ _ _ => pg_name (i := 10) scLaw.nd rfl (.inl rfl)) (fun _ _ _ _ _ => pts_one (pt_not (pt_val (pe_f GR hr (by rfl) (pa_cons (pv 8) (pa_cons (pv 5) (pa_cons (pv 10) pa_nil))))))) (fun _ _ _ _ _ => pv 10)) (pe_lst pa_nil) (nomark _)) (pss_one (ps_ret pe_bl)) pss_nil)
      (pss_cons (ps_for PassesOwn.never rfl (pi_list (pv 9)) (pg_name (i := 10) scLaw.nd rfl (.inr rfl))
        (pss_one (ps_if (pt_cmpR (op_neNil hr.units) (pe_lc (own := [("_law_one", 11)]) (g := gName 11) (tt := tAnd (tTest (tOp (rNeE eNs) (tVar 11) (tVar 10))) (tTest (tOp (rEqE eNs) (tSl rSlZ (tVar 11) tNoPart (tPart (tCB (rLenS K) (tCons (tVar 10) tNil)))) (tVar 10)))) (te := tVar 11) rfl scLaw.nd (pi_list (pv 9)) (blkOk_by (by kernel_rfl))
            (fun _ _ _ _ _ => pg_name (i := 11) scLaw.nd rfl (.inl rfl)) (fun _ _ _ _ _ => pts_one (PW.pt (pw_and (pt_cmpR (op_neE eNs hr.units) (pv 11) (pv 10) (nomark _)) (pw_and1 (pt_cmpR (op_eqE eNs hr.units) (pe_slice sl_tupZ (pv 11) po_none (po_some (pe_callB call_len_seq (by rfl) T.len PySem.boot_len (pa_cons (pv 10) pa_nil)))) (pv 10) (nomark _))))))
            (fun _ _ _ _ _ => pv 11)) (pe_lst pa_nil) (nomark _)) (pss_one (ps_ret pe_bl)) pss_nil)))
      (pss_cons (ps_set (i := 12) scLaw.nd rfl (.inr rfl) (pe_lc (own := [("_law_row", 10)]) (g := gName 10) (tt := tYes) (te := tCall (spWorth C) [] E0 (tCons (tVar 8) (tCons (tVar 10) tNil))) rfl scLaw.nd (pi_list (pv 9)) (blkOk_by (by kernel_rfl))
          (fun _ _ _ _ _ => pg_name (i := 10) scLaw.nd rfl (.inl rfl)) (fun _ _ _ _ _ => pts_nil) (fun _ _ _ _ _ => pe_f GW r9 (by rfl) (pa_cons (pv 8) (pa_cons (pv 10) pa_nil)))))
      (pss_cons (ps_setLc (i := 14) (own := [("_law_row", 10), ("_law_own", 13)]) (g := gTup K 2 (gCons (gName 10) (gCons (gName 13) gNil))) (tt := tTest (tOp (rEqE eW) (tVar 13) (tCB (rMinD K eW) (tCons (tVar 12) tNil)))) (te := tVar 10) rfl scLaw.nd rfl rfl (sw_true rfl rfl rfl (by kernel_rfl)) (pi_zip (by rfl) T.zp (pa_cons (pv 9) (pa_cons (pv 12) pa_nil))) (blkOk_by (by kernel_rfl))
          (fun _ _ _ _ _ => pg_tup rfl (pgs_cons (pg_name (i := 10) scLaw.nd rfl (.inl rfl)) (pgs_cons (pg_name (i := 13) scLaw.nd rfl (.inl rfl)) pgs_nil)))
          (fun _ _ _ _ _ => pts_one (pt_cmpR (op_eqE eW hr.units) (pv 13) (pe_callB (cr_minD eW rfl hr.units) (by rfl) T.mn PyProof.Rows.boot_min (pa_cons (pv 12) pa_nil)) (nomark _))) (fun _ _ _ _ _ => pv 10))
      (pss_cons (ps_if (pt_cmpR op_ne (pe_callB call_len_seq (by rfl) T.len PySem.boot_len (pa_cons (pv 14) pa_nil))
          (pe_callB call_len_seq (by rfl) T.len PySem.boot_len (pa_cons (pe_lc (own := [("_law_order_here", 15)]) (g := gName 15) (tt := tB (tCall spKeeps [] E0 (tCons (tVar 5) (tCons (tVar 6) (tCons (tVar 15) tNil))))) (te := tVar 15) rfl scLaw.nd (pi_list (pe_f GO r1 (by rfl) (pa_cons (pv 3) pa_nil))) (blkOk_by (by kernel_rfl))
            (fun _ _ _ _ _ => pg_name (i := 15) scLaw.nd rfl (.inl rfl)) (fun _ _ _ _ _ => pts_one (pt_val (pe_f GK r1 (by rfl) (pa_cons (pv 5) (pa_cons (pv 6) (pa_cons (pv 15) pa_nil)))))) (fun _ _ _ _ _ => pv 15)) pa_nil)) (nomark _)) (pss_one (ps_ret pe_bl)) pss_nil)
      (pss_cons (ps_set (i := 16) scLaw.nd rfl (.inr rfl) (pe_lc (own := [("_law_row", 10)]) (g := gName 10) (tt := tYes) (te := tCall spRen [] E0 (tCons (tVar 5) (tCons (tVar 6) (tCons (tCall spNam [] E0 (tCons (tCall (spRowS C) [] E0 (tCons (tVar 8) (tCons (tVar 10) tNil))) tNil)) tNil)))) rfl scLaw.nd (pi_list (pv 14)) (blkOk_by (by kernel_rfl))
          (fun _ _ _ _ _ => pg_name (i := 10) scLaw.nd rfl (.inl rfl)) (fun _ _ _ _ _ => pts_nil) (fun _ _ _ _ _ => pe_f GN r1 (by rfl) (pa_cons (pv 5) (pa_cons (pv 6) (pa_cons (pe_f GB (hr.mono (by decide)) (by rfl) (pa_cons (pe_f GS r9 (by rfl) (pa_cons (pv 8) (pa_cons (pv 10) pa_nil))) pa_nil)) pa_nil))))))
      (pss_one (ps_if (pt_cmpR (op_neNil hr.units) (pe_lc (own := [("_law_own", 13)]) (g := gName 13) (tt := tTest (tOp (rNeD K) (tVar 13) (tOp (rIxL K) (tVar 16) (tC (.int 0))))) (te := tVar 13) rfl scLaw.nd (pi_list (pv 16)) (blkOk_by (by kernel_rfl))
          (fun _ _ _ _ _ => pg_name (i := 13) scLaw.nd rfl (.inl rfl)) (fun _ _ _ _ _ => pts_one (pt_cmpR (op_neD hr.units) (pv 13) (pe_ix ix_list (pv 16) pe_int (fun _ _ => rfl)) (nomark _))) (fun _ _ _ _ _ => pv 13)) (pe_lst pa_nil) (nomark _)) (pss_one (ps_ret pe_bl)) pss_nil))))))))))))))))
      (pss_one (ps_ret pe_bl)), ?_⟩
    have hScr : Scr K H a := ⟨ns, hS0, l63⟩
    refine ⟨2, rfl, by decide, by decide, ?_⟩
    refine for_it (walk_range (lo := 0) (n := ((2 : Int)).toNat)) (fun i σ H1 => (∃ y1 y2 y3 y4 y5 y6 y7 y8 y9 y10 y11 y12 y13 y14 y15 y16, σ = [some (.ref a), y1, y2, y3, y4, y5, y6, y7, y8, y9, y10, y11, y12, y13, y14, y15, y16]) ∧ Scr K H1 a)
      ⟨⟨_, _, _, _, _, _, _, _, _, _, _, _, _, _, _, _, rfl⟩, hScr⟩ (fun _ _ _ _ _ => trivial) ?_ ?_
    · rintro k x σ H0 H0' hk ⟨⟨y1, y2, y3, y4, y5, y6, y7, y8, y9, y10, y11, y12, y13, y14, y15, y16, rfl⟩, sc0⟩ ⟨rfl, ex⟩
      replace ex := rg0 ex
      subst ex
      have hk2 : k < 2 := hk
      obtain ⟨ns1, hS1, l1⟩ := id sc0
      refine ⟨.ref a, rfl, _, rfl, a, ns1, k, rfl, hS1, l1, by omega, fun p H1 s1 np dk1 => ?_⟩
      -- how many corners
      refine ⟨_, rfl, p, 0, 5, rfl, dk1, by omega, by omega, by omega, fun d1 H2 hd1 b2 dk2 => ?_⟩
      refine ⟨by show 2 ≤ sizeLine; decide, fun o no => ?_⟩
      have so := same_new (o := .lst [.int (d1 : Nat), .int 5]) no
      have op := dk2.ne no
      refine ⟨_, rfl, p, 1, 3, rfl, dk2.same so, by omega, by omega, by omega, fun d2 H3 hd2 b3 dk3 => ?_⟩
      obtain ⟨e2, he2, hq2⟩ : ∃ e2 : Nat, (d2 : Int) / 2 = (e2 : Int) ∧ e2 < 2 := ⟨d2 / 2, by omega, by omega⟩
      refine ⟨d2, 2, rfl, rfl, ⟨by decide, by decide⟩, ?_⟩
      obtain ⟨vn, evn, mvn⟩ := atN (xs := [V.int (d1 : Nat), .int 5]) (d := e2) hq2
      rw [← he2] at evn
      obtain ⟨n, rfl, n5⟩ : ∃ n : Nat, vn = V.int (n : Int) ∧ n ≤ 5 := by
        simp only [List.mem_cons, List.not_mem_nil, or_false] at mvn
        rcases mvn with rfl | rfl
        · exact ⟨d1, rfl, by omega⟩
        · exact ⟨5, rfl, by omega⟩
      refine ⟨o, _, _, _, rfl, rfl, SqL.of (b3 _ _ op upd_same), evn, ?_⟩
      -- the odd one
      refine ⟨_, rfl, p, 2, 5, rfl, dk3, by omega, by omega, by omega, fun d3 H4 hd3 b4 dk4 => ?_⟩
      refine ⟨_, rfl, _, rfl, p, 3, n, rfl, dk4, by omega, n5, fun t cl mk v rs M H5 b5 ht hcl hmk okm cln => ?_⟩
      have s5 : Same H0' H5 := but_new np s1 (b2.trans ((But.same so).trans (b3.trans (b4.trans b5))))
      have sc5 := sc0.same s5
      refine ⟨t, _, rfl, SqT.of ht, rfl, _, _, rfl, _, _, rfl, _, _, rfl, rfl, ?_⟩
      obtain ⟨cs, hcl, lcs, pcs⟩ := hcl
      dsimp only
      refine seq_mid (t := tIfS _ _ _) (fun σ H6 => ∃ (cs : List Int), σ = [some (.ref a), some (.int k), some (.ref p), some (.int (cs.length : Nat)), some (.int d3), some (.ref cl), some (.ref mk), some v, y8, y9, y10, y11, y12, y13, y14, y15, y16] ∧ cs.length ≤ 5 ∧
        H6 cl = some (.lst (IntsV cs)) ∧ (∀ c, c ∈ cs → 0 ≤ c ∧ c ≤ 1000000000) ∧ MarksAt H6 mk rs cs.length M ∧ OkM cs.length M ∧ Fit (mkW cs M) ∧ Scr K H6 a) (fun D' hD' => ?_) ?_
      · refine ⟨_, rfl, rfl, _, rfl, ite2 (fun e => ?_) fun e => ?_⟩
        · have en : n = 5 := by
            have e' := of_decide_eq_true e
            have : (n : Int) = 5 := by injection e'
            omega
          subst en
          have hlt : d3 < (IntsV cs).length := by rw [List.length_map]; omega
          refine ⟨.ref cl, rfl, _, rfl, cl, _, _, d3, rfl, rfl, hcl, ixN_nat hlt, ?_⟩
          refine hD' _ _ ⟨cs.set d3 17, ?_, ?_, ?_, ?_, ?_, ?_, ?_, ?_⟩
          · rw [List.length_set, lcs]
            rfl
          · rw [List.length_set]
            omega
          · rw [upd_same]
            unfold IntsV
            rw [List.map_set]
          · intro c hc
            rcases List.mem_or_eq_of_mem_set hc with hc | rfl
            · exact ⟨(pcs c hc).1, (pcs c hc).2.1⟩
            · exact ⟨by decide, by decide⟩
          · rw [List.length_set, lcs]
            refine ⟨?_, hmk.len, fun i r hi => ?_⟩
            · rw [upd_ne (fun e : mk = cl => cln (by rw [← e]; exact List.mem_cons_self))]
              exact hmk.top
            · rw [upd_ne (fun e : r = cl => cln (by rw [← e]; exact List.mem_cons_of_mem _ (List.mem_of_getElem? hi)))]
              exact hmk.row i r hi
          · rw [List.length_set, lcs]
            exact okm
          · refine fit_odd (d := d3) ?_ hd3 ?_ fun c hc hne => ?_
            · show (cs.set d3 17).length = 5
              rw [List.length_set, lcs]
            · show (cs.set d3 17).getD d3 0 = 17
              rw [List.getD_eq_getElem?_getD, List.getElem?_set_self (by omega)]
              rfl
            · show (cs.set d3 17).getD c 0 ≠ 17
              rw [List.getD_eq_getElem?_getD, List.getElem?_set_ne (Ne.symm hne), List.getElem?_eq_getElem (by omega)]
              exact (pcs _ (List.getElem_mem _)).2.2
          · have := sc5.put (ds := cs.set d3 17) hcl (by rw [List.length_set]; omega)
            unfold IntsV at this ⊢
            rw [List.map_set] at this
            exact this
        · have n4 : n ≤ 4 := by
            have : ¬ n = 5 := fun z => e (by rw [z]; rfl)
            omega
          subst lcs
          exact hD' _ _ ⟨cs, rfl, n5, hcl, fun c hc => ⟨(pcs c hc).1, (pcs c hc).2.1⟩, hmk, okm, fit_small n4, sc5⟩
      clear hcl lcs pcs n5 hmk okm sc5 s5 ht b5
      rintro σ H6 ⟨cs, rfl, n5, hcl, hcs, hmk, okm, hF, sc6⟩
      generalize eMW : mkW cs M = W at *
      have ecs : W.cs = cs := by rw [← eMW]; rfl
      have eWn : W.n = cs.length := by rw [← eMW]; rfl
      have dg : ∀ x, x < W.n → W.mrk x x = 0 := fun x hx => by
        rw [eWn] at hx
        rw [← eMW]
        show (if x < cs.length ∧ x < cs.length then M x x else 0) = 0
        rw [if_pos ⟨hx, hx⟩]
        exact (okm x x hx hx).2.2 rfl
      -- the web and its leaves
      refine ⟨_, rfl, _, rfl, cl, mk, cs, rs, M, rfl, hcl, n5, hcs, hmk, okm, fun x H7 s7 hW => ?_⟩
      rw [eMW] at hW
      refine ⟨_, rfl, rfl, rfl, x, W, rfl, hW, hF, fun so ys H8 s8 hso hts => ?_⟩
      have lys := hts.len
      have many := LW.leaf_many (O := opsD) hF.n5
      have leafAt : ∀ {i : Nat} {z : V}, ys[i]? = some z → ∃ r, (LW.leaves opsD W)[i]? = some r ∧ r ∈ LW.leaves opsD W ∧ Tl eNs H8 z r := fun {i z} hz => by
        obtain ⟨r, hr, tr⟩ := hts.get hz
        exact ⟨r, hr, List.mem_of_getElem? hr, tr⟩
      have s68 := s7.trans s8
      have hW8 := hW.same s8
      have hcl8 := s68 _ _ hcl
      -- each leaf is right
      refine ⟨_, rfl, so, rfl, ⟨_, SqL.of hso⟩, fun D nD => ?_⟩
      refine lcP (walk_list (xs := ys)) (src := LW.leaves opsD W) lys.symm (sel := fun _ => false) (val := fun m => m) (Rel := fun _ _ _ => True) nD (fun _ _ _ _ _ _ t => t) (fun H2 s2 => SqL.of (s2 _ _ hso)) (fun i H1 x H1' y => y_at y) (by omega) ?_ ?_
      · rintro i m z H9 H9' N Kv hm9 s9 ⟨rfl, hz⟩ s9' _ hN hK
        obtain ⟨r, hr, mr, tr⟩ := leafAt hz
        refine ⟨rfl, _, rfl, _, rfl, _, rfl, x, cl, W, z, r, rfl, hW8.same s9, hF, ?_, tl_same s9 tr, mr, fun H10 s10 => ?_⟩
        · rw [ecs]
          exact s9 _ _ hcl8
        · exact ⟨true, rfl, iteF (hN _ rfl s10)⟩
      intro H9 zs s9 hD hz
      have lz := hz.len
      rw [show ((LW.leaves opsD W).filter fun _ => false) = [] from List.filter_eq_nil_iff.mpr fun _ _ => by decide, List.map_nil, List.length_nil] at lz
      obtain rfl := List.length_eq_zero_iff.mp lz
      refine ⟨Nat.zero_le _, fun o2 no2 => ?_⟩
      have s10 := s9.trans (same_new (o := .lst []) no2)
      refine ⟨D, o2, [], rfl, rfl, SqL.of ((same_new no2) _ _ hD), SqL.of upd_same, _, rfl, iteF ?_⟩
      generalize upd H9 o2 (.lst []) = H10 at s10
      -- no leaf goes on from another
      refine ⟨_, rfl, so, rfl, ⟨_, SqL.of (s10 _ _ hso)⟩, ?_⟩
      refine for_it (walk_list (xs := ys)) (fun i σ H' => (∃ y10 y11, σ = [some (.ref a), some (.int k), some (.ref p), some (.int (cs.length : Nat)), some (.int d3), some (.ref cl), some (.ref mk), some v, some (.ref x), some (.ref so), y10, y11, y12, y13, y14, y15, y16]) ∧ Same H8 H')
        ⟨⟨_, _, rfl⟩, s10⟩ (fun i σ H' _ z => SqL.of (z.2 _ _ hso)) ?_ ?_
      · rintro i z σ H11 H11' hi ⟨⟨y10, y11, rfl⟩, s11⟩ ⟨rfl, hz⟩
        obtain ⟨r, hr, mr, tr⟩ := leafAt hz
        obtain ⟨ra, rxs, rfl, hra, hrt⟩ := tl_row.mp (show Tl eNs H8 z r from tr)
        have lrx := hrt.len
        refine ⟨_, rfl, so, rfl, ⟨_, SqL.of (s11 _ _ hso)⟩, fun D3 nD3 => ?_⟩
        refine lcP (walk_list (xs := ys)) (src := LW.leaves opsD W) lys.symm (sel := fun _ => false) (val := fun m => m) (Rel := fun _ _ _ => True) nD3 (fun _ _ _ _ _ _ t => t) (fun H2 s2 => SqL.of (s2 _ _ (s11 _ _ hso))) (fun i H1 x H1' y => y_at y) (by omega) ?_ ?_
        · rintro j m z H12 H12' N Kv hm12 s12 ⟨rfl, hz2⟩ s12' _ hN hK
          obtain ⟨r2, hr2, mr2, tr2⟩ := leafAt hz2
          obtain ⟨ra2, rxs2, rfl, hra2, hrt2⟩ := tl_row.mp (show Tl eNs H8 z r2 from tr2)
          have s8' := s11.trans s12
          refine ⟨rfl, _, rfl, _, rfl, r2, r, tl_same s8' tr2, tl_same s8' tr, by decide, _, rfl, ?_⟩
          by_cases er : r2 = r
          · rw [decide_eq_true er]
            exact iteF (iteF (hN _ rfl same_refl))
          · rw [decide_eq_false er]
            refine iteT ⟨_, rfl, _, rfl, ra, rxs, rfl, .inr (SqT.of (s8' _ _ hra)), _, rfl, ra2, rxs2, rfl, s8' _ _ hra2, fun pp H13 s13 hpp => ?_⟩
            rw [cut_take, lrx] at hpp
            refine ⟨_, rfl, r2.take r.length, r, tl_tup (E := Enc.nat) hpp ((ts_same (s8'.trans s13) hrt2).take r.length), tl_same (s8'.trans s13) tr, by decide, _, rfl, ?_⟩
            have ne : ¬ r2.take r.length = r := fun z => er (LW.leaf_prefix mr mr2 (List.prefix_iff_eq_take.mpr z.symm)).symm
            rw [decide_eq_false ne]
            exact iteF (hN _ rfl s13)
        · intro H12 zs s12 hD3 hz3
          have lz := hz3.len
          rw [show ((LW.leaves opsD W).filter fun _ => false) = [] from List.filter_eq_nil_iff.mpr fun _ _ => by decide, List.map_nil, List.length_nil] at lz
          obtain rfl := List.length_eq_zero_iff.mp lz
          refine ⟨Nat.zero_le _, fun o4 no4 => ?_⟩
          exact ⟨D3, o4, [], rfl, rfl, SqL.of ((same_new no4) _ _ hD3), SqL.of upd_same, _, rfl, iteF ⟨⟨_, _, rfl⟩, (s11.trans s12).trans (same_new no4)⟩⟩
      rintro σ H11 ⟨⟨y10', y11', rfl⟩, s11⟩
      -- their worths
      have hso11 := s11 _ _ hso
      refine ⟨_, rfl, so, rfl, ⟨_, SqL.of hso11⟩, fun Dw nDw => ?_⟩
      refine lcP (walk_list (xs := ys)) (src := LW.leaves opsD W) lys.symm (sel := fun _ => true) (val := LW.worth opsD W) (Rel := fun H v r => Tl eW H v r) nDw (fun _ _ _ _ h k t => tl_but h k t) (fun H2 s2 => SqL.of (s2 _ _ hso11)) (fun i H1 x H1' y => y_at y) (by omega) ?_ ?_
      · rintro i m z H12 H12' N Kv hm12 s12 ⟨rfl, hz⟩ s12' _ hN hK
        obtain ⟨r, hr, mr, tr⟩ := leafAt hz
        rw [hm12] at hr
        cases hr
        obtain ⟨yw, _⟩ := LW.leaf_way mr
        refine ⟨rfl, tyes ⟨_, rfl, _, rfl, x, W, z, m, rfl, hW8.same (s11.trans s12), hF, tl_same (s11.trans s12) tr, yw.nd, yw.lt, fun u H13 s13 t13 => ?_⟩⟩
        exact hK u H13 rfl s13 t13
      intro H12 wz s12 hDw hw
      rw [filter_yes] at hw
      have lwz := hw.len
      rw [List.length_map] at lwz
      have s812 := s11.trans s12
      -- the leaves of the least worth
      refine ⟨_, rfl, _, rfl, so, Dw, ys, wz, rfl, SqL.of (s12 _ _ hso11), SqL.of hDw, fun Dl nDl => ?_⟩
      refine lcP (walk_zip (xs := ys) (ys := wz) (n := (LW.leaves opsD W).length) (by omega)) (src := LW.leaves opsD W) rfl (sel := fun r => decide (LW.worth opsD W r = opsD.minW ((LW.leaves opsD W).map (LW.worth opsD W)))) (val := fun r => r) (Rel := fun H v r => Tl eNs H v r) nDl
        (fun _ _ _ _ h k t => tl_but h k t) (fun H2 s2 => ⟨SqL.of (s2 _ _ (s12 _ _ hso11)), SqL.of (s2 _ _ hDw)⟩) (fun i H1 x H1' y => by obtain ⟨tp, x1, x2, rfl, ntp, rfl, _, _⟩ := y; exact same_new ntp) (by omega) ?_ ?_
      · rintro i m z H13 H13' N Kv hm13 s13 ⟨tp, x1, x2, rfl, ntp, rfl, e1, e2⟩ s13' _ hN hK
        obtain ⟨r, hr, mr, tr⟩ := leafAt e1
        rw [hm13] at hr
        cases hr
        obtain ⟨wo, hwo, two⟩ := hw.get e2
        rw [List.getElem?_map, hm13] at hwo
        cases hwo
        refine ⟨tp, _, rfl, SqT.of upd_same, rfl, _, _, rfl, _, _, rfl, rfl, rfl, _, rfl, _, rfl, Dw, wz, (LW.leaves opsD W).map (LW.worth opsD W), rfl, SqL.of (s13' _ _ hDw), ts_same s13' hw, ?_, by decide, fun u hu tu => ?_⟩
        · exact fun z => by
            rw [List.map_eq_nil_iff] at z
            rw [z] at mr
            cases mr
        · refine ⟨LW.worth opsD W m, _, tl_same s13' two, tu, by decide, _, rfl, ite2 (fun e => ?_) fun e => ?_⟩
          · have em : LW.worth opsD W m = opsD.minW ((LW.leaves opsD W).map (LW.worth opsD W)) := of_decide_eq_true e
            exact ⟨_, rfl, hK _ _ (decide_eq_true em) same_refl (tl_same (s812.trans s13') tr)⟩
          · exact hN _ (decide_eq_false fun em => e (decide_eq_true em)) same_refl
      intro H13 zs s13 hDl hzl
      rw [List.map_id'] at hzl
      have tsl : Ts eNs H13 zs (LW.lowest opsD W) := hzl
      have lzs := tsl.len
      have s813 := s812.trans s13
      -- as many as the orders that keep the web
      refine ⟨_, rfl, Dl, zs, rfl, .inl (SqL.of hDl), ?_⟩
      refine ⟨_, rfl, cs.length, rfl, n5, fun po os H14 s14 hpo hos => ?_⟩
      have los := hos.len
      have fo := few_ord n5
      have s614 := s68.trans (s813.trans s14)
      refine ⟨po, rfl, ⟨_, SqL.of hpo⟩, fun Do nDo => ?_⟩
      refine lcP (walk_list (xs := os)) (src := LW.ordF cs.length cs.length) los.symm (sel := LW.keepsB W) (val := fun r => r) (Rel := fun _ _ _ => True) nDo (fun _ _ _ _ _ _ t => t) (fun H2 s2 => SqL.of (s2 _ _ hpo)) (fun i H1 x H1' y => y_at y) (by omega) ?_ ?_
      · rintro i m z H15 H15' N Kv hm15 s15 ⟨rfl, hz⟩ s15' _ hN hK
        obtain ⟨od, hod, ro, rfl, hro⟩ := hos.get hz
        rw [hm15] at hod
        cases hod
        obtain ⟨lo, ndo, lto⟩ := (LW.mem_ordF _ _ _).mp (List.mem_of_getElem? hm15)
        refine ⟨rfl, _, rfl, _, rfl, _, rfl, cl, mk, ro, cs, rs, M, m, rfl, (s614.trans s15) _ _ hcl, n5, hmk.same' (s614.trans s15), s15 _ _ hro, lo, lto, fun H16 s16 => ?_⟩
        rw [eMW]
        refine ⟨_, rfl, ?_⟩
        cases e : LW.keepsB W m with
        | true => exact iteT ⟨_, rfl, hK _ _ e s16 trivial⟩
        | false => exact iteF (hN _ e s16)
      intro H15 qs s15 hDo hq
      have lqs := hq.len
      rw [List.length_map] at lqs
      have same : zs.length = qs.length := by
        rw [lzs, lqs, LW.lowest_len dg]
        unfold LW.auts
        rw [eWn]
      have s615 := s614.trans s15
      have s1315 := s14.trans s15
      refine ⟨Do, qs, rfl, .inl (SqL.of hDo), rfl, _, rfl, ite2 (fun e => absurd e (by rw [same]; simp)) fun _ => ?_⟩
      -- their forms
      have hDl15 := s1315 _ _ hDl
      have lowAt : ∀ {i : Nat} {z : V}, zs[i]? = some z → ∃ r, (LW.lowest opsD W)[i]? = some r ∧ r ∈ LW.lowest opsD W ∧ Tl eNs H13 z r := fun {i z} hz => by
        obtain ⟨r, hr, tr⟩ := tsl.get hz
        exact ⟨r, hr, List.mem_of_getElem? hr, tr⟩
      have lowN : (LW.lowest opsD W).length ≤ (LW.leaves opsD W).length := List.length_filter_le ..
      refine ⟨_, rfl, Dl, rfl, ⟨_, SqL.of hDl15⟩, fun Df nDf => ?_⟩
      refine lcP (walk_list (xs := zs)) (src := LW.lowest opsD W) lzs.symm (sel := fun _ => true) (val := fun r => LW.form W (LW.ord (LW.rowStand opsD W r))) (Rel := fun H' v f => ∃ H0 : Hp, H0 Df ≠ none ∧ FormF H0 H' v f) nDf (fun _ _ _ _ hl b ⟨H0, h0, hf⟩ => ⟨H0, h0, hf.but h0 hl b⟩)
        (fun H2 s2 => SqL.of (s2 _ _ hDl15)) (fun i H1 x H1' y => y_at y) (by omega) ?_ ?_
      · rintro i m z H17 H17' N Kv hm17 s17 ⟨rfl, hz⟩ s17' gD hN hK
        obtain ⟨r, hr, mr, tr⟩ := lowAt hz
        rw [hm17] at hr
        cases hr
        obtain ⟨yw, dw⟩ := LW.leaf_way (List.mem_filter.mp mr).1
        have yp : LW.Part cs.length (LW.rowStand opsD W m) := by rw [← eWn]; exact yw.part
        have s1317 := s1315.trans s17
        have s617 := s615.trans s17
        refine ⟨rfl, tyes ⟨_, rfl, _, rfl, _, rfl, _, rfl, x, W, z, m, rfl, hW8.same (s813.trans s1317), hF, tl_same s1317 tr, yw.nd, yw.lt, fun u H18 s18 tu => ?_⟩⟩
        refine ⟨u, LW.rowStand opsD W m, cs.length, rfl, tu, yp, n5, dw, fun nu H19 s19 hnu => ?_⟩
        have s1719 := s18.trans s19
        refine ⟨cl, mk, nu, cs, rs, M, LW.rowStand opsD W m, rfl, (s617.trans s1719) _ _ hcl, n5, hmk.same' (s617.trans s1719), hnu, yp, dw, fun v H20 s20 hf => ?_⟩
        rw [eMW] at hf
        refine hK v H20 rfl (s1719.trans s20) ⟨H19, ?_, hf⟩
        cases e : H17' Df with
        | none => exact absurd e gD
        | some o => rw [s1719 _ _ e]; exact fun z => nomatch z
      intro H17 fs s17 hDf hfz
      rw [filter_yes] at hfz
      have lfs := hfz.len
      rw [List.length_map] at lfs
      have formAt : ∀ {i : Nat} {z : V}, fs[i]? = some z → ∃ r H0, r ∈ LW.lowest opsD W ∧ FormF H0 H17 z (LW.form W (LW.ord (LW.rowStand opsD W r))) := fun {i z} hz => by
        obtain ⟨g, hg, H0, _, hf⟩ := hfz.get hz
        obtain ⟨hl, eg⟩ := List.getElem?_eq_some_iff.mp hg
        rw [List.getElem_map] at eg
        rw [List.length_map] at hl
        exact ⟨(LW.lowest opsD W)[i], H0, List.getElem_mem _, by rw [eg]; exact hf⟩
      -- all one form
      refine ⟨_, rfl, Df, rfl, ⟨_, SqL.of hDf⟩, fun De nDe => ?_⟩
      refine lcP (walk_list (xs := fs)) (src := LW.lowest opsD W) lfs.symm (sel := fun _ => false) (val := fun r => r) (Rel := fun _ _ _ => True) nDe (fun _ _ _ _ _ _ t => t) (fun H2 s2 => SqL.of (s2 _ _ hDf)) (fun i H1 x H1' y => y_at y) (by omega) ?_ ?_
      · rintro i m z H18 H18' N Kv hm18 s18 ⟨rfl, hz⟩ s18' _ hN hK
        obtain ⟨r, Ha, mr, fr⟩ := formAt hz
        have h0 : 0 < fs.length := by
          have := (List.getElem?_eq_some_iff.mp hz).1
          omega
        have hz0 : fs[0]? = some fs[0] := List.getElem?_eq_getElem h0
        obtain ⟨r0, Hb, mr0, fr0⟩ := formAt hz0
        refine ⟨rfl, _, rfl, _, rfl, Df, fs, 0, fs[0], rfl, rfl, SqL.of (s18 _ _ hDf), atI_nat (j := 0) hz0, dF _, dF _, dp_F (fr.same s18), dp_F (fr0.same s18), dF_shaped _, dF_shaped _, _, rfl, ?_⟩
        rw [LW.lowest_form dg mr mr0, SeqAt.eqv_refl _ (dF_lay _)]
        exact iteF (hN _ rfl same_refl)
      intro H18 es s18 hDe hez
      have lz := hez.len
      rw [show ((LW.lowest opsD W).filter fun _ => false) = [] from List.filter_eq_nil_iff.mpr fun _ _ => by decide, List.map_nil, List.length_nil] at lz
      obtain rfl := List.length_eq_zero_iff.mp lz
      refine ⟨Nat.zero_le _, fun o5 no5 => ?_⟩
      have s19 := same_new (o := .lst []) no5
      exact ⟨De, o5, [], rfl, rfl, SqL.of (s19 _ _ hDe), SqL.of upd_same, _, rfl, iteF ⟨⟨_, _, _, _, _, _, _, _, _, _, _, _, _, _, _, _, rfl⟩, sc6.same (s615.trans (s17.trans (s18.trans s19)))⟩⟩
    · rintro σ H1 ⟨⟨y1, y2, y3, y4, y5, y6, y7, y8, y9, y10, y11, y12, y13, y14, y15, y16, rfl⟩, _⟩
      exact q H1
end
end LK
set_option Elab.async false
set_option linter.all false
set_option maxRecDepth 100000
set_option maxHeartbeats 0
namespace LK
open PySem PySem.Spec PyProof.Rows L2
/-! ### the head -/
def dF_is_whole : He.DefD := ⟨("is_whole", none), "is_whole", "is_whole", defArgs sF_is_whole, defBody sF_is_whole, defScope sF_is_whole, [], []⟩
def dF_is_colour : He.DefD := ⟨("is_colour", none), "is_colour", "is_colour", defArgs sF_is_colour, defBody sF_is_colour, defScope sF_is_colour, [], []⟩
def dF_is_mark : He.DefD := ⟨("is_mark", none), "is_mark", "is_mark", defArgs sF_is_mark, defBody sF_is_mark, defScope sF_is_mark, [], []⟩
def dF_by_colours : He.DefD := ⟨("by_colours", none), "by_colours", "by_colours", defArgs sF_by_colours, defBody sF_by_colours, defScope sF_by_colours, [], []⟩
def dF_cell_of : He.DefD := ⟨("cell_of", none), "cell_of", "cell_of", defArgs sF_cell_of, defBody sF_cell_of, defScope sF_cell_of, [], []⟩
def dF_pair : He.DefD := ⟨("pair", none), "pair", "pair", defArgs sF_pair, defBody sF_pair, defScope sF_pair, [], []⟩
def dF_look : He.DefD := ⟨("look", none), "look", "look", defArgs sF_look, defBody sF_look, defScope sF_look, [], []⟩
def dF_groups : He.DefD := ⟨("groups", none), "groups", "groups", defArgs sF_groups, defBody sF_groups, defScope sF_groups, [], []⟩
def dF_next_stand : He.DefD := ⟨("next_stand", none), "next_stand", "next_stand", defArgs sF_next_stand, defBody sF_next_stand, defScope sF_next_stand, [], []⟩
def dF_rounds : He.DefD := ⟨("rounds", none), "rounds", "rounds", defArgs sF_rounds, defBody sF_rounds, defScope sF_rounds, [], []⟩
def dF_refined : He.DefD := ⟨("refined", none), "refined", "refined", defArgs sF_refined, defBody sF_refined, defScope sF_refined, [], []⟩
def dF_root : He.DefD := ⟨("root", none), "root", "root", defArgs sF_root, defBody sF_root, defScope sF_root, [], []⟩
def dF_told_cell : He.DefD := ⟨("told_cell", none), "told_cell", "told_cell", defArgs sF_told_cell, defBody sF_told_cell, defScope sF_told_cell, [], []⟩
def dF_telling : He.DefD := ⟨("telling", none), "telling", "telling", defArgs sF_telling, defBody sF_telling, defScope sF_telling, [], []⟩
def dF_is_row : He.DefD := ⟨("is_row", none), "is_row", "is_row", defArgs sF_is_row, defBody sF_is_row, defScope sF_is_row, [], []⟩
def dF_check_row : He.DefD := ⟨("check_row", none), "check_row", "check_row", defArgs sF_check_row, defBody sF_check_row, defScope sF_check_row, [], []⟩
def dF_singled : He.DefD := ⟨("singled", none), "singled", "singled", defArgs sF_singled, defBody sF_singled, defScope sF_singled, [], []⟩
def dF_row_stand : He.DefD := ⟨("row_stand", none), "row_stand", "row_stand", defArgs sF_row_stand, defBody sF_row_stand, defScope sF_row_stand, [], []⟩
def dF_told_row : He.DefD := ⟨("told_row", none), "told_row", "told_row", defArgs sF_told_row, defBody sF_told_row, defScope sF_told_row, [], []⟩
def dF_target : He.DefD := ⟨("target", none), "target", "target", defArgs sF_target, defBody sF_target, defScope sF_target, [], []⟩
def dF_kids_behind : He.DefD := ⟨("kids_behind", none), "kids_behind", "kids_behind", defArgs sF_kids_behind, defBody sF_kids_behind, defScope sF_kids_behind, [], []⟩
def dF_worth : He.DefD := ⟨("worth", none), "worth", "worth", defArgs sF_worth, defBody sF_worth, defScope sF_worth, [], []⟩
def dF_naming_by : He.DefD := ⟨("naming_by", none), "naming_by", "naming_by", defArgs sF_naming_by, defBody sF_naming_by, defScope sF_naming_by, [], []⟩
def dF_leaves : He.DefD := ⟨("leaves", none), "leaves", "leaves", defArgs sF_leaves, defBody sF_leaves, defScope sF_leaves, [], [("most", .int 60)]⟩
def dF_is_corner : He.DefD := ⟨("is_corner", none), "is_corner", "is_corner", defArgs sF_is_corner, defBody sF_is_corner, defScope sF_is_corner, [], []⟩
def dF_is_arrow : He.DefD := ⟨("is_arrow", none), "is_arrow", "is_arrow", defArgs sF_is_arrow, defBody sF_is_arrow, defScope sF_is_arrow, [], []⟩
def dF_checked_colours : He.DefD := ⟨("checked_colours", none), "checked_colours", "checked_colours", defArgs sF_checked_colours, defBody sF_checked_colours, defScope sF_checked_colours, [], []⟩
def dF_checked_arrows : He.DefD := ⟨("checked_arrows", none), "checked_arrows", "checked_arrows", defArgs sF_checked_arrows, defBody sF_checked_arrows, defScope sF_checked_arrows, [], []⟩
def dMinit : He.DefD := ⟨("Web", some "__init__"), "__init__", "Web.__init__", defArgs sMinit, defBody sMinit, defScope sMinit, [.adr (He.dflAt ("Web", some "__init__") 0)], []⟩
def dMmark : He.DefD := ⟨("Web", some "mark"), "mark", "Web.mark", defArgs sMmark, defBody sMmark, defScope sMmark, [], []⟩
def dMlen : He.DefD := ⟨("Web", some "__len__"), "__len__", "Web.__len__", defArgs sMlen, defBody sMlen, defScope sMlen, [], []⟩
def dLdeck : He.DefD := ⟨("_law_deck", none), "_law_deck", "_law_deck", defArgs sLdeck, defBody sLdeck, defScope sLdeck, [], []⟩
def dLtake : He.DefD := ⟨("_law_take", none), "_law_take", "_law_take", defArgs sLtake, defBody sLtake, defScope sLtake, [], []⟩
def dLorder : He.DefD := ⟨("_law_order", none), "_law_order", "_law_order", defArgs sLorder, defBody sLorder, defScope sLorder, [], []⟩
def dLkept : He.DefD := ⟨("_law_kept", none), "_law_kept", "_law_kept", defArgs sLkept, defBody sLkept, defScope sLkept, [], []⟩
def dLring : He.DefD := ⟨("_law_ring", none), "_law_ring", "_law_ring", defArgs sLring, defBody sLring, defScope sLring, [], []⟩
def dLrings : He.DefD := ⟨("_law_rings", none), "_law_rings", "_law_rings", defArgs sLrings, defBody sLrings, defScope sLrings, [], []⟩
def dLweb : He.DefD := ⟨("_law_web", none), "_law_web", "_law_web", defArgs sLweb, defBody sLweb, defScope sLweb, [], []⟩
def dLmade : He.DefD := ⟨("_law_made", none), "_law_made", "_law_made", defArgs sLmade, defBody sLmade, defScope sLmade, [], []⟩
def dLrenamed : He.DefD := ⟨("_law_renamed", none), "_law_renamed", "_law_renamed", defArgs sLrenamed, defBody sLrenamed, defScope sLrenamed, [], []⟩
def dLorders : He.DefD := ⟨("_law_orders", none), "_law_orders", "_law_orders", defArgs sLorders, defBody sLorders, defScope sLorders, [], []⟩
def dLkeeps : He.DefD := ⟨("_law_keeps", none), "_law_keeps", "_law_keeps", defArgs sLkeeps, defBody sLkeeps, defScope sLkeeps, [], []⟩
def dLleaf_right : He.DefD := ⟨("_law_leaf_right", none), "_law_leaf_right", "_law_leaf_right", defArgs sLleaf_right, defBody sLleaf_right, defScope sLleaf_right, [], []⟩
def dF_law : He.DefD := ⟨("law", none), "law", "law", defArgs sF_law, defBody sF_law, defScope sF_law, [], []⟩
def fn : List He.DefD := [dF_is_whole, dF_is_colour, dF_is_mark, dF_by_colours, dF_cell_of, dF_pair, dF_look, dF_groups, dF_next_stand, dF_rounds, dF_refined, dF_root, dF_told_cell, dF_telling, dF_is_row, dF_check_row, dF_singled, dF_row_stand, dF_told_row, dF_target, dF_kids_behind, dF_worth, dF_naming_by, dF_leaves, dF_is_corner, dF_is_arrow, dF_checked_colours, dF_checked_arrows, dMinit, dMmark, dMlen, dLdeck, dLtake, dLorder, dLkept, dLring, dLrings, dLweb, dLmade, dLrenamed, dLorders, dLkeeps, dLleaf_right, dF_law]
def fa : List He.Fa := [.glo "is_whole", .glo "is_colour", .glo "is_mark", .glo "by_colours", .glo "cell_of", .glo "pair", .glo "look", .glo "groups", .glo "next_stand", .glo "rounds", .glo "refined", .glo "root", .glo "told_cell", .glo "telling", .glo "is_row", .glo "check_row", .glo "singled", .glo "row_stand", .glo "told_row", .glo "target", .glo "kids_behind", .glo "worth", .glo "naming_by", .glo "leaves", .glo "is_corner", .glo "is_arrow", .glo "checked_colours", .glo "checked_arrows", .glo "_law_deck", .glo "_law_take", .glo "_law_order", .glo "_law_kept", .glo "_law_ring", .glo "_law_rings", .glo "_law_web", .glo "_law_made", .glo "_law_renamed", .glo "_law_orders", .glo "_law_keeps", .glo "_law_leaf_right", .glo "law", .free "abs", .free "len", .free "isinstance", .free "enumerate", .free "range", .free "tuple", .free "list", .free "sorted", .free "min", .free "max", .free "reversed", .free "zip", .free "all", .free "int", .free "bool", .int "MOST" 12, .int "GREATEST" 1000000000, .glo "Web", .cls "Web", .noat "Web" "colours", .noat "Web" "arrows", .noat "Web" "marks", .meth "Web" "mark", .meth "Web" "__len__", .mkr "Web"]
def lo1 : List PySem.Str := ["LikewebsError", "NoWeb", "NoStand", "NoRow", "TooMany", "MOST", "GREATEST", "FEW", "is_whole", "is_colour", "is_mark", "by_colours", "cell_of", "pair", "look", "groups", "next_stand", "rounds", "refined", "root", "told_cell", "telling", "is_row", "check_row", "singled", "row_stand", "told_row", "target"]
def lo2 : List PySem.Str := ["kids_behind", "worth", "naming_by", "leaves", "is_corner", "is_arrow", "checked_colours", "checked_arrows", "Web", "_law_deck", "_law_take", "_law_order", "_law_kept", "_law_ring", "_law_rings", "_law_web", "_law_made", "_law_renamed", "_law_orders", "_law_keeps", "_law_leaf_right"]
abbrev R : PySem.W.OpenRow := PySem.W.OpenLaw.row PySem.Challenge.rw_likewebs_k26_whole_leaves_of_the_least_w
abbrev hk : PySem.W.Hook := He.hookD 5 fa fn
def ob (s : PySem.W.SharedT) : He.AlD := He.obsDG 5 fa fn (HandSHeadRun.getT s)
theorem ob_eq (s : PySem.W.SharedT) : ob s = hk.obs s.abs := He.obsDG_eq (HandSHeadRun.getT_eq s)
theorem run (w : World) : HandSHeadRun.RunEq R (PySem.W.view R.prog [57]) hk ob 4000 (lo1 ++ lo2) w := by
  intro os
  kernel_rfl
end LK
set_option Elab.async false
set_option linter.all false
set_option maxRecDepth 100000
set_option maxHeartbeats 0
namespace LK
open PySem PySem.Spec PyProof.Rows L2
/-! ### each def with its promise -/
theorem gfOf {P : Program} {w : World} {K : PySem.W.Frag} {mg : Str → Option Value} {base : Heap} {k : Nat} {x qual : Str} {params : Arguments} {body : List Stmt} {scope : Scope} {dvs : List V} {kws : List (Str × V)} {f : Addr} {fd : FuncData} {ps : List Str} {sp : Sp} (F : FunD K x qual params body scope dvs kws f fd)
    (hg : mg x = some (.ref f)) (b : Binds K fd ps []) (o : FnOk P w K mg base CX0 k f fd ps sp) : Gf P w K mg base k x ps sp := ⟨f, fd, hg, F.kp, b, o⟩
theorem facts {P : Program} {w : World} {K : PySem.W.Frag} {h : Heap} {mg : Str → Option Value} {f : Addr} (X : K.In h) (G : h.Ns mainGlobals mg) (hfa : mg ("law" : Str) = some (.ref f)) (c : He.SaysD fa fn K) :
    ∃ fd : FuncData, (∀ (s : Shared) (v : Value), BindsTo s fd ⟨[v], []⟩ [("_law_script", v)]) ∧ ∀ base : Heap, K.In base → base.Ns mainGlobals mg → FnOk P w K mg base CX0 11 f fd ["_law_script"] (spLaw K) := by
  generalize eC : He.ga K "Web" = C
  have T : Tx K mg C := by
    rw [← eC]
    exact ⟨He.cls_ok (c.fact 59 (f := .cls "Web") rfl), He.noat_ok (c.fact 60 (f := .noat "Web" "colours") rfl), He.noat_ok (c.fact 61 (f := .noat "Web" "arrows") rfl), He.noat_ok (c.fact 62 (f := .noat "Web" "marks") rfl), He.free_ok X G (c.fact 41 (f := .free "abs") rfl), He.free_ok X G (c.fact 42 (f := .free "len") rfl), He.free_ok X G (c.fact 43 (f := .free "isinstance") rfl), He.free_ok X G (c.fact 44 (f := .free "enumerate") rfl), He.free_ok X G (c.fact 45 (f := .free "range") rfl), He.free_ok X G (c.fact 46 (f := .free "tuple") rfl), He.free_ok X G (c.fact 47 (f := .free "list") rfl), He.free_ok X G (c.fact 48 (f := .free "sorted") rfl), He.free_ok X G (c.fact 49 (f := .free "min") rfl), He.free_ok X G (c.fact 50 (f := .free "max") rfl), He.free_ok X G (c.fact 51 (f := .free "reversed") rfl), He.free_ok X G (c.fact 52 (f := .free "zip") rfl), He.free_ok X G (c.fact 53 (f := .free "all") rfl), He.free_ok X G (c.fact 54 (f := .free "int") rfl), He.free_ok X G (c.fact 55 (f := .free "bool") rfl)⟩
  have N : Tc mg := by
    obtain ⟨t1, h1⟩ := He.int_ok X G (c.fact 56 (f := .int "MOST" 12) rfl)
    obtain ⟨t2, h2⟩ := He.int_ok X G (c.fact 57 (f := .int "GREATEST" 1000000000) rfl)
    exact ⟨⟨_, h1, t1, rfl⟩, ⟨_, h2, t2, rfl⟩⟩
  have mW : mg "Web" = some (.ref C) := by
    rw [← eC]
    exact He.glo_ok X G (c.fact 58 (f := .glo "Web") rfl)
  have Mm : Meth K C "mark" (He.ma K C "mark") := by
    rw [← eC]
    exact He.meth_ok (c.fact 63 (f := .meth "Web" "mark") rfl)
  have Ml : Meth K C "__len__" (He.ma K C "__len__") := by
    rw [← eC]
    exact He.meth_ok (c.fact 64 (f := .meth "Web" "__len__") rfl)
  have M0 : Mk K C (He.ma K C "__init__") := by
    rw [← eC]
    exact He.mkr_ok (c.fact 65 (f := .mkr "Web") rfl)
  obtain ⟨fdM, FM⟩ := c.def_ 29 (d := dMmark) rfl
  obtain ⟨fdl, Fl⟩ := c.def_ 30 (d := dMlen) rfl
  obtain ⟨fdI, FI⟩ := c.def_ 28 (d := dMinit) rfl
  have eM : He.fAd K ("Web", some "mark") = He.ma K C "mark" := by rw [← eC]; rfl
  have el : He.fAd K ("Web", some "__len__") = He.ma K C "__len__" := by rw [← eC]; rfl
  have eI : He.fAd K ("Web", some "__init__") = He.ma K C "__init__" := by rw [← eC]; rfl
  have FM : FunD K "mark" "Web.mark" (defArgs sMmark) (defBody sMmark) (defScope sMmark) [] [] (He.ma K C "mark") fdM := by
    rw [← eM]
    exact FM
  have Fl : FunD K "__len__" "Web.__len__" (defArgs sMlen) (defBody sMlen) (defScope sMlen) [] [] (He.ma K C "__len__") fdl := by
    rw [← el]
    exact Fl
  obtain ⟨dI, FI⟩ : ∃ dI : V, FunD K "__init__" "Web.__init__" (defArgs sMinit) (defBody sMinit) (defScope sMinit) [dI] [] (He.ma K C "__init__") fdI := by
    rw [← eI]
    exact ⟨_, FI⟩
  have bM : Binds K fdM ["self", "a", "b"] [] := FM.bindsN fun _ _ _ _ _ _ us hl => match us, hl with | [_, _, _], _ => rfl
  have bL : Binds K fdl ["self"] [] := Fl.bindsN fun _ _ _ _ _ _ us hl => match us, hl with | [_], _ => rfl
  have bI : Binds K fdI ["self", "colours", "arrows"] [] := by
    obtain ⟨ds, r, b⟩ := FI.binds1 (ps := ["self", "colours", "arrows"]) 3 1 (by simp) rfl fun T kV doc pm an cdv ct us its hl h2 => match us, hl, its, h2 with | [_, _, _], _, [_], _ => ⟨_, rfl, rfl⟩
    cases r
    exact b
  obtain ⟨fd_is_whole, F_is_whole⟩ := c.def_ 0 (d := dF_is_whole) rfl
  obtain ⟨fd_is_colour, F_is_colour⟩ := c.def_ 1 (d := dF_is_colour) rfl
  obtain ⟨fd_is_mark, F_is_mark⟩ := c.def_ 2 (d := dF_is_mark) rfl
  obtain ⟨fd_by_colours, F_by_colours⟩ := c.def_ 3 (d := dF_by_colours) rfl
  obtain ⟨fd_cell_of, F_cell_of⟩ := c.def_ 4 (d := dF_cell_of) rfl
  obtain ⟨fd_pair, F_pair⟩ := c.def_ 5 (d := dF_pair) rfl
  obtain ⟨fd_look, F_look⟩ := c.def_ 6 (d := dF_look) rfl
  obtain ⟨fd_groups, F_groups⟩ := c.def_ 7 (d := dF_groups) rfl
  obtain ⟨fd_next_stand, F_next_stand⟩ := c.def_ 8 (d := dF_next_stand) rfl
  obtain ⟨fd_rounds, F_rounds⟩ := c.def_ 9 (d := dF_rounds) rfl
  obtain ⟨fd_refined, F_refined⟩ := c.def_ 10 (d := dF_refined) rfl
  obtain ⟨fd_root, F_root⟩ := c.def_ 11 (d := dF_root) rfl
  obtain ⟨fd_told_cell, F_told_cell⟩ := c.def_ 12 (d := dF_told_cell) rfl
  obtain ⟨fd_telling, F_telling⟩ := c.def_ 13 (d := dF_telling) rfl
  obtain ⟨fd_is_row, F_is_row⟩ := c.def_ 14 (d := dF_is_row) rfl
  obtain ⟨fd_check_row, F_check_row⟩ := c.def_ 15 (d := dF_check_row) rfl
  obtain ⟨fd_singled, F_singled⟩ := c.def_ 16 (d := dF_singled) rfl
  obtain ⟨fd_row_stand, F_row_stand⟩ := c.def_ 17 (d := dF_row_stand) rfl
  obtain ⟨fd_told_row, F_told_row⟩ := c.def_ 18 (d := dF_told_row) rfl
  obtain ⟨fd_target, F_target⟩ := c.def_ 19 (d := dF_target) rfl
  obtain ⟨fd_kids_behind, F_kids_behind⟩ := c.def_ 20 (d := dF_kids_behind) rfl
  obtain ⟨fd_worth, F_worth⟩ := c.def_ 21 (d := dF_worth) rfl
  obtain ⟨fd_naming_by, F_naming_by⟩ := c.def_ 22 (d := dF_naming_by) rfl
  obtain ⟨fd_is_corner, F_is_corner⟩ := c.def_ 24 (d := dF_is_corner) rfl
  obtain ⟨fd_is_arrow, F_is_arrow⟩ := c.def_ 25 (d := dF_is_arrow) rfl
  obtain ⟨fd_checked_colours, F_checked_colours⟩ := c.def_ 26 (d := dF_checked_colours) rfl
  obtain ⟨fd_checked_arrows, F_checked_arrows⟩ := c.def_ 27 (d := dF_checked_arrows) rfl
  obtain ⟨fd__law_deck, F__law_deck⟩ := c.def_ 31 (d := dLdeck) rfl
  obtain ⟨fd__law_take, F__law_take⟩ := c.def_ 32 (d := dLtake) rfl
  obtain ⟨fd__law_order, F__law_order⟩ := c.def_ 33 (d := dLorder) rfl
  obtain ⟨fd__law_ring, F__law_ring⟩ := c.def_ 35 (d := dLring) rfl
  obtain ⟨fd__law_kept, F__law_kept⟩ := c.def_ 34 (d := dLkept) rfl
  obtain ⟨fd__law_rings, F__law_rings⟩ := c.def_ 36 (d := dLrings) rfl
  obtain ⟨fd__law_web, F__law_web⟩ := c.def_ 37 (d := dLweb) rfl
  obtain ⟨fd__law_made, F__law_made⟩ := c.def_ 38 (d := dLmade) rfl
  obtain ⟨fd__law_renamed, F__law_renamed⟩ := c.def_ 39 (d := dLrenamed) rfl
  obtain ⟨fd__law_orders, F__law_orders⟩ := c.def_ 40 (d := dLorders) rfl
  obtain ⟨fd__law_keeps, F__law_keeps⟩ := c.def_ 41 (d := dLkeeps) rfl
  obtain ⟨fd__law_leaf_right, F__law_leaf_right⟩ := c.def_ 42 (d := dLleaf_right) rfl
  obtain ⟨fd_leaves, F_leaves⟩ := c.def_ 23 (d := dF_leaves) rfl
  obtain ⟨fd_law, F_law⟩ := c.def_ 43 (d := dF_law) rfl
  have e := hfa.symm.trans (He.glo_ok X G (c.fact 40 (f := .glo "law") rfl))
  cases e
  have b := FunD.bindsA (ps := ["_law_script"]) F_law fun _ _ _ _ _ _ us hl => match us, hl with | [_], _ => rfl
  obtain ⟨mvl, bl⟩ := FunD.kbinds0 (ps := ["web", "most"]) F_leaves 1 ["most"] [] (fun vs _ zs => vs ++ zs) (by simp [dF_leaves, He.DefD.kws]) (fun q hq => by cases hq) (fun r1 _ r3 => r1.append r3) fun D doc pm an cdv ct us mv ws l1 l2 l3 => match us, l1, mv, l2, ws, l3 with | [_], _, [], _, [_], _ => rfl
  refine ⟨fd_law, fun s v => b s [v] rfl, fun base _ _ => ?_⟩
  have GM : FnOk P w K mg base CX0 1 (He.ma K C "mark") fdM ["self", "a", "b"] (spMark C) := ok_mark T FM
  have GLn : FnOk P w K mg base CX0 1 (He.ma K C "__len__") fdl ["self"] (spLen C) := ok_len T Fl
  have G_is_whole : Gf P w K mg base 1 "is_whole" ["thing"] spWhole := gfOf F_is_whole (He.glo_ok X G (c.fact 0 (f := .glo "is_whole") rfl)) (F_is_whole.bindsN fun _ _ _ _ _ _ us hl => match us, hl with | [_], _ => rfl) (ok_whole T F_is_whole)
  have G_is_colour : Gf P w K mg base 2 "is_colour" ["thing"] spCol := gfOf F_is_colour (He.glo_ok X G (c.fact 1 (f := .glo "is_colour") rfl)) (F_is_colour.bindsN fun _ _ _ _ _ _ us hl => match us, hl with | [_], _ => rfl) (ok_col N F_is_colour G_is_whole)
  have G_is_mark : Gf P w K mg base 2 "is_mark" ["thing"] spMk := gfOf F_is_mark (He.glo_ok X G (c.fact 2 (f := .glo "is_mark") rfl)) (F_is_mark.bindsN fun _ _ _ _ _ _ us hl => match us, hl with | [_], _ => rfl) (ok_mk N F_is_mark G_is_whole)
  have G_by_colours : Gf P w K mg base 1 "by_colours" ["web"] (spByC C) := gfOf F_by_colours (He.glo_ok X G (c.fact 3 (f := .glo "by_colours") rfl)) (F_by_colours.bindsN fun _ _ _ _ _ _ us hl => match us, hl with | [_], _ => rfl) (ok_byC T F_by_colours)
  have G_cell_of : Gf P w K mg base 1 "cell_of" ["stand", "corner"] spCell := gfOf F_cell_of (He.glo_ok X G (c.fact 4 (f := .glo "cell_of") rfl)) (F_cell_of.bindsN fun _ _ _ _ _ _ us hl => match us, hl with | [_, _], _ => rfl) (ok_cell T F_cell_of)
  have G_pair : Gf P w K mg base 2 "pair" ["web", "corner", "other"] (spPair C) := gfOf F_pair (He.glo_ok X G (c.fact 5 (f := .glo "pair") rfl)) (F_pair.bindsN fun _ _ _ _ _ _ us hl => match us, hl with | [_, _, _], _ => rfl) (ok_pair T F_pair Mm GM bM)
  have G_look : Gf P w K mg base 3 "look" ["web", "stand", "corner"] (spLook C) := gfOf F_look (He.glo_ok X G (c.fact 6 (f := .glo "look") rfl)) (F_look.bindsN fun _ _ _ _ _ _ us hl => match us, hl with | [_, _, _], _ => rfl) (ok_look T F_look G_pair)
  have G_groups : Gf P w K mg base 4 "groups" ["web", "stand", "cell"] (spGroups C) := gfOf F_groups (He.glo_ok X G (c.fact 7 (f := .glo "groups") rfl)) (F_groups.bindsN fun _ _ _ _ _ _ us hl => match us, hl with | [_, _, _], _ => rfl) (ok_groups T F_groups G_look)
  have G_next_stand : Gf P w K mg base 5 "next_stand" ["web", "stand"] (spNext C) := gfOf F_next_stand (He.glo_ok X G (c.fact 8 (f := .glo "next_stand") rfl)) (F_next_stand.bindsN fun _ _ _ _ _ _ us hl => match us, hl with | [_, _], _ => rfl) (ok_next T F_next_stand G_groups)
  have G_rounds : Gf P w K mg base 6 "rounds" ["web", "stand"] (spRounds C) := gfOf F_rounds (He.glo_ok X G (c.fact 9 (f := .glo "rounds") rfl)) (F_rounds.bindsN fun _ _ _ _ _ _ us hl => match us, hl with | [_, _], _ => rfl) (ok_rounds T F_rounds G_next_stand)
  have G_refined : Gf P w K mg base 7 "refined" ["web", "stand"] (spRefined C) := gfOf F_refined (He.glo_ok X G (c.fact 10 (f := .glo "refined") rfl)) (F_refined.bindsN fun _ _ _ _ _ _ us hl => match us, hl with | [_, _], _ => rfl) (ok_refined F_refined G_rounds)
  have G_root : Gf P w K mg base 8 "root" ["web"] (spRoot C) := gfOf F_root (He.glo_ok X G (c.fact 11 (f := .glo "root") rfl)) (F_root.bindsN fun _ _ _ _ _ _ us hl => match us, hl with | [_], _ => rfl) (ok_root F_root G_by_colours G_refined)
  have G_told_cell : Gf P w K mg base 4 "told_cell" ["web", "stand", "cell"] (spToldC C) := gfOf F_told_cell (He.glo_ok X G (c.fact 12 (f := .glo "told_cell") rfl)) (F_told_cell.bindsN fun _ _ _ _ _ _ us hl => match us, hl with | [_, _, _], _ => rfl) (ok_toldC T F_told_cell G_look)
  have G_telling : Gf P w K mg base 5 "telling" ["web", "stand"] (spTelling C) := gfOf F_telling (He.glo_ok X G (c.fact 13 (f := .glo "telling") rfl)) (F_telling.bindsN fun _ _ _ _ _ _ us hl => match us, hl with | [_, _], _ => rfl) (ok_telling T F_telling G_told_cell)
  have G_is_row : Gf P w K mg base 3 "is_row" ["web", "thing"] (spIsRow C) := gfOf F_is_row (He.glo_ok X G (c.fact 14 (f := .glo "is_row") rfl)) (F_is_row.bindsN fun _ _ _ _ _ _ us hl => match us, hl with | [_, _], _ => rfl) (ok_isRow T F_is_row G_is_whole Ml GLn bL)
  have G_check_row : Gf P w K mg base 4 "check_row" ["web", "thing"] (spCheck C) := gfOf F_check_row (He.glo_ok X G (c.fact 15 (f := .glo "check_row") rfl)) (F_check_row.bindsN fun _ _ _ _ _ _ us hl => match us, hl with | [_, _], _ => rfl) (ok_check F_check_row G_is_row)
  have G_singled : Gf P w K mg base 8 "singled" ["web", "stand", "corner"] (spSing C) := gfOf F_singled (He.glo_ok X G (c.fact 16 (f := .glo "singled") rfl)) (F_singled.bindsN fun _ _ _ _ _ _ us hl => match us, hl with | [_, _, _], _ => rfl) (ok_sing T F_singled G_cell_of G_refined)
  have G_row_stand : Gf P w K mg base 9 "row_stand" ["web", "row"] (spRowS C) := gfOf F_row_stand (He.glo_ok X G (c.fact 17 (f := .glo "row_stand") rfl)) (F_row_stand.bindsN fun _ _ _ _ _ _ us hl => match us, hl with | [_, _], _ => rfl) (ok_rowS F_row_stand G_check_row G_root G_singled)
  have G_told_row : Gf P w K mg base 6 "told_row" ["web", "stand", "row"] (spToldR C) := gfOf F_told_row (He.glo_ok X G (c.fact 18 (f := .glo "told_row") rfl)) (F_told_row.bindsN fun _ _ _ _ _ _ us hl => match us, hl with | [_, _, _], _ => rfl) (ok_toldR T F_told_row G_telling G_cell_of)
  have G_target : Gf P w K mg base 1 "target" ["stand"] spTgt := gfOf F_target (He.glo_ok X G (c.fact 19 (f := .glo "target") rfl)) (F_target.bindsN fun _ _ _ _ _ _ us hl => match us, hl with | [_], _ => rfl) (ok_tgt T F_target)
  have G_kids_behind : Gf P w K mg base 9 "kids_behind" ["web", "stand", "row"] (spKids C) := gfOf F_kids_behind (He.glo_ok X G (c.fact 20 (f := .glo "kids_behind") rfl)) (F_kids_behind.bindsN fun _ _ _ _ _ _ us hl => match us, hl with | [_, _, _], _ => rfl) (ok_kids T F_kids_behind G_target G_told_row G_singled)
  have G_worth : Gf P w K mg base 9 "worth" ["web", "row"] (spWorth C) := gfOf F_worth (He.glo_ok X G (c.fact 21 (f := .glo "worth") rfl)) (F_worth.bindsN fun _ _ _ _ _ _ us hl => match us, hl with | [_, _], _ => rfl) (ok_worth T F_worth G_check_row G_root G_singled G_told_row)
  have G_naming_by : Gf P w K mg base 2 "naming_by" ["stand"] spNam := gfOf F_naming_by (He.glo_ok X G (c.fact 22 (f := .glo "naming_by") rfl)) (F_naming_by.bindsN fun _ _ _ _ _ _ us hl => match us, hl with | [_], _ => rfl) (ok_nam T F_naming_by G_target)
  have G_is_corner : Gf P w K mg base 2 "is_corner" ["many", "thing"] spCor := gfOf F_is_corner (He.glo_ok X G (c.fact 24 (f := .glo "is_corner") rfl)) (F_is_corner.bindsN fun _ _ _ _ _ _ us hl => match us, hl with | [_, _], _ => rfl) (ok_cor F_is_corner G_is_whole)
  have G_is_arrow : Gf P w K mg base 3 "is_arrow" ["many", "row"] spArr := gfOf F_is_arrow (He.glo_ok X G (c.fact 25 (f := .glo "is_arrow") rfl)) (F_is_arrow.bindsN fun _ _ _ _ _ _ us hl => match us, hl with | [_, _], _ => rfl) (ok_arr T F_is_arrow G_is_corner G_is_mark)
  have G_checked_colours : Gf P w K mg base 3 "checked_colours" ["colours"] spCC := gfOf F_checked_colours (He.glo_ok X G (c.fact 26 (f := .glo "checked_colours") rfl)) (F_checked_colours.bindsN fun _ _ _ _ _ _ us hl => match us, hl with | [_], _ => rfl) (ok_cc T N F_checked_colours G_is_colour)
  have G_checked_arrows : Gf P w K mg base 4 "checked_arrows" ["many", "arrows"] spCA := gfOf F_checked_arrows (He.glo_ok X G (c.fact 27 (f := .glo "checked_arrows") rfl)) (F_checked_arrows.bindsN fun _ _ _ _ _ _ us hl => match us, hl with | [_, _], _ => rfl) (ok_ca T F_checked_arrows G_is_arrow)
  have G__law_deck : Gf P w K mg base 1 "_law_deck" ["_law_script", "_law_k"] (spDeck K) := gfOf F__law_deck (He.glo_ok X G (c.fact 28 (f := .glo "_law_deck") rfl)) (F__law_deck.bindsN fun _ _ _ _ _ _ us hl => match us, hl with | [_, _], _ => rfl) (ok_deck T F__law_deck)
  have G__law_take : Gf P w K mg base 1 "_law_take" ["_law_deck_here", "_law_many"] spTake := gfOf F__law_take (He.glo_ok X G (c.fact 29 (f := .glo "_law_take") rfl)) (F__law_take.bindsN fun _ _ _ _ _ _ us hl => match us, hl with | [_, _], _ => rfl) (ok_take F__law_take)
  have G__law_order : Gf P w K mg base 2 "_law_order" ["_law_deck_here", "_law_n"] spOrd := gfOf F__law_order (He.glo_ok X G (c.fact 30 (f := .glo "_law_order") rfl)) (F__law_order.bindsN fun _ _ _ _ _ _ us hl => match us, hl with | [_, _], _ => rfl) (ok_ord T F__law_order G__law_take)
  have G__law_ring : Gf P w K mg base 1 "_law_ring" ["_law_naming", "_law_a"] spRing := gfOf F__law_ring (He.glo_ok X G (c.fact 32 (f := .glo "_law_ring") rfl)) (F__law_ring.bindsN fun _ _ _ _ _ _ us hl => match us, hl with | [_, _], _ => rfl) (ok_ring F__law_ring)
  have G__law_kept : Gf P w K mg base 2 "_law_kept" ["_law_deck_here", "_law_naming", "_law_menu", "_law_colours", "_law_marks"] spKept := gfOf F__law_kept (He.glo_ok X G (c.fact 31 (f := .glo "_law_kept") rfl)) (F__law_kept.bindsN fun _ _ _ _ _ _ us hl => match us, hl with | [_, _, _, _, _], _ => rfl) (ok_kept T F__law_kept G__law_take G__law_ring)
  have G__law_rings : Gf P w K mg base 2 "_law_rings" ["_law_deck_here", "_law_order_here", "_law_mark", "_law_marks"] spRings := gfOf F__law_rings (He.glo_ok X G (c.fact 33 (f := .glo "_law_rings") rfl)) (F__law_rings.bindsN fun _ _ _ _ _ _ us hl => match us, hl with | [_, _, _, _], _ => rfl) (ok_rings T F__law_rings G__law_take)
  have G__law_web : Gf P w K mg base 3 "_law_web" ["_law_deck_here", "_law_n"] spWebL := gfOf F__law_web (He.glo_ok X G (c.fact 34 (f := .glo "_law_web") rfl)) (F__law_web.bindsN fun _ _ _ _ _ _ us hl => match us, hl with | [_, _], _ => rfl) (ok_webL T F__law_web G__law_take G__law_order G__law_kept G__law_rings)
  have GI : FnOk P w K mg base CX0 5 (He.ma K C "__init__") fdI ["self", "colours", "arrows"] (spInit C) := ok_init T FI G_checked_colours G_checked_arrows
  have G__law_made : Gf P w K mg base 7 "_law_made" ["_law_colours", "_law_marks"] (spMade C) := gfOf F__law_made (He.glo_ok X G (c.fact 35 (f := .glo "_law_made") rfl)) (F__law_made.bindsN fun _ _ _ _ _ _ us hl => match us, hl with | [_, _], _ => rfl) (ok_made T F__law_made M0 GI bI mW)
  have G__law_renamed : Gf P w K mg base 1 "_law_renamed" ["_law_colours", "_law_marks", "_law_naming"] spRen := gfOf F__law_renamed (He.glo_ok X G (c.fact 36 (f := .glo "_law_renamed") rfl)) (F__law_renamed.bindsN fun _ _ _ _ _ _ us hl => match us, hl with | [_, _, _], _ => rfl) (ok_ren T F__law_renamed)
  have G__law_orders : Gf P w K mg base 1 "_law_orders" ["_law_n"] spOrds := gfOf F__law_orders (He.glo_ok X G (c.fact 37 (f := .glo "_law_orders") rfl)) (F__law_orders.bindsN fun _ _ _ _ _ _ us hl => match us, hl with | [_], _ => rfl) (ok_ords T F__law_orders)
  have G__law_keeps : Gf P w K mg base 1 "_law_keeps" ["_law_colours", "_law_marks", "_law_order_here"] spKeeps := gfOf F__law_keeps (He.glo_ok X G (c.fact 38 (f := .glo "_law_keeps") rfl)) (F__law_keeps.bindsN fun _ _ _ _ _ _ us hl => match us, hl with | [_, _, _], _ => rfl) (ok_keeps T F__law_keeps)
  have G__law_leaf_right : Gf P w K mg base 10 "_law_leaf_right" ["_law_web_here", "_law_colours", "_law_row"] (spLR C) := gfOf F__law_leaf_right (He.glo_ok X G (c.fact 39 (f := .glo "_law_leaf_right") rfl)) (F__law_leaf_right.bindsN fun _ _ _ _ _ _ us hl => match us, hl with | [_, _, _], _ => rfl) (ok_LR T F__law_leaf_right G_row_stand G_is_row G_worth)
  have GL : Gl1 P w K mg base C := ⟨_, fd_leaves, He.glo_ok X G (c.fact 23 (f := .glo "leaves") rfl), F_leaves.kp, bl, ok_leaves T F_leaves G_root G_target G_kids_behind G_singled⟩
  exact ok_law T F_law G__law_deck G__law_take G__law_web G__law_made GL G__law_leaf_right G_worth G__law_orders G__law_keeps G__law_renamed G_naming_by G_row_stand
end LK
open PySem PySem.W PySem.Calls PyProof.Rows
set_option Elab.async false
set_option linter.all false
set_option maxRecDepth 100000
set_option maxHeartbeats 0
open PySem PySem.W PySem.Calls PyProof.Rows
theorem PySem.Challenge.cw_likewebs_k26_whole_leaves_of_the_least_w_holds : PySem.Challenge.rw_likewebs_k26_whole_leaves_of_the_least_w.Holds := by
  w_on; o_law
  refine HandSHeadRun.head_any (r := OpenLaw.row PySem.Challenge.rw_likewebs_k26_whole_leaves_of_the_least_w) (q := view (OpenLaw.row PySem.Challenge.rw_likewebs_k26_whole_leaves_of_the_least_w).prog [57]) (H := LK.hk) (ob := LK.ob) (M := 4000) (loose := LK.lo1 ++ LK.lo2)
    (d := HandSHeadRun.topDef (OpenLaw.row PySem.Challenge.rw_likewebs_k26_whole_leaves_of_the_least_w).prog 57) (kwd := []) LK.ob_eq
    (by kernel_rfl) (fun s => by kernel_rfl) LK.run (by kernel_rfl) (by kernel_rfl) (by kernel_rfl) (by rfl) (by first | assumption | decide +kernel) (by decide +kernel) ⟨rfl, rfl, rfl, rfl, rfl, by decide +kernel⟩ ?hw ?hc
  case hw => w_witness2
  case hc =>
    refine L2.walk_ofE (l := PySem.Challenge.rw_likewebs_k26_whole_leaves_of_the_least_w) (n := 63) (k := 11) (x := "_law_script") (CX := L2.CX0) rfl (by decide) (by kernel_rfl) ⟨rfl, by decide, by decide⟩ ?F (fun _ _ _ _ z => z)
    intro w mg fa h Y G hmg0
    obtain ⟨K, KX, c⟩ := Y
    have hmg : mg ("law" : PySem.Str) = some (.ref fa) := by
      have e : (HandSHeadRun.topDef (OpenLaw.row PySem.Challenge.rw_likewebs_k26_whole_leaves_of_the_least_w).prog 57).name = ("law" : PySem.Str) := by kernel_rfl
      rw [← e]
      exact hmg0
    obtain ⟨fd, hb, hF⟩ := LK.facts (P := (PySem.Challenge.rw_likewebs_k26_whole_leaves_of_the_least_w).prog) (w := w) KX G hmg c
    exact ⟨K, fd, LK.spLaw K, KX, hb, fun H a ns hl _ hS => ⟨a, ns, rfl, hS, hl, fun _ => rfl⟩, hF⟩
