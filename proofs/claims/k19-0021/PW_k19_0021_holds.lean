import PyProof.Rows.All
import Wide.All
import OpenK.AllK
import Wide.FinOn
import PySem.Challenge.RW_k19_0021
set_option Elab.async false
set_option linter.unusedVariables false
set_option linter.unusedSectionVars false
namespace Mine
theorem cut_len {l : List Int} {a n : Nat} (h : a + n ≤ l.length) {x y : Int} (ex : x = (a : Int)) (ey : y = ((a + n : Nat) : Int)) : ((l.take y.toNat).drop x.toNat).length = n := by
  subst ex ey
  rw [List.length_drop, List.length_take, Int.toNat_natCast, Int.toNat_natCast, Nat.min_eq_left h, Nat.add_sub_cancel_left]
theorem cut_le {l : List Int} {a b : Nat} : ((l.take b).drop a).length ≤ b - a := by
  rw [List.length_drop, List.length_take]
  exact Nat.sub_le_sub_right (Nat.min_le_left _ _) _

/-- words that a head opens -/
noncomputable def hsize (h : Int) : Int := if 0 ≤ h then h + 1 else -h
theorem hsize_pos (h : Int) : 1 ≤ hsize h := by unfold hsize; split <;> lia

/-- a block: its head opens just its own words -/
noncomputable def OkP (p : List Int) : Prop := ∃ h t, p = h :: t ∧ hsize h = (p.length : Int)
/-- a tail that leads beyond the end -/
noncomputable def BadT (p : List Int) : Prop := ∃ h t, p = h :: t ∧ (p.length : Int) < hsize h

/-- (address, words, is it free) of each block, the first at o -/
noncomputable def blks (o : Int) : List (List Int) → List (Int × Int × Bool)
  | [] => []
  | p :: r => (o, (p.length : Int), decide (p.headD 0 < 0)) :: blks (o + p.length) r

theorem blks_append (o : Int) (ps qs : List (List Int)) : blks o (ps ++ qs) = blks o ps ++ blks (o + ps.flatten.length) qs := by
  induction ps generalizing o with
  | nil => simp [blks]
  | cons p r ih => simp [blks, ih, Int.add_assoc]

theorem blks_length (o : Int) (ps : List (List Int)) : (blks o ps).length = ps.length := by
  induction ps generalizing o with
  | nil => rfl
  | cons p r ih => simp [blks, ih]

/-- what holds between two turns of blocks_of's loop, ahead of place j -/
noncomputable def BInv (ps : List (List Int)) (j : Int) (out : List (Int × Int × Bool)) (a : Int) : Prop :=
  ∃ k, k ≤ ps.length ∧ out = blks 0 (ps.take k) ∧ a = ((ps.take k).flatten.length : Int) ∧ j ≤ a

theorem binv_start {ps} : BInv ps 0 [] 0 := ⟨0, Nat.zero_le _, by simp [blks], by simp, by lia⟩

theorem binv_skip {ps j out a} (h : BInv ps j out a) (hj : j ≠ a) : BInv ps (j + 1) out a := by
  obtain ⟨k, h1, h2, h3, h4⟩ := h
  exact ⟨k, h1, h2, h3, by lia⟩

theorem flat_take_lt {ps : List (List Int)} {k : Nat} (h : k < ps.length) : ps.flatten = (ps.take k).flatten ++ (ps[k] ++ (ps.drop (k + 1)).flatten) := by
  have : ps = ps.take k ++ (ps[k] :: ps.drop (k + 1)) := by
    rw [List.getElem_cons_drop]; exact (List.take_append_drop k ps).symm
  calc ps.flatten = (ps.take k ++ (ps[k] :: ps.drop (k + 1))).flatten := congrArg List.flatten this
    _ = _ := by rw [List.flatten_append, List.flatten_cons]

/-- at a block's place: it is the tail, or a block -/
theorem binv_at {mem : List Int} {ps : List (List Int)} {tl : List Int} {j : Int} {out a} (hm : mem = ps.flatten ++ tl) (hok : ∀ p ∈ ps, OkP p) (ht : tl = [] ∨ BadT tl)
    (h : BInv ps j out a) (hja : j = a) (hlt : j < mem.length) :
    (j + hsize (mem.getD j.toNat 0) > mem.length ∧ BadT tl) ∨
    (j + hsize (mem.getD j.toNat 0) ≤ mem.length ∧ BInv ps (j + 1) (out ++ [(j, hsize (mem.getD j.toNat 0), decide (mem.getD j.toNat 0 < 0))]) (j + hsize (mem.getD j.toNat 0))) := by
  obtain ⟨k, h1, h2, h3, h4⟩ := h
  subst hja
  by_cases hk : k < ps.length
  · right
    have hf := flat_take_lt hk
    obtain ⟨hd, t, e1, e2⟩ := hok _ (List.getElem_mem hk)
    have hjn : j.toNat = (ps.take k).flatten.length := by lia
    have hget : mem.getD j.toNat 0 = hd := by
      rw [hm, hf, hjn, List.getD_eq_getElem?_getD, List.append_assoc, List.getElem?_append_right (Nat.le_refl _), Nat.sub_self, e1]
      simp
    have hp := hsize_pos hd
    have hlen : (mem.length : Int) = (ps.take k).flatten.length + (ps[k].length + (ps.drop (k+1)).flatten.length) + tl.length := by
      rw [hm, List.length_append, hf, List.length_append, List.length_append]; lia
    rw [hget]
    refine ⟨by lia, k + 1, by lia, ?_, ?_, by lia⟩
    · rw [List.take_succ_eq_append_getElem hk, blks_append, h2]
      congr 1
      simp only [blks, e1, List.headD_cons, Int.zero_add, ← h3]
      rw [e2, e1]
    · rw [List.take_succ_eq_append_getElem hk, List.flatten_append]
      simp only [List.length_append, List.flatten_cons, List.flatten_nil, List.append_nil]
      lia
  · left
    have hk' : ps.take k = ps := List.take_of_length_le (by lia)
    rw [hk'] at h3
    have hl : mem.length = ps.flatten.length + tl.length := by rw [hm, List.length_append]
    rcases ht with rfl | ht
    · rw [List.length_nil] at hl; lia
    · refine ⟨?_, ht⟩
      obtain ⟨hd, t, e1, e2⟩ := ht
      have hget : mem.getD j.toNat 0 = hd := by
        rw [hm, show j.toNat = ps.flatten.length by lia, List.getD_eq_getElem?_getD, List.getElem?_append_right (Nat.le_refl _), Nat.sub_self, e1]
        simp
      rw [hget]
      lia

/-- behind the loop -/
theorem binv_end {mem : List Int} {ps : List (List Int)} {tl : List Int} {out a} (hm : mem = ps.flatten ++ tl) (hok : ∀ p ∈ ps, OkP p) (h : BInv ps mem.length out a) : tl = [] ∧ out = blks 0 ps := by
  obtain ⟨k, h1, h2, h3, h4⟩ := h
  have hl : mem.length = ps.flatten.length + tl.length := by rw [hm, List.length_append]
  by_cases hk : k < ps.length
  · have hf := flat_take_lt hk
    obtain ⟨hd, t, e1, e2⟩ := hok _ (List.getElem_mem hk)
    have hp := hsize_pos hd
    have : ps.flatten.length = (ps.take k).flatten.length + (ps[k].length + (ps.drop (k+1)).flatten.length) := by
      rw [hf, List.length_append, List.length_append]
    lia
  · have hk' : ps.take k = ps := List.take_of_length_le (by lia)
    rw [hk'] at h2 h3
    exact ⟨List.length_eq_zero_iff.mp (by lia), h2⟩
end Mine
namespace Mine

/-- the words xs written into m from place a on -/
noncomputable def wr (m : List Int) (a : Nat) (xs : List Int) : List Int := m.take a ++ xs ++ m.drop (a + xs.length)
theorem wr_nil {m : List Int} {a : Nat} : wr m a [] = m := by simp [wr]
theorem wr_len {m : List Int} {a : Nat} {xs : List Int} (h : a + xs.length ≤ m.length) : (wr m a xs).length = m.length := by
  simp only [wr, List.length_append, List.length_take, List.length_drop]; lia
theorem wr_snoc {m : List Int} {a : Nat} {xs : List Int} {x : Int} (h : a + xs.length < m.length) : (wr m a xs).set (a + xs.length) x = wr m a (xs ++ [x]) := by
  unfold wr
  rw [List.set_append_right (h := by simp only [List.length_append, List.length_take]; lia)]
  have e1 : a + xs.length - (m.take a ++ xs).length = 0 := by simp only [List.length_append, List.length_take]; lia
  rw [e1, List.drop_eq_getElem_cons h, List.set_cons_zero, List.length_append, List.length_singleton, ← Nat.add_assoc]
  simp
theorem wr_piece {u p v xs : List Int} (h : xs.length ≤ p.length) : wr (u ++ (p ++ v)) u.length xs = u ++ ((xs ++ p.drop xs.length) ++ v) := by
  unfold wr
  rw [List.take_left, ← List.drop_drop, List.drop_left, List.drop_append_of_le_length h]
  simp

noncomputable def fits (need : Nat) (p : List Int) : Bool := decide (p.headD 0 < 0) && decide (need ≤ p.length)
/-- what allocate writes into a block that fits -/
noncomputable def fitW (fs p : List Int) : List Int := (fs.length : Int) :: (fs ++ (if fs.length + 1 < p.length then [(fs.length : Int) + 1 - p.length] else []))
theorem fitW_len {fs p : List Int} (h : fs.length + 1 ≤ p.length) : (fitW fs p).length ≤ p.length := by
  unfold fitW
  split <;> simp <;> lia
theorem blks_get {pre post : List (List Int)} {p : List Int} : (blks 0 (pre ++ p :: post))[pre.length]? = some ((pre.flatten.length : Int), (p.length : Int), decide (p.headD 0 < 0)) := by
  rw [blks_append, List.getElem?_append_right (by rw [blks_length]; exact Nat.le_refl _), blks_length, Nat.sub_self]
  simp [blks]
theorem blks_at : ∀ {ps : List (List Int)} {o : Int} {i : Nat} {q : Int × Int × Bool}, (blks o ps)[i]? = some q → ∃ p, ps[i]? = some p ∧ q.2.1 = (p.length : Int) ∧ q.2.2 = decide (p.headD 0 < 0)
  | [], o, i, q, h => by simp [blks] at h
  | p :: r, o, 0, q, h => by
    simp only [blks, List.getElem?_cons_zero, Option.some.injEq] at h; subst h; exact ⟨p, rfl, rfl, rfl⟩
  | p :: r, o, i + 1, q, h => by
    simp only [blks, List.getElem?_cons_succ] at h
    obtain ⟨p', h1, h2⟩ := blks_at h
    exact ⟨p', by simpa using h1, h2⟩
end Mine
namespace Mine

theorem wr_app {m q : List Int} {a : Nat} {xs : List Int} (h : a + xs.length ≤ m.length) : wr (m ++ q) a xs = wr m a xs ++ q := by
  unfold wr
  rw [List.take_append_of_le_length (by lia), List.drop_append_of_le_length h]
  simp
/-- a free block of k words -/
noncomputable def freeI (k : Nat) : List Int := if k = 0 then [] else -(k : Int) :: List.replicate (k - 1) 0
theorem freeI_len (k : Nat) : (freeI k).length = k := by
  unfold freeI
  split
  · subst_vars; rfl
  · rw [List.length_cons, List.length_replicate]; lia
theorem freeI_ok {k : Nat} (h : 1 ≤ k) : OkP (freeI k) := by
  refine ⟨-(k : Int), List.replicate (k - 1) 0, ?_, ?_⟩
  · unfold freeI; rw [if_neg (by lia)]
  · rw [freeI_len]; unfold hsize; rw [if_neg (by lia)]; lia
theorem freeI_fits {k n : Nat} (h : 1 ≤ k) : fits n (freeI k) = decide (n ≤ k) := by
  unfold fits
  rw [freeI_len]
  unfold freeI
  rw [if_neg (by lia), List.headD_cons, decide_eq_true (by lia), Bool.true_and]
theorem fit_free {fs : List Int} {k : Nat} (h : fs.length + 1 ≤ k) : fitW fs (freeI k) ++ (freeI k).drop (fitW fs (freeI k)).length = (fs.length : Int) :: (fs ++ freeI (k - (fs.length + 1))) := by
  unfold fitW
  rw [freeI_len]
  by_cases q : fs.length + 1 < k
  · rw [if_pos q]
    have hk : ¬ k = 0 := by lia
    have hk2 : ¬ (k - (fs.length + 1)) = 0 := by lia
    simp only [freeI, if_neg hk, if_neg hk2, List.length_cons, List.length_append, List.length_nil, List.drop_succ_cons, List.drop_replicate, List.cons_append, List.append_assoc, List.nil_append]
    congr 3
    · lia
    · congr 1; lia
  · obtain rfl : k = fs.length + 1 := by lia
    rw [if_neg q, List.append_nil]
    have : (freeI (fs.length + 1)).drop ((fs.length : Int) :: fs).length = [] := List.drop_of_length_le (by rw [freeI_len]; exact Nat.le_refl _)
    rw [this]
    simp [freeI]

/-- what law 11 knows between two turns -/
inductive St (fs : List Int) (ps : List (List Int)) (w : List Int) (place : Int) (ok : Bool) : Prop
  | oom : ok = false → (∀ q ∈ ps, fits (fs.length + 1) q = false) → w = ps.flatten → place = -1 → St fs ps w place ok
  | fit (pre post : List (List Int)) (p : List Int) : ok = true → ps = pre ++ p :: post → (∀ q ∈ pre, fits (fs.length + 1) q = false) → fits (fs.length + 1) p = true → w = wr ps.flatten pre.flatten.length (fitW fs p) → place = pre.flatten.length → St fs ps w place ok
theorem st_start {fs : List Int} : St fs [] [] (-1) false := .oom rfl (fun _ h => (nomatch h)) rfl rfl
theorem flat_snoc {ps : List (List Int)} {q : List Int} : (ps ++ [q]).flatten = ps.flatten ++ q := by simp
theorem st_same {fs : List Int} {ps : List (List Int)} {w q : List Int} {place : Int} {ok : Bool} (h : St fs ps w place ok) (hq : ok = true ∨ fits (fs.length + 1) q = false) : St fs (ps ++ [q]) (w ++ q) place ok := by
  rcases h with ⟨h1, h2, h3, h4⟩ | ⟨pre, post, p, h1, h2, h3, h4, h5, h6⟩
  · refine .oom h1 (fun x hx => ?_) (by rw [h3, flat_snoc]) h4
    rcases List.mem_append.mp hx with hx | hx
    · exact h2 x hx
    · rw [List.mem_singleton.mp hx]
      rcases hq with hq | hq
      · rw [h1] at hq; cases hq
      · exact hq
  · refine .fit pre (post ++ [q]) p h1 (by rw [h2]; simp) h3 h4 ?_ h6
    have hp : fs.length + 1 ≤ p.length := by
      unfold fits at h4
      simp at h4
      lia
    have hl : pre.flatten.length + (fitW fs p).length ≤ ps.flatten.length := by
      rw [h2, List.flatten_append, List.flatten_cons, List.length_append, List.length_append]
      have := fitW_len hp
      lia
    rw [flat_snoc, wr_app hl, h5]
theorem st_fit {fs : List Int} {ps : List (List Int)} {w : List Int} {place : Int} {k : Nat} (h : St fs ps w place false) (hk : fs.length + 1 ≤ k) : St fs (ps ++ [freeI k]) (w ++ ((fs.length : Int) :: (fs ++ freeI (k - (fs.length + 1))))) (ps.flatten.length : Int) true := by
  rcases h with ⟨h1, h2, h3, h4⟩ | ⟨pre, post, p, h1, _⟩
  · refine .fit ps [] (freeI k) rfl rfl h2 (by rw [freeI_fits (by lia)]; exact decide_eq_true hk) ?_ rfl
    have e := wr_piece (u := ps.flatten) (p := freeI k) (v := []) (xs := fitW fs (freeI k)) (by have := fitW_len (fs := fs) (p := freeI k) (by rw [freeI_len]; exact hk); exact this)
    rw [List.append_nil, List.append_nil] at e
    rw [flat_snoc, e, fit_free hk, h3]
  · cases h1
end Mine
namespace Mine

/-- a word met: a pointer to an address not yet met is noted -/
noncomputable def stepW (met : List Int) (w : Int) : List Int := if w % 2 = 1 ∧ w / 2 ∉ met then met ++ [w / 2] else met
noncomputable def addAll (met ws : List Int) : List Int := ws.foldl stepW met
theorem addAll_append {m a b : List Int} : addAll m (a ++ b) = addAll (addAll m a) b := List.foldl_append
theorem addAll_snoc {m a : List Int} {w : Int} : addAll m (a ++ [w]) = stepW (addAll m a) w := by rw [addAll_append]; rfl
theorem stepW_prefix {m : List Int} {w : Int} : m <+: stepW m w := by
  unfold stepW
  split
  · exact ⟨_, rfl⟩
  · exact List.prefix_refl _
theorem addAll_prefix {ws : List Int} : ∀ {m : List Int}, m <+: addAll m ws := by
  induction ws with
  | nil => intro m; exact List.prefix_refl _
  | cons w r ih => intro m; exact List.IsPrefix.trans stepW_prefix ih
theorem stepW_nodup {m : List Int} {w : Int} (h : m.Nodup) : (stepW m w).Nodup := by
  unfold stepW
  split
  · rename_i q
    rw [List.nodup_append]
    exact ⟨h, by simp, fun a ha b hb => by rw [List.mem_singleton.mp hb]; exact fun e => q.2 (e ▸ ha)⟩
  · exact h
theorem addAll_nodup {ws : List Int} : ∀ {m : List Int}, m.Nodup → (addAll m ws).Nodup := by
  induction ws with
  | nil => intro m h; exact h
  | cons w r ih => intro m h; exact ih (stepW_nodup h)
theorem mem_stepW {m : List Int} {w a : Int} : a ∈ stepW m w ↔ a ∈ m ∨ (w % 2 = 1 ∧ w / 2 = a) := by
  unfold stepW
  split
  · rename_i q
    rw [List.mem_append, List.mem_singleton]
    exact ⟨fun h => h.elim .inl fun e => .inr ⟨q.1, e.symm⟩, fun h => h.elim .inl fun e => .inr e.2.symm⟩
  · rename_i q
    refine ⟨.inl, fun h => h.elim id fun e => ?_⟩
    by_cases hm : w / 2 ∈ m
    · exact e.2 ▸ hm
    · exact absurd ⟨e.1, hm⟩ q
theorem mem_addAll {ws : List Int} {a : Int} : ∀ {m : List Int}, a ∈ addAll m ws ↔ a ∈ m ∨ ∃ w ∈ ws, w % 2 = 1 ∧ w / 2 = a := by
  induction ws with
  | nil => intro m; simp [addAll]
  | cons w r ih =>
    intro m
    show a ∈ addAll (stepW m w) r ↔ _
    rw [ih, mem_stepW]
    constructor
    · rintro ((h | h) | ⟨x, hx, h⟩)
      · exact .inl h
      · exact .inr ⟨w, .head _, h⟩
      · exact .inr ⟨x, .tail _ hx, h⟩
    · rintro (h | ⟨x, hx, h⟩)
      · exact .inl (.inl h)
      · rcases List.mem_cons.mp hx with rfl | hx
        · exact .inl (.inr h)
        · exact .inr ⟨x, hx, h⟩

section
variable (fld : Int → List Int) (roots : List Int)
noncomputable def Gf (o : List Int) : List Int := addAll [] (roots ++ o.flatMap fld)
noncomputable def iterG : Nat → List Int
  | 0 => []
  | k + 1 => Gf fld roots (iterG k)
noncomputable def Fix (o : List Int) : Prop := Gf fld roots o = o
noncomputable def Prod' (o : List Int) : Prop := ∀ i a, o[i]? = some a → ∃ w ∈ roots ++ (o.take i).flatMap fld, w % 2 = 1 ∧ w / 2 = a
end

section
variable {fld : Int → List Int} {roots : List Int}
theorem flatMap_prefix {o o' : List Int} (h : o <+: o') : o.flatMap fld <+: o'.flatMap fld := by
  obtain ⟨t, rfl⟩ := h
  rw [List.flatMap_append]
  exact ⟨_, rfl⟩
theorem Gf_mono {o o' : List Int} (h : o <+: o') : Gf fld roots o <+: Gf fld roots o' := by
  obtain ⟨t, e⟩ := flatMap_prefix (fld := fld) h
  have q : Gf fld roots o' = addAll (Gf fld roots o) t := by
    unfold Gf
    rw [← e, ← List.append_assoc, addAll_append]
  rw [q]
  exact addAll_prefix
theorem Gf_nodup {o : List Int} : (Gf fld roots o).Nodup := addAll_nodup List.nodup_nil
theorem mem_Gf {o : List Int} {a : Int} : a ∈ Gf fld roots o ↔ ∃ w ∈ roots ++ o.flatMap fld, w % 2 = 1 ∧ w / 2 = a := by
  unfold Gf
  rw [mem_addAll]
  simp
theorem prefix_take {o p : List Int} (h : p <+: o) : p = o.take p.length := by
  obtain ⟨t, rfl⟩ := h
  simp
theorem iter_prefix {o : List Int} (hf : Fix fld roots o) : ∀ k, iterG fld roots k <+: o
  | 0 => List.nil_prefix
  | k + 1 => by
    have := Gf_mono (fld := fld) (roots := roots) (iter_prefix hf k)
    rw [hf] at this
    exact this
theorem prefix_len_eq {o p : List Int} (h : p <+: o) (e : o.length ≤ p.length) : p = o := h.eq_of_length (Nat.le_antisymm h.length_le e)
theorem iter_len {o : List Int} (hf : Fix fld roots o) (hp : Prod' fld roots o) : ∀ k, min k o.length ≤ (iterG fld roots k).length
  | 0 => by simp
  | k + 1 => by
    have ih := iter_len hf hp k
    have h1 := iter_prefix hf k
    have h2 := iter_prefix hf (k + 1)
    by_cases hm : o.length ≤ (iterG fld roots k).length
    · have e := prefix_len_eq h1 hm
      have : iterG fld roots (k + 1) = o := by show Gf fld roots (iterG fld roots k) = o; rw [e]; exact hf
      rw [this]
      exact Nat.min_le_right _ _
    · have hlt : (iterG fld roots k).length < o.length := by lia
      have e1 := prefix_take h1
      obtain ⟨w, hw, hw2⟩ := hp (iterG fld roots k).length o[(iterG fld roots k).length] (List.getElem?_eq_getElem hlt)
      rw [← e1] at hw
      have hin : o[(iterG fld roots k).length] ∈ iterG fld roots (k + 1) := mem_Gf.mpr ⟨w, hw, hw2⟩
      have e2 := prefix_take h2
      have nd : o.Nodup := by rw [← hf]; exact Gf_nodup
      have : (iterG fld roots k).length < (iterG fld roots (k + 1)).length := by
        by_cases q : (iterG fld roots k).length < (iterG fld roots (k + 1)).length
        · exact q
        · exfalso
          rw [e2] at hin
          obtain ⟨j, hj, ej⟩ := List.mem_iff_getElem.mp hin
          rw [List.length_take] at hj
          rw [List.getElem_take] at ej
          exact List.pairwise_iff_getElem.mp nd j (iterG fld roots k).length (by lia) hlt (by lia) ej
      lia
theorem iter_eq {o : List Int} (hf : Fix fld roots o) (hp : Prod' fld roots o) {k : Nat} (hk : o.length ≤ k) : iterG fld roots k = o :=
  prefix_len_eq (iter_prefix hf k) (by have := iter_len hf hp k; lia)
theorem fix_unique {o o' : List Int} (h1 : Fix fld roots o) (h2 : Prod' fld roots o) (h3 : Fix fld roots o') (h4 : Prod' fld roots o') : o = o' := by
  rw [← iter_eq h1 h2 (Nat.le_max_left o.length o'.length), iter_eq h3 h4 (Nat.le_max_right o.length o'.length)]

theorem take_sub {o : List Int} {i j : Nat} (h : i ≤ j) : o.take i <+: o.take j := by
  refine ⟨(o.take j).drop i, ?_⟩
  have e : o.take i = (o.take j).take i := by rw [List.take_take, Nat.min_eq_left h]
  rw [e]
  exact List.take_append_drop _ _
theorem prod_step {o p : List Int} (hp : Prod' fld roots p) (hpo : p <+: o) (ho : o = Gf fld roots p) : Prod' fld roots o := by
  intro i a ha
  by_cases hi : i < p.length
  · obtain ⟨t, rfl⟩ := hpo
    rw [List.getElem?_append_left hi] at ha
    obtain ⟨w, hw, hw2⟩ := hp i a ha
    exact ⟨w, by rw [List.take_append_of_le_length (by lia)]; exact hw, hw2⟩
  · have hm : a ∈ o := List.mem_of_getElem? ha
    rw [ho] at hm
    obtain ⟨w, hw, hw2⟩ := mem_Gf.mp hm
    refine ⟨w, ?_, hw2⟩
    rcases List.mem_append.mp hw with hw | hw
    · exact List.mem_append.mpr (.inl hw)
    · refine List.mem_append.mpr (.inr ?_)
      have e := prefix_take hpo
      obtain ⟨t, et⟩ := flatMap_prefix (fld := fld) (take_sub (o := o) (i := p.length) (j := i) (by lia))
      rw [← et]
      rw [e] at hw
      exact List.mem_append.mpr (.inl hw)
/-- pigeons -/
theorem nodup_le {S : List Int} : ∀ {l : List Int}, l.Nodup → (∀ a ∈ l, a ∈ S) → l.length ≤ S.length := by
  intro l
  induction l generalizing S with
  | nil => intro _ _; exact Nat.zero_le _
  | cons a r ih =>
    intro hn hs
    obtain ⟨h1, h2⟩ := List.nodup_cons.mp hn
    have ha := hs a (.head _)
    have := ih (S := S.erase a) h2 fun b hb => (List.mem_erase_of_ne (fun e : b = a => h1 (e ▸ hb))).mpr (hs b (.tail _ hb))
    rw [List.length_erase_of_mem ha] at this
    have hp := List.length_pos_of_mem ha
    rw [List.length_cons]
    lia
/-- all within S -/
structure Closed (fld : Int → List Int) (roots S : List Int) : Prop where
  r : ∀ w ∈ roots, w % 2 = 1 → w / 2 ∈ S
  f : ∀ a ∈ S, ∀ w ∈ fld a, w % 2 = 1 → w / 2 ∈ S
theorem Closed.G {S o : List Int} (c : Closed fld roots S) (h : ∀ a ∈ o, a ∈ S) : ∀ a ∈ Gf fld roots o, a ∈ S := fun a ha => by
  obtain ⟨w, hw, h1, h2⟩ := mem_Gf.mp ha
  rw [← h2]
  rcases List.mem_append.mp hw with hw | hw
  · exact c.r w hw h1
  · obtain ⟨b, hb, hw⟩ := List.mem_flatMap.mp hw
    exact c.f b (h b hb) w hw h1
/-- what reachable's loop knows: all met words of the first p places are noted -/
structure BfsI (fld : Int → List Int) (roots S met : List Int) (p : Nat) : Prop where
  le : p ≤ met.length
  eq : met = Gf fld roots (met.take p)
  pr : Prod' fld roots met
  sub : ∀ a ∈ met, a ∈ S
theorem bfs_start {S : List Int} (c : Closed fld roots S) : BfsI fld roots S (addAll [] roots) 0 := by
  have e : addAll [] roots = Gf fld roots [] := by unfold Gf; simp
  refine ⟨Nat.zero_le _, by rw [e]; rfl, ?_, by rw [e]; exact c.G fun a h => (nomatch h)⟩
  exact prod_step (p := []) (fun i a h => by simp at h) List.nil_prefix e
theorem bfs_step {S met : List Int} {p : Nat} (c : Closed fld roots S) (b : BfsI fld roots S met p) {a : Int} (ha : met[p]? = some a) : BfsI fld roots S (addAll met (fld a)) (p + 1) := by
  have hp : p < met.length := (List.getElem?_eq_some_iff.mp ha).1
  have pf : met <+: addAll met (fld a) := addAll_prefix
  have et : (addAll met (fld a)).take (p + 1) = met.take p ++ [a] := by
    obtain ⟨t, e⟩ := pf
    rw [← e, List.take_append_of_le_length (by lia), List.take_succ_eq_append_getElem hp, (List.getElem?_eq_some_iff.mp ha).2]
  have eq : addAll met (fld a) = Gf fld roots ((addAll met (fld a)).take (p + 1)) := by
    rw [et]
    unfold Gf
    rw [List.flatMap_append, ← List.append_assoc, addAll_append]
    have e2 : addAll [] (roots ++ (met.take p).flatMap fld) = met := b.eq.symm
    rw [e2]
    simp
  refine ⟨by have := pf.length_le; lia, eq, ?_, ?_⟩
  · intro i x hx
    by_cases hi : i < met.length
    · obtain ⟨t, e⟩ := pf
      rw [← e, List.getElem?_append_left hi] at hx
      obtain ⟨w, hw, hw2⟩ := b.pr i x hx
      exact ⟨w, by rw [← e, List.take_append_of_le_length (by lia)]; exact hw, hw2⟩
    · have hm : x ∈ addAll met (fld a) := List.mem_of_getElem? hx
      rw [eq] at hm
      obtain ⟨w, hw, hw2⟩ := mem_Gf.mp hm
      refine ⟨w, ?_, hw2⟩
      rcases List.mem_append.mp hw with hw | hw
      · exact List.mem_append.mpr (.inl hw)
      · obtain ⟨t, et⟩ := flatMap_prefix (fld := fld) (take_sub (o := addAll met (fld a)) (i := p + 1) (j := i) (by lia))
        rw [← et]
        exact List.mem_append.mpr (.inr (List.mem_append.mpr (.inl hw)))
  · intro x hx
    rcases mem_addAll.mp hx with h | ⟨w, hw, h1, h2⟩
    · exact b.sub x h
    · rw [← h2]; exact c.f a (b.sub a (List.mem_of_getElem? ha)) w hw h1
theorem bfs_end {S met : List Int} {p : Nat} (b : BfsI fld roots S met p) (h : met.length ≤ p) : Fix fld roots met ∧ Prod' fld roots met := by
  have e := b.eq
  rw [List.take_of_length_le h] at e
  exact ⟨e.symm, b.pr⟩
theorem bfs_len {S met : List Int} {p : Nat} (b : BfsI fld roots S met p) : met.length ≤ S.length := nodup_le (by rw [b.eq]; exact Gf_nodup) b.sub
end
end Mine
namespace Mine

noncomputable def lastP (O : List (List Int)) : List Int := O.getLastD []
/-- a piece joins the pieces before it: two free ones become one -/
noncomputable def joinStep (O : List (List Int)) (p : List Int) : List (List Int) := if p.headD 0 < 0 ∧ (lastP O).headD 0 < 0 then O.dropLast ++ [freeI ((lastP O).length + p.length)] else O ++ [p]
noncomputable def joinP (ps : List (List Int)) : List (List Int) := ps.foldl joinStep []
theorem joinP_snoc {ps : List (List Int)} {p : List Int} : joinP (ps ++ [p]) = joinStep (joinP ps) p := by unfold joinP; rw [List.foldl_append]; rfl
/-- every free piece is made of its size and noughts -/
noncomputable def FreeOk (O : List (List Int)) : Prop := ∀ q ∈ O, q.headD 0 < 0 → q = freeI q.length
noncomputable def runOf (O : List (List Int)) : Int := if (lastP O).headD 0 < 0 then (O.dropLast.flatten.length : Int) else -1
theorem lastP_snoc {O : List (List Int)} {p : List Int} : lastP (O ++ [p]) = p := by unfold lastP; simp
theorem freeI_head {k : Nat} (h : 1 ≤ k) : (freeI k).headD 0 < 0 := by unfold freeI; rw [if_neg (by lia), List.headD_cons]; lia
theorem split_last {O : List (List Int)} (h : (lastP O).headD 0 < 0) : O = O.dropLast ++ [lastP O] := by
  cases O with
  | nil => simp [lastP] at h
  | cons a r =>
    have hne : (a :: r) ≠ [] := by simp
    have := List.dropLast_concat_getLast hne
    rw [show lastP (a :: r) = (a :: r).getLast hne by unfold lastP; rw [List.getLastD_eq_getLast?, List.getLast?_eq_some_getLast hne]; rfl]
    exact this.symm
theorem step_live {O : List (List Int)} {p : List Int} (h : ¬ p.headD 0 < 0) : joinStep O p = O ++ [p] ∧ runOf (joinStep O p) = -1 := by
  have e : joinStep O p = O ++ [p] := by unfold joinStep; rw [if_neg fun q => h q.1]
  refine ⟨e, ?_⟩
  rw [e]
  unfold runOf
  rw [lastP_snoc, if_neg h]
theorem step_start {O : List (List Int)} {n : Nat} (hn : 1 ≤ n) (h : runOf O < 0) : (joinStep O (freeI n)).flatten = O.flatten ++ (-(n : Int) :: List.replicate (n - 1) 0) ∧ runOf (joinStep O (freeI n)) = (O.flatten.length : Int) := by
  have hl : ¬ (lastP O).headD 0 < 0 := by
    unfold runOf at h
    intro q
    rw [if_pos q] at h
    lia
  have e : joinStep O (freeI n) = O ++ [freeI n] := by unfold joinStep; rw [if_neg fun q => hl q.2]
  rw [e]
  constructor
  · rw [flat_snoc]; unfold freeI; rw [if_neg (by lia)]
  · unfold runOf
    rw [lastP_snoc, if_pos (freeI_head hn), List.dropLast_concat]
theorem step_merge {O : List (List Int)} {n : Nat} (hf : FreeOk O) (hn : 1 ≤ n) (h : 0 ≤ runOf O) : (runOf O).toNat < O.flatten.length ∧ (joinStep O (freeI n)).flatten = O.flatten.set (runOf O).toNat (O.flatten.getD (runOf O).toNat 0 - n) ++ List.replicate n 0 ∧ runOf (joinStep O (freeI n)) = runOf O := by
  have hl : (lastP O).headD 0 < 0 := by
    unfold runOf at h
    by_cases q : (lastP O).headD 0 < 0
    · exact q
    · rw [if_neg q] at h; lia
  have er : runOf O = (O.dropLast.flatten.length : Int) := by unfold runOf; rw [if_pos hl]
  have es := split_last hl
  have hm : lastP O ∈ O := by
    have : lastP O ∈ O.dropLast ++ [lastP O] := by simp
    rwa [← es] at this
  have ef := hf _ hm hl
  have hlen : 1 ≤ (lastP O).length := by
    by_cases q : (lastP O).length = 0
    · rw [List.length_eq_zero_iff.mp q] at hl; simp at hl
    · lia
  have efl : O.flatten = O.dropLast.flatten ++ (-((lastP O).length : Int) :: List.replicate ((lastP O).length - 1) 0) := by
    conv => lhs; rw [es, flat_snoc, ef]
    unfold freeI
    rw [if_neg (by lia)]
  have e : joinStep O (freeI n) = O.dropLast ++ [freeI ((lastP O).length + n)] := by unfold joinStep; rw [if_pos ⟨freeI_head hn, hl⟩, freeI_len]
  rw [er, Int.toNat_natCast]
  refine ⟨?_, ?_, ?_⟩
  · rw [efl, List.length_append, List.length_cons]; lia
  · rw [e, flat_snoc, efl]
    rw [List.set_append_right (h := Nat.le_refl _), Nat.sub_self, List.set_cons_zero]
    rw [List.getD_eq_getElem?_getD, List.getElem?_append_right (Nat.le_refl _), Nat.sub_self, List.getElem?_cons_zero, Option.getD_some]
    unfold freeI
    rw [if_neg (by lia), List.append_assoc, List.cons_append, List.replicate_append_replicate]
    congr 2
    · lia
    · congr 1; lia
  · rw [e]
    unfold runOf
    rw [lastP_snoc, if_pos (freeI_head (by lia)), List.dropLast_concat]
theorem freeOk_step {O : List (List Int)} {p : List Int} (h : FreeOk O) (hp : p.headD 0 < 0 → p = freeI p.length) : FreeOk (joinStep O p) := by
  unfold joinStep
  split
  · intro q hq hh
    rcases List.mem_append.mp hq with hq | hq
    · exact h q (List.dropLast_subset _ hq) hh
    · rw [List.mem_singleton.mp hq, freeI_len]
  · intro q hq hh
    rcases List.mem_append.mp hq with hq | hq
    · exact h q hq hh
    · rw [List.mem_singleton.mp hq] at hh ⊢; exact hp hh

/-- each piece as the sweep leaves it: unmarked ones are free -/
noncomputable def afterP (mk : List Int) : Int → List (List Int) → List (List Int)
  | _, [] => []
  | o, p :: r => (if ¬ p.headD 0 < 0 ∧ o ∈ mk then p else freeI p.length) :: afterP mk (o + p.length) r
theorem afterP_append {mk : List Int} {ps qs : List (List Int)} : ∀ {o : Int}, afterP mk o (ps ++ qs) = afterP mk o ps ++ afterP mk (o + ps.flatten.length) qs := by
  induction ps with
  | nil => intro o; simp [afterP]
  | cons p r ih => intro o; simp [afterP, ih, Int.add_assoc]
theorem join_len {O : List (List Int)} {p : List Int} : (joinStep O p).flatten.length = O.flatten.length + p.length := by
  unfold joinStep
  split
  · rename_i h
    have es := split_last h.2
    rw [flat_snoc, List.length_append, freeI_len]
    conv => rhs; rw [es, flat_snoc, List.length_append]
    lia
  · rw [flat_snoc, List.length_append]
end Mine
namespace Mine

section
variable (m : List Int)
/-- words of the object at a, its head among them -/
noncomputable def objN (a : Int) : Nat := (m.getD a.toNat 0 + 1).toNat
noncomputable def offO (o : List Int) : Nat := (o.map (objN m)).sum
/-- where an object comes to lie -/
noncomputable def plc (o : List Int) (a : Int) : Nat := offO m (o.takeWhile fun x => decide (x ≠ a))
noncomputable def mendW (o : List Int) (w : Int) : Int := if w % 2 = 1 then 2 * (plc m o (w / 2) : Int) + 1 else w
noncomputable def fwdL (o : List Int) (n : Nat) : List Int := (List.range n).map fun (i : Nat) => if (i : Int) ∈ o then (plc m o (i : Int) : Int) else -1
end

section
variable {m : List Int}
theorem offO_append {o o' : List Int} : offO m (o ++ o') = offO m o + offO m o' := by unfold offO; rw [List.map_append, List.sum_append]
theorem offO_one {a : Int} : offO m [a] = objN m a := by simp [offO]
theorem takeWhile_in {o t : List Int} {a : Int} (h : a ∈ o) : (o ++ t).takeWhile (fun x => decide (x ≠ a)) = o.takeWhile fun x => decide (x ≠ a) := by
  induction o with
  | nil => cases h
  | cons b r ih =>
    rw [List.cons_append, List.takeWhile_cons, List.takeWhile_cons]
    by_cases q : b = a
    · simp [q]
    · have hr : a ∈ r := by
        rcases List.mem_cons.mp h with e | e
        · exact absurd e.symm q
        · exact e
      rw [ih hr]
theorem plc_ext {o t : List Int} {a : Int} (h : a ∈ o) : plc m (o ++ t) a = plc m o a := by unfold plc; rw [takeWhile_in h]
theorem plc_prefix {o o' : List Int} {a : Int} (hp : o <+: o') (h : a ∈ o) : plc m o' a = plc m o a := by obtain ⟨t, rfl⟩ := hp; exact plc_ext h
theorem plc_new {o : List Int} {a : Int} (h : a ∉ o) : plc m (o ++ [a]) a = offO m o := by
  unfold plc
  congr 1
  rw [List.takeWhile_append]
  have this : o.takeWhile (fun x => decide (x ≠ a)) = o := by
    induction o with
    | nil => rfl
    | cons b r ih =>
      have hb : b ≠ a := fun e => h (by rw [e]; exact .head _)
      rw [List.takeWhile_cons, if_pos (decide_eq_true hb), ih fun hr => h (.tail _ hr)]
  rw [this]
  simp
theorem fwdL_len {o : List Int} {n : Nat} : (fwdL m o n).length = n := by simp [fwdL]
theorem fwdL_get {o : List Int} {n : Nat} {a : Int} (h0 : 0 ≤ a) (h : a < n) : (fwdL m o n).getD a.toNat 0 = if a ∈ o then (plc m o a : Int) else -1 := by
  unfold fwdL
  rw [List.getD_eq_getElem?_getD, List.getElem?_map, List.getElem?_range (by lia)]
  have : ((a.toNat : Nat) : Int) = a := by lia
  simp only [Option.map_some, Option.getD_some, this]
theorem fwdL_new {o : List Int} {n : Nat} {a : Int} (h0 : 0 ≤ a) (h : a < n) (hn : a ∉ o) : (fwdL m o n).set a.toNat (offO m o : Int) = fwdL m (o ++ [a]) n := by
  apply List.ext_getElem?
  intro i
  rw [List.getElem?_set]
  by_cases hi : i < n
  · by_cases q : a.toNat = i
    · subst q
      rw [if_pos rfl, if_pos (by rw [fwdL_len]; exact hi)]
      unfold fwdL
      rw [List.getElem?_map, List.getElem?_range hi]
      have e : ((a.toNat : Nat) : Int) = a := by lia
      simp only [Option.map_some, e]
      rw [if_pos (List.mem_append.mpr (.inr (.head _))), plc_new hn]
    · rw [if_neg q]
      unfold fwdL
      rw [List.getElem?_map, List.getElem?_map, List.getElem?_range hi]
      simp only [Option.map_some]
      have hne : (i : Int) ≠ a := by lia
      by_cases hm : (i : Int) ∈ o
      · rw [if_pos hm, if_pos (List.mem_append.mpr (.inl hm)), plc_ext hm]
      · rw [if_neg hm, if_neg (fun h => (List.mem_append.mp h).elim hm fun h => hne (List.mem_singleton.mp h))]
  · have e1 : (fwdL m o n)[i]? = none := List.getElem?_eq_none (by rw [fwdL_len]; lia)
    have e2 : (fwdL m (o ++ [a]) n)[i]? = none := List.getElem?_eq_none (by rw [fwdL_len]; lia)
    rw [e1, e2]
    split
    · rw [if_neg (by rw [fwdL_len]; lia)]
    · rfl

theorem step_case {o R : List Int} {w : Int} (h : stepW o w <+: R) : (w % 2 ≠ 1 ∧ stepW o w = o ∧ mendW m R w = w) ∨ (w % 2 = 1 ∧ w / 2 ∈ o ∧ stepW o w = o ∧ mendW m R w = 2 * (plc m o (w / 2) : Int) + 1) ∨ (w % 2 = 1 ∧ w / 2 ∉ o ∧ stepW o w = o ++ [w / 2] ∧ mendW m R w = 2 * (offO m o : Int) + 1) := by
  by_cases h1 : w % 2 = 1
  · by_cases h2 : w / 2 ∈ o
    · right; left
      have e : stepW o w = o := by unfold stepW; rw [if_neg fun q => q.2 h2]
      refine ⟨h1, h2, e, ?_⟩
      rw [e] at h
      unfold mendW
      rw [if_pos h1, plc_prefix h h2]
    · right; right
      have e : stepW o w = o ++ [w / 2] := by unfold stepW; rw [if_pos ⟨h1, h2⟩]
      refine ⟨h1, h2, e, ?_⟩
      rw [e] at h
      unfold mendW
      rw [if_pos h1, plc_prefix h (List.mem_append.mpr (.inr (.head _))), plc_new h2]
  · left
    refine ⟨h1, ?_, ?_⟩
    · unfold stepW; rw [if_neg fun q => h1 q.1]
    · unfold mendW; rw [if_neg h1]

/-- what is met is a part of the end's list -/
theorem bfs_prefix {fld : Int → List Int} {roots S met R : List Int} {p : Nat} (hf : Fix fld roots R) (b : BfsI fld roots S met p) (h : met.take p <+: R) : met <+: R := by
  have := Gf_mono (fld := fld) (roots := roots) h
  rw [hf, ← b.eq] at this
  exact this
theorem take_prefix {o R : List Int} {p : Nat} (h : o <+: R) : o.take p <+: R := List.IsPrefix.trans (List.take_prefix _ _) h
theorem addAll_take {o fs : List Int} {i : Nat} : addAll o (fs.take i) <+: addAll o fs := by
  conv => rhs; rw [← List.take_append_drop i fs, addAll_append]
  exact addAll_prefix
end
end Mine
namespace Mine

/-- the law's pieces: live ones hold their count and words of wds, the others are free; S: where the live ones begin -/
structure Laid (ps : List (List Int)) (S wds : List Int) : Prop where
  pc : ∀ p ∈ ps, (∃ ws : List Int, p = (ws.length : Int) :: ws ∧ ∀ w ∈ ws, w ∈ wds) ∨ (∃ k, 1 ≤ k ∧ p = freeI k)
  hd : ∀ a : Int, a ∈ S ↔ ∃ (pre : List (List Int)) (ws : List Int) (post : List (List Int)), ps = pre ++ ((ws.length : Int) :: ws) :: post ∧ a = (pre.flatten.length : Int)
  wd : ∀ w ∈ wds, w % 2 = 1 → w / 2 ∈ S

theorem okp_live {ws : List Int} : OkP ((ws.length : Int) :: ws) := ⟨_, _, rfl, by unfold hsize; rw [if_pos (by lia), List.length_cons]; lia⟩
section
variable {ps : List (List Int)} {S wds : List Int}
theorem Laid.ok (h : Laid ps S wds) : ∀ p ∈ ps, OkP p := fun p hp => by
  rcases h.pc p hp with ⟨ws, rfl, _⟩ | ⟨k, hk, rfl⟩
  · exact okp_live
  · exact freeI_ok hk
theorem Laid.pos (h : Laid ps S wds) : ∀ p ∈ ps, 1 ≤ p.length := fun p hp => by
  rcases h.pc p hp with ⟨ws, rfl, _⟩ | ⟨k, hk, rfl⟩
  · simp
  · rw [freeI_len]; exact hk
theorem Laid.free (h : Laid ps S wds) : FreeOk ps := fun p hp hh => by
  rcases h.pc p hp with ⟨ws, rfl, _⟩ | ⟨k, hk, rfl⟩
  · rw [List.headD_cons] at hh; lia
  · rw [freeI_len]
theorem Laid.at' (h : Laid ps S wds) {a : Int} (ha : a ∈ S) : 0 ≤ a ∧ 0 ≤ ps.flatten.getD a.toNat 0 ∧ a + ps.flatten.getD a.toNat 0 < ps.flatten.length := by
  obtain ⟨pre, ws, post, rfl, rfl⟩ := (h.hd a).mp ha
  have hg : (pre ++ ((ws.length : Int) :: ws) :: post).flatten.getD ((pre.flatten.length : Int)).toNat 0 = (ws.length : Int) := by
    rw [Int.toNat_natCast, List.flatten_append, List.getD_eq_getElem?_getD, List.getElem?_append_right (Nat.le_refl _), Nat.sub_self]; rfl
  rw [hg]
  refine ⟨by lia, by lia, ?_⟩
  rw [List.flatten_append, List.flatten_cons, List.length_append, List.length_append, List.length_cons]
  lia

theorem room_aux {sz : Int → Nat} : ∀ (ps : List (List Int)) (u : Int) (o : List Int), (∀ p ∈ ps, 1 ≤ p.length) → o.Nodup → (∀ a ∈ o, ∃ (pre : List (List Int)) (p : List Int) (post : List (List Int)), ps = pre ++ p :: post ∧ a = u + (pre.flatten.length : Int) ∧ sz a = p.length) → (o.map sz).sum ≤ ps.flatten.length
  | [], u, o, _, _, h => by
    cases o with
    | nil => simp
    | cons a r => obtain ⟨pre, p, post, e, _⟩ := h a (.head _); simp at e
  | q :: r, u, o, hp, hn, h => by
    have hq := hp q (.head _)
    have hr : ∀ p ∈ r, 1 ≤ p.length := fun p h => hp p (.tail _ h)
    have key : ∀ a ∈ o, a ≠ u → ∃ (pre : List (List Int)) (p : List Int) (post : List (List Int)), r = pre ++ p :: post ∧ a = (u + (q.length : Int)) + (pre.flatten.length : Int) ∧ sz a = p.length := fun a ha hau => by
      obtain ⟨pre, p, post, e, e1, e2⟩ := h a ha
      cases pre with
      | nil => exact absurd (by simpa using e1) hau
      | cons x pre =>
        rw [List.cons_append] at e
        injection e with e3 e4
        subst e3
        exact ⟨pre, p, post, e4, by rw [e1, List.flatten_cons, List.length_append]; lia, e2⟩
    by_cases hu : u ∈ o
    · have hp1 : o.Perm (u :: o.erase u) := List.perm_cons_erase hu
      have e1 : (o.map sz).sum = sz u + ((o.erase u).map sz).sum := by
        have := (hp1.map sz).sum_nat
        rw [this, List.map_cons, List.sum_cons]
      have hsz : sz u = q.length := by
        obtain ⟨pre, p, post, e, e1, e2⟩ := h u hu
        cases pre with
        | nil => rw [List.nil_append] at e; injection e with e3 e4; rw [e2, ← e3]
        | cons x pre =>
          rw [List.cons_append] at e
          injection e with e3 e4
          subst e3
          rw [List.flatten_cons, List.length_append] at e1
          lia
      have ih := room_aux r (u + (q.length : Int)) (o.erase u) hr (hn.erase u) (fun a ha => by
        have hm := (List.Nodup.mem_erase_iff hn).mp ha
        exact key a hm.2 hm.1)
      rw [e1, hsz, List.flatten_cons, List.length_append]
      lia
    · have ih := room_aux r (u + (q.length : Int)) o hr hn (fun a ha => key a ha fun e => hu (e ▸ ha))
      rw [List.flatten_cons, List.length_append]
      lia
theorem Laid.room (h : Laid ps S wds) (o : List Int) (hn : o.Nodup) (ho : ∀ a ∈ o, a ∈ S) : offO ps.flatten o ≤ ps.flatten.length := by
  unfold offO
  refine room_aux ps 0 o h.pos hn fun a ha => ?_
  obtain ⟨pre, ws, post, e, rfl⟩ := (h.hd a).mp (ho a ha)
  refine ⟨pre, _, post, e, by lia, ?_⟩
  have hg : ps.flatten.getD ((pre.flatten.length : Int)).toNat 0 = (ws.length : Int) := by
    rw [e, Int.toNat_natCast, List.flatten_append, List.getD_eq_getElem?_getD, List.getElem?_append_right (Nat.le_refl _), Nat.sub_self]; rfl
  unfold objN
  rw [hg, List.length_cons]
  lia
theorem Laid.closed (h : Laid ps S wds) {fld : Int → List Int} {roots : List Int} (hr : ∀ w ∈ roots, w ∈ wds) (hf : ∀ (pre : List (List Int)) (ws : List Int) (post : List (List Int)), ps = pre ++ ((ws.length : Int) :: ws) :: post → fld (pre.flatten.length : Int) = ws) : Closed fld roots S := by
  refine ⟨fun w hw => h.wd w (hr w hw), fun a ha w hw => ?_⟩
  obtain ⟨pre, ws, post, e, rfl⟩ := (h.hd a).mp ha
  rw [hf pre ws post e] at hw
  refine h.wd w ?_
  rcases h.pc _ (by rw [e]; exact List.mem_append.mpr (.inr (.head _))) with ⟨ws', e', hw'⟩ | ⟨k, hk, e'⟩
  · injection e' with e1 e2
    rw [e2] at hw
    exact hw' w hw
  · have : (freeI k).headD 0 < 0 := freeI_head hk
    rw [← e', List.headD_cons] at this
    lia
end

/-- what _law_placed does with a piece -/
noncomputable def plStep (fs : List Int) (st : List Int × Int) (p : List Int) : List Int × Int :=
  if st.2 < 0 ∧ 0 ≤ (p.length : Int) - fs.length - 1 ∧ p.headD 0 < 0 then (st.1 ++ ((fs.length : Int) :: (fs ++ freeI ((p.length : Int) - fs.length - 1).toNat)), (st.1.length : Int)) else (st.1 ++ p, st.2)
noncomputable def placedI (fs : List Int) (ps : List (List Int)) : List Int × Int := ps.foldl (plStep fs) ([], -1)
theorem placedI_snoc {fs : List Int} {ps : List (List Int)} {p : List Int} : placedI fs (ps ++ [p]) = plStep fs (placedI fs ps) p := by unfold placedI; rw [List.foldl_append]; rfl
theorem snoc_ind {α : Type} {P : List α → Prop} (h0 : P []) (hs : ∀ l a, P l → P (l ++ [a])) (l : List α) : P l := by
  have : ∀ l : List α, P l.reverse := fun l => by
    induction l with
    | nil => exact h0
    | cons a r ih => rw [List.reverse_cons]; exact hs _ _ ih
  rw [← List.reverse_reverse l]; exact this _
theorem placed_st {fs : List Int} (ps : List (List Int)) : FreeOk ps → St fs ps (placedI fs ps).1 (placedI fs ps).2 (decide (0 ≤ (placedI fs ps).2)) := by
  refine snoc_ind (P := fun ps => FreeOk ps → St fs ps (placedI fs ps).1 (placedI fs ps).2 (decide (0 ≤ (placedI fs ps).2))) (fun _ => ?_) (fun ps p ih hf => ?_) ps
  · exact st_start
  · have ih := ih fun q hq => hf q (List.mem_append.mpr (.inl hq))
    rw [placedI_snoc]
    generalize placedI fs ps = r at ih ⊢
    obtain ⟨w, at'⟩ := r
    dsimp only at ih ⊢
    unfold plStep
    dsimp only
    split
    · rename_i hc
      obtain ⟨h1, h2, h3⟩ := hc
      have e0 : decide (0 ≤ at') = false := decide_eq_false (by lia)
      rw [e0] at ih
      have hp := hf p (List.mem_append.mpr (.inr (.head _))) h3
      have e1 : w = ps.flatten := by
        rcases ih with ⟨_, _, e, _⟩ | ⟨_, _, _, q, _⟩
        · exact e
        · cases q
      have := st_fit (k := p.length) ih (by lia)
      rw [← hp] at this
      dsimp only
      rw [show ((p.length : Int) - fs.length - 1).toNat = p.length - (fs.length + 1) by lia, decide_eq_true (by lia : (0 : Int) ≤ (w.length : Int))]
      rw [← e1] at this
      exact this
    · rename_i hc
      dsimp only
      refine st_same ih ?_
      by_cases h1 : at' < 0
      · right
        unfold fits
        by_cases h3 : p.headD 0 < 0
        · rw [decide_eq_true h3, Bool.true_and]
          refine decide_eq_false fun h2 => hc ⟨h1, by lia, h3⟩
        · rw [decide_eq_false h3, Bool.false_and]
      · left; exact decide_eq_true (by lia)

/-- what _law_joined holds: [0] ahead of the joined pieces -/
theorem joined_last {O : List (List Int)} : (lastP ([0] :: O)).headD 0 < 0 ↔ (lastP O).headD 0 < 0 := by
  cases O with
  | nil => simp [lastP]
  | cons a r => unfold lastP; simp
theorem joinP_ok {ps : List (List Int)} : (∀ p ∈ ps, OkP p) → ∀ p ∈ joinP ps, OkP p := by
  refine snoc_ind (P := fun ps => (∀ p ∈ ps, OkP p) → ∀ p ∈ joinP ps, OkP p) (fun _ p hp => by cases hp) (fun ps q ih h p hp => ?_) ps
  have ih := ih fun p hp => h p (List.mem_append.mpr (.inl hp))
  have hq := h q (List.mem_append.mpr (.inr (.head _)))
  rw [joinP_snoc] at hp
  unfold joinStep at hp
  split at hp
  · rcases List.mem_append.mp hp with hp | hp
    · exact ih p (List.dropLast_subset _ hp)
    · rw [List.mem_singleton.mp hp]
      refine freeI_ok ?_
      obtain ⟨hd, t, e, _⟩ := hq
      rw [e, List.length_cons]; lia
  · rcases List.mem_append.mp hp with hp | hp
    · exact ih p hp
    · rw [List.mem_singleton.mp hp]; exact hq
theorem joinP_free {ps : List (List Int)} : FreeOk ps → FreeOk (joinP ps) := by
  refine snoc_ind (P := fun ps => FreeOk ps → FreeOk (joinP ps)) (fun _ p hp => by cases hp) (fun ps q ih h => ?_) ps
  rw [joinP_snoc]
  exact freeOk_step (ih fun p hp => h p (List.mem_append.mpr (.inl hp))) (h q (List.mem_append.mpr (.inr (.head _))))
theorem joinP_len {ps : List (List Int)} : (joinP ps).flatten.length = ps.flatten.length := by
  refine snoc_ind (P := fun ps => (joinP ps).flatten.length = ps.flatten.length) rfl (fun ps q ih => ?_) ps
  rw [joinP_snoc, join_len, ih, flat_snoc, List.length_append]
theorem joinP_count {ps : List (List Int)} : (joinP ps).length ≤ ps.length := by
  refine snoc_ind (P := fun ps => (joinP ps).length ≤ ps.length) (Nat.le_refl _) (fun ps q ih => ?_) ps
  rw [joinP_snoc]
  unfold joinStep
  split
  · rw [List.length_append, List.length_dropLast, List.length_append]; simp; lia
  · rw [List.length_append, List.length_append]; simp; lia

/-- the pieces after a sweep, as the law lays them -/
noncomputable def afterL (R : List Int) (ps : List (List Int)) : List (List Int) := (List.range ps.length).map fun i => if ((ps.take i).flatten.length : Int) ∈ R then ps.getD i [] else freeI (ps.getD i []).length
theorem afterL_eq {R : List Int} (ps : List (List Int)) : (∀ pre p post, ps = pre ++ p :: post → (pre.flatten.length : Int) ∈ R → ¬ p.headD 0 < 0) → afterL R ps = afterP R 0 ps := by
  refine snoc_ind (P := fun ps => (∀ pre p post, ps = pre ++ p :: post → (pre.flatten.length : Int) ∈ R → ¬ p.headD 0 < 0) → afterL R ps = afterP R 0 ps) (fun _ => rfl) (fun ps p ih h => ?_) ps
  have ih := ih fun pre q post e hm => h pre q (post ++ [p]) (by rw [e]; simp) hm
  rw [afterP_append, ← ih]
  unfold afterL
  rw [List.length_append, List.length_singleton, List.range_succ, List.map_append]
  congr 1
  · refine List.map_congr_left fun i hi => ?_
    have hi := List.mem_range.mp hi
    have e1 : (ps ++ [p]).take i = ps.take i := List.take_append_of_le_length (by lia)
    have e2 : (ps ++ [p]).getD i [] = ps.getD i [] := by rw [List.getD_eq_getElem?_getD, List.getD_eq_getElem?_getD, List.getElem?_append_left hi]
    rw [e1, e2]
  · have e1 : (ps ++ [p]).take ps.length = ps := List.take_left
    have e2 : (ps ++ [p]).getD ps.length [] = p := by simp [List.getD_eq_getElem?_getD]
    simp only [List.map_cons, List.map_nil, e1, e2, afterP, Int.zero_add]
    by_cases hm : (ps.flatten.length : Int) ∈ R
    · rw [if_pos hm, if_pos ⟨h ps p [] rfl hm, hm⟩]
    · rw [if_neg hm, if_neg fun q => hm q.2]
theorem afterP_ok {R : List Int} : ∀ {ps : List (List Int)} {o : Int}, (∀ p ∈ ps, OkP p) → ∀ p ∈ afterP R o ps, OkP p
  | [], o, _, p, hp => by cases hp
  | q :: r, o, h, p, hp => by
    rcases List.mem_cons.mp hp with e | hp
    · have hq := h q (.head _)
      subst e
      split
      · exact hq
      · refine freeI_ok ?_
        obtain ⟨hd, t, e, _⟩ := hq
        rw [e, List.length_cons]; lia
    · exact afterP_ok (fun p hp => h p (.tail _ hp)) p hp
theorem afterP_free {R : List Int} : ∀ {ps : List (List Int)} {o : Int}, FreeOk (afterP R o ps)
  | [], o, p, hp, _ => by cases hp
  | q :: r, o, p, hp, hh => by
    rcases List.mem_cons.mp hp with e | hp
    · subst e
      split at hh
      · rename_i c; exact absurd hh c.1
      · rename_i c; rw [if_neg c, freeI_len]
    · exact afterP_free p hp hh
theorem afterP_flat {R : List Int} : ∀ {ps : List (List Int)} {o : Int}, (afterP R o ps).flatten.length = ps.flatten.length
  | [], o => rfl
  | q :: r, o => by
    unfold afterP
    rw [List.flatten_cons, List.flatten_cons, List.length_append, List.length_append, afterP_flat]
    split
    · rfl
    · rw [freeI_len]

/-- what the law's own search knows when i words of its queue are read -/
structure QI (fld : Int → List Int) (roots S order : List Int) (i : Nat) : Prop where
  eq : order = addAll [] ((roots ++ order.flatMap fld).take i)
  pr : Prod' fld roots order
  sub : ∀ a ∈ order, a ∈ S
section
variable {fld : Int → List Int} {roots S order : List Int} {i : Nat}
theorem qi_start : QI fld roots S [] 0 := ⟨rfl, fun i a h => by simp at h, fun a h => (nomatch h)⟩
theorem qi_step (c : Closed fld roots S) (h : QI fld roots S order i) {w : Int} (hw : (roots ++ order.flatMap fld)[i]? = some w) : QI fld roots S (stepW order w) (i + 1) := by
  have hlt := (List.getElem?_eq_some_iff.mp hw).1
  have hwi := (List.getElem?_eq_some_iff.mp hw).2
  have hmem : w ∈ roots ++ order.flatMap fld := List.mem_of_getElem? hw
  have htk : (roots ++ order.flatMap fld).take (i + 1) = (roots ++ order.flatMap fld).take i ++ [w] := by rw [List.take_succ_eq_append_getElem hlt, hwi]
  have e1 : stepW order w = addAll [] ((roots ++ order.flatMap fld).take (i + 1)) := by rw [htk, addAll_snoc, ← h.eq]
  by_cases hc : w % 2 = 1 ∧ w / 2 ∉ order
  · have es : stepW order w = order ++ [w / 2] := by unfold stepW; rw [if_pos hc]
    refine ⟨?_, ?_, ?_⟩
    · rw [e1]
      congr 1
      have e3 : roots ++ (order ++ [w / 2]).flatMap fld = (roots ++ order.flatMap fld) ++ [w / 2].flatMap fld := by rw [List.flatMap_append, ← List.append_assoc]
      rw [← e1, es, e3, List.take_append_of_le_length (Nat.succ_le_of_lt hlt)]
    · rw [es]
      intro j a ha
      by_cases hj : j < order.length
      · rw [List.getElem?_append_left hj] at ha
        obtain ⟨x, hx, hx2⟩ := h.pr j a ha
        exact ⟨x, by rw [List.take_append_of_le_length (by lia)]; exact hx, hx2⟩
      · have hj2 := (List.getElem?_eq_some_iff.mp ha).1
        rw [List.length_append, List.length_singleton] at hj2
        obtain rfl : j = order.length := by lia
        rw [List.getElem?_append_right (Nat.le_refl _), Nat.sub_self] at ha
        simp at ha
        exact ⟨w, by rw [List.take_left]; exact hmem, hc.1, ha⟩
    · rw [es]
      intro a ha
      rcases List.mem_append.mp ha with ha | ha
      · exact h.sub a ha
      · rw [List.mem_singleton.mp ha]
        rcases List.mem_append.mp hmem with hm | hm
        · exact c.r w hm hc.1
        · obtain ⟨b, hb, hm⟩ := List.mem_flatMap.mp hm
          exact c.f b (h.sub b hb) w hm hc.1
  · have es : stepW order w = order := by unfold stepW; rw [if_neg hc]
    rw [es] at e1 ⊢
    exact ⟨e1, h.pr, h.sub⟩
theorem qi_nodup (h : QI fld roots S order i) : order.Nodup := by rw [h.eq]; exact addAll_nodup List.nodup_nil
theorem qi_end (h : QI fld roots S order i) (hi : (roots ++ order.flatMap fld).length ≤ i) : Fix fld roots order ∧ Prod' fld roots order := by
  refine ⟨?_, h.pr⟩
  have := h.eq
  rw [List.take_of_length_le hi] at this
  exact this.symm
end

/-- all that a search has met is told in its list -/
theorem fix_in {fld : Int → List Int} {roots R : List Int} (h : Fix fld roots R) {w : Int} (hw : w ∈ roots ++ R.flatMap fld) (h1 : w % 2 = 1) : w / 2 ∈ R := by
  rw [← h]; exact mem_Gf.mpr ⟨w, hw, h1, rfl⟩
theorem fix_nodup {fld : Int → List Int} {roots R : List Int} (h : Fix fld roots R) : R.Nodup := by rw [← h]; exact Gf_nodup
theorem plc_at {m R : List Int} (hn : R.Nodup) {i : Nat} {a : Int} (h : R[i]? = some a) : plc m R a = offO m (R.take i) := by
  have hlt := (List.getElem?_eq_some_iff.mp h).1
  have e : R.take (i + 1) = R.take i ++ [a] := by rw [List.take_succ_eq_append_getElem hlt, (List.getElem?_eq_some_iff.mp h).2]
  have hp : R.take i ++ [a] <+: R := e ▸ List.take_prefix _ _
  rw [plc_prefix hp (List.mem_append.mpr (.inr (.head _)))]
  refine plc_new fun hm => ?_
  have hn' : (R.take i ++ [a]).Nodup := (hp.sublist).nodup hn
  exact (List.nodup_append.mp hn').2.2 a hm a (.head _) rfl
end Mine
namespace Mine

noncomputable def stI (ks : List Int) (i : Nat) : Int := ((ks.take i).map fun g => 1 + g % 4).sum
noncomputable def headsL (ks : List Int) : List Int := ((List.range ks.length).filter fun i => decide (0 < ks.getD i 0 % 3)).map (stI ks)
noncomputable def pieceI (ks wds : List Int) (i : Nat) : List Int :=
  if 0 < ks.getD i 0 % 3 then (ks.getD i 0 % 4) :: ((wds.take (stI ks i + ks.getD i 0 % 4).toNat).drop (stI ks i).toNat) else freeI (1 + ks.getD i 0 % 4).toNat
noncomputable def piecesL (ks wds : List Int) : List (List Int) := (List.range ks.length).map (pieceI ks wds)

section
variable {ks wds : List Int}
theorem stI_succ {i : Nat} (hi : i < ks.length) : stI ks (i + 1) = stI ks i + (1 + ks.getD i 0 % 4) := by
  unfold stI
  rw [List.take_succ_eq_append_getElem hi, List.map_append, List.sum_append]
  simp [List.getD_eq_getElem?_getD, List.getElem?_eq_getElem hi]
theorem stI_le : ∀ {i : Nat}, i ≤ ks.length → 0 ≤ stI ks i ∧ stI ks i ≤ 4 * i
  | 0, _ => by simp [stI]
  | i + 1, h => by
    have ih := stI_le (i := i) (by lia)
    rw [stI_succ (by lia)]
    lia
theorem pieces_at {i : Nat} (hl : i < (piecesL ks wds).length) : (piecesL ks wds)[i] = pieceI ks wds i := by
  have h : (piecesL ks wds)[i]? = some (piecesL ks wds)[i] := List.getElem?_eq_getElem hl
  have h2 : i < ks.length := by have : (piecesL ks wds).length = ks.length := by unfold piecesL; simp
                                lia
  have h3 : (piecesL ks wds)[i]? = some (pieceI ks wds i) := by unfold piecesL; rw [List.getElem?_map, List.getElem?_range h2]; rfl
  exact Option.some.inj (h.symm.trans h3)
theorem pieceI_len {i : Nat} (hi : i < ks.length) (h5 : ks.length ≤ 5) (hw : wds.length = 24) : ((pieceI ks wds i).length : Int) = 1 + ks.getD i 0 % 4 := by
  have hs := stI_le (ks := ks) (i := i) (by lia)
  unfold pieceI
  split
  · have h4 : 0 ≤ ks.getD i 0 % 4 ∧ ks.getD i 0 % 4 < 4 := ⟨Int.emod_nonneg _ (by decide), Int.emod_lt_of_pos _ (by decide)⟩
    generalize ks.getD i 0 % 4 = g at h4
    generalize stI ks i = s at hs
    obtain ⟨g, rfl⟩ := Int.eq_ofNat_of_zero_le h4.1
    obtain ⟨s, rfl⟩ := Int.eq_ofNat_of_zero_le hs.1
    have e : ((wds.take ((s : Int) + (g : Int)).toNat).drop (s : Int).toNat).length = g := cut_len (by lia) rfl rfl
    rw [List.length_cons, e]
    lia
  · rw [freeI_len]; lia
theorem pieces_flat (h5 : ks.length ≤ 5) (hw : wds.length = 24) : ∀ {i : Nat}, i ≤ ks.length → (((piecesL ks wds).take i).flatten.length : Int) = stI ks i
  | 0, _ => by simp [stI]
  | i + 1, h => by
    have ih := pieces_flat h5 hw (i := i) (by lia)
    have hl : i < (piecesL ks wds).length := by unfold piecesL; simp; lia
    rw [List.take_succ_eq_append_getElem hl, flat_snoc, List.length_append, stI_succ (by lia)]
    have e : (piecesL ks wds)[i] = pieceI ks wds i := pieces_at hl
    rw [e]
    have := pieceI_len (wds := wds) (i := i) (by lia) h5 hw
    lia
theorem pieces_len : (piecesL ks wds).length = ks.length := by unfold piecesL; simp
theorem pieces_get {i : Nat} (hi : i < ks.length) : (piecesL ks wds)[i]? = some (pieceI ks wds i) := by
  unfold piecesL
  rw [List.getElem?_map, List.getElem?_range hi]; rfl
theorem mem_flat_le (h5 : ks.length ≤ 5) (hw : wds.length = 24) : (piecesL ks wds).flatten.length ≤ 20 := by
  have h1 := pieces_flat (wds := wds) h5 hw (Nat.le_refl ks.length)
  have h2 := stI_le (ks := ks) (Nat.le_refl _)
  rw [List.take_of_length_le (by rw [pieces_len]; exact Nat.le_refl _)] at h1
  lia
theorem piece_live {i : Nat} (hi : i < ks.length) (h5 : ks.length ≤ 5) (hw : wds.length = 24) (hg : 0 < ks.getD i 0 % 3) : ∃ ws : List Int, pieceI ks wds i = (ws.length : Int) :: ws ∧ ∀ w ∈ ws, w ∈ wds := by
  refine ⟨(wds.take (stI ks i + ks.getD i 0 % 4).toNat).drop (stI ks i).toNat, ?_, fun w hm => List.mem_of_mem_take (List.mem_of_mem_drop hm)⟩
  have := pieceI_len (wds := wds) hi h5 hw
  unfold pieceI at this ⊢
  rw [if_pos hg] at this ⊢
  rw [List.length_cons] at this
  congr 1
  lia
theorem laid (h5 : ks.length ≤ 5) (hw : wds.length = 24) (hp : ∀ w ∈ wds, w % 2 = 1 → w / 2 ∈ headsL ks) : Laid (piecesL ks wds) (headsL ks) wds := by
  refine ⟨fun p hp => ?_, fun a => ⟨fun ha => ?_, ?_⟩, hp⟩
  · unfold piecesL at hp
    obtain ⟨i, hi, rfl⟩ := List.mem_map.mp hp
    have hi := List.mem_range.mp hi
    by_cases hg : 0 < ks.getD i 0 % 3
    · exact .inl (piece_live hi h5 hw hg)
    · right
      exact ⟨(1 + ks.getD i 0 % 4).toNat, by lia, by unfold pieceI; rw [if_neg hg]⟩
  · unfold headsL at ha
    obtain ⟨i, hi, rfl⟩ := List.mem_map.mp ha
    obtain ⟨hi, hg⟩ := List.mem_filter.mp hi
    have hi := List.mem_range.mp hi
    obtain ⟨ws, e, _⟩ := piece_live (wds := wds) hi h5 hw (of_decide_eq_true hg)
    refine ⟨(piecesL ks wds).take i, ws, (piecesL ks wds).drop (i + 1), ?_, (pieces_flat h5 hw (by lia)).symm⟩
    have hl : i < (piecesL ks wds).length := by rw [pieces_len]; exact hi
    have e2 : (piecesL ks wds)[i] = pieceI ks wds i := pieces_at hl
    rw [← e, ← e2, List.getElem_cons_drop, List.take_append_drop]
  · rintro ⟨pre, ws, post, e, rfl⟩
    have hl : pre.length < ks.length := by
      rw [← pieces_len (ks := ks) (wds := wds), e]; simp
    have hget : (piecesL ks wds)[pre.length]? = some ((ws.length : Int) :: ws) := by rw [e]; simp
    rw [pieces_get hl] at hget
    have hget := Option.some.inj hget
    have hpre : pre = (piecesL ks wds).take pre.length := by rw [e]; simp
    have hflat := pieces_flat (wds := wds) h5 hw (Nat.le_of_lt hl)
    rw [← hpre] at hflat
    rw [hflat]
    unfold headsL
    refine List.mem_map.mpr ⟨pre.length, List.mem_filter.mpr ⟨List.mem_range.mpr hl, decide_eq_true ?_⟩, rfl⟩
    by_cases hg : 0 < ks.getD pre.length 0 % 3
    · exact hg
    · exfalso
      unfold pieceI at hget
      rw [if_neg hg] at hget
      have := freeI_head (k := (1 + ks.getD pre.length 0 % 4).toNat) (by lia)
      rw [hget, List.headD_cons] at this
      lia
end

section
variable (c : List Int)
noncomputable def ksL : List Int := ((c.take (3 + c.getD 0 0 % 5).toNat).drop 2).map (· % 12)
noncomputable def fsL : List Int := ((c.take (1 + c.getD 1 0 % 4).toNat).drop 1).map fun x => 2 * (x.natAbs : Int)
noncomputable def seedI (k : Nat) : Int := c.getD (7 + k % 5) 0 + k
noncomputable def wordI (hs : List Int) (x : Int) : Int := if x % 4 = 1 ∧ 0 < hs.length then 2 * hs.getD ((x / 4) % hs.length).toNat 0 + 1 else 2 * (x.natAbs : Int)
noncomputable def wdsL : List Int := (List.range 24).map fun k => wordI (headsL (ksL c)) (seedI c k)
noncomputable def psL : List (List Int) := piecesL (ksL c) (wdsL c)
noncomputable def rootsL : List Int := (wdsL c).drop 20
end
section
variable {c : List Int}
theorem ks_len (hc : 12 ≤ c.length) : 1 ≤ (ksL c).length ∧ (ksL c).length ≤ 5 := by
  unfold ksL
  have h : 0 ≤ c.getD 0 0 % 5 ∧ c.getD 0 0 % 5 < 5 := ⟨Int.emod_nonneg _ (by decide), Int.emod_lt_of_pos _ (by decide)⟩
  generalize c.getD 0 0 % 5 = g at h
  obtain ⟨g, rfl⟩ := Int.eq_ofNat_of_zero_le h.1
  have e : ((c.take (3 + (g : Int)).toNat).drop 2).length = 1 + g := cut_len (x := 2) (a := 2) (by lia) rfl (by lia)
  rw [List.length_map, e]
  lia
theorem fs_len : (fsL c).length ≤ 3 := by
  unfold fsL
  have h := Int.emod_lt_of_pos (c.getD 1 0) (show (0 : Int) < 4 by decide)
  rw [List.length_map]
  exact Nat.le_trans cut_le (by lia)
theorem wds_len : (wdsL c).length = 24 := by unfold wdsL; simp
theorem roots_len : (rootsL c).length = 4 := by unfold rootsL; rw [List.length_drop, wds_len]
theorem roots_sub : ∀ w ∈ rootsL c, w ∈ wdsL c := fun w h => List.mem_of_mem_drop h
theorem wds_ptr : ∀ w ∈ wdsL c, w % 2 = 1 → w / 2 ∈ headsL (ksL c) := by
  intro w hw h1
  unfold wdsL at hw
  obtain ⟨k, _, rfl⟩ := List.mem_map.mp hw
  generalize seedI c k = x at h1 ⊢
  generalize headsL (ksL c) = hs at h1 ⊢
  unfold wordI at h1 ⊢
  split
  · rename_i q
    have hlt : ((x / 4) % (hs.length : Int)).toNat < hs.length := by
      have h0 := Int.emod_nonneg (x / 4) (b := (hs.length : Int)) (by lia)
      have h2 := Int.emod_lt_of_pos (x / 4) (b := (hs.length : Int)) (by lia)
      lia
    rw [show (2 * hs.getD ((x / 4) % hs.length).toNat 0 + 1) / 2 = hs.getD ((x / 4) % hs.length).toNat 0 by lia]
    rw [List.getD_eq_getElem?_getD, List.getElem?_eq_getElem hlt]
    exact List.getElem_mem hlt
  · rename_i q
    rw [if_neg q] at h1
    lia
theorem law_laid (hc : 12 ≤ c.length) : Laid (psL c) (headsL (ksL c)) (wdsL c) := laid (ks_len hc).2 wds_len wds_ptr
theorem heads_len (hc : 12 ≤ c.length) : (headsL (ksL c)).length ≤ 5 := by
  unfold headsL
  rw [List.length_map]
  refine Nat.le_trans (List.length_filter_le _ _) ?_
  rw [List.length_range]
  exact (ks_len hc).2
end
end Mine
namespace Mine
open PySem PySem.Calls PySem.Spec PyProof.Rows

theorem len_cons {α : Type} {n : Nat} : ∀ {vs : List α}, vs.length = n + 1 → ∃ a r, vs = a :: r ∧ r.length = n
  | a :: r, h => ⟨a, r, rfl, Nat.succ.inj h⟩
/-- plain data -/
inductive V where
  | none
  | bool (b : Bool)
  | int (i : Int)
  | str (x : Str)
  | typ (n : String)
  | tup (l : List V)
  | lst (l : List V)
  /-- a tag: read off the turning lists alone -/
  | old (d : V)
  /-- anything -/
  | any
  /-- a tuple whose first two items are lists apart from each other -/
  | two (xs ys rest : List V)
  /-- a table of ints, not empty -/
  | dct (l : List (Int × Int))

/-- an int-keyed table that holds l and is not empty -/
structure DctO (o : Obj) (l : List (Int × Int)) : Prop where
  ex : o.ExactDict
  tab : ∃ es ep, o.data = .dict es ep ∧ IntKeys es ∧ 0 < es.size ∧ ∀ k i, l.lookup k = some i → ∃ t, findBy Value.isInt es k = some (.int i t)
noncomputable abbrev lstO (vs : List Value) (n : Nat) : Obj := { cls := .type "list", data := .seq vs.toArray n }
noncomputable abbrev tupO (vs : List Value) (n : Nat) : Obj := { cls := .type "tuple", data := .seq vs.toArray n }

mutual
/-- the value reads as the datum, through no object of X -/
inductive Rd (X : List Addr) (h : Heap) : Value → V → Prop
  | none : Rd X h .none .none
  | bool (b : Bool) : Rd X h (.bool b) (.bool b)
  | int (i : Int) (t : Tok) : Rd X h (.int i t) (.int i)
  | str (x : Str) (t : Tok) : Rd X h (.str x t) (.str x)
  | typ (n : String) : Rd X h (.type n) (.typ n)
  | tup {a : Addr} {vs : List Value} {n : Nat} {ds : List V} : h.get? a = some (tupO vs n) → a ∉ X → RdA X h vs ds → Rd X h (.ref a) (.tup ds)
  | lst {a : Addr} {vs : List Value} {n : Nat} {ds : List V} : h.get? a = some (lstO vs n) → a ∉ X → RdA X h vs ds → Rd X h (.ref a) (.lst ds)
  | any (v : Value) : Rd X h v .any
  | two {t a b : Addr} {vs va vb : List Value} {n na nb : Nat} {xs ys rest : List V} : h.get? t = some (tupO (.ref a :: .ref b :: vs) n) → t ∉ X → h.get? a = some (lstO va na) → a ∉ X → RdA X h va xs → h.get? b = some (lstO vb nb) → b ∉ X → RdA X h vb ys → a ≠ b → RdA X h vs rest → Rd X h (.ref t) (.two xs ys rest)
  | dct {a : Addr} {o : Obj} {l : List (Int × Int)} : h.get? a = some o → a ∉ X → DctO o l → Rd X h (.ref a) (.dct l)
inductive RdA (X : List Addr) (h : Heap) : List Value → List V → Prop
  | nil : RdA X h [] []
  | cons {v : Value} {vs : List Value} {d : V} {ds : List V} : Rd X h v d → RdA X h vs ds → RdA X h (v :: vs) (d :: ds)
end

section
variable {X : List Addr} {h : Heap} {v : Value}
theorem Rd.none_inv (r : Rd X h v .none) : v = .none := by cases r; rfl
theorem Rd.bool_inv {b : Bool} (r : Rd X h v (.bool b)) : v = .bool b := by cases r; rfl
theorem Rd.int_inv {i : Int} (r : Rd X h v (.int i)) : ∃ t, v = .int i t := by cases r; exact ⟨_, rfl⟩
theorem Rd.str_inv {x : Str} (r : Rd X h v (.str x)) : ∃ t, v = .str x t := by cases r; exact ⟨_, rfl⟩
theorem Rd.lst_inv {ds : List V} (r : Rd X h v (.lst ds)) : ∃ a vs n, v = .ref a ∧ h.get? a = some (lstO vs n) ∧ a ∉ X ∧ RdA X h vs ds := by cases r with | lst e hx r => exact ⟨_, _, _, rfl, e, hx, r⟩
theorem Rd.tup_inv {ds : List V} (r : Rd X h v (.tup ds)) : ∃ a vs n, v = .ref a ∧ h.get? a = some (tupO vs n) ∧ a ∉ X ∧ RdA X h vs ds := by cases r with | tup e hx r => exact ⟨_, _, _, rfl, e, hx, r⟩
theorem Rd.dct_inv {l : List (Int × Int)} (r : Rd X h v (.dct l)) : ∃ a o, v = .ref a ∧ h.get? a = some o ∧ a ∉ X ∧ DctO o l := by cases r with | dct e hx d => exact ⟨_, _, rfl, e, hx, d⟩
theorem RdA.nil_inv {vs : List Value} (r : RdA X h vs []) : vs = [] := by cases r; rfl
theorem RdA.cons_inv {vs : List Value} {d : V} {ds : List V} (r : RdA X h vs (d :: ds)) : ∃ w ws, vs = w :: ws ∧ Rd X h w d ∧ RdA X h ws ds := by cases r with | cons a r => exact ⟨_, _, rfl, a, r⟩
end

/-- an object that holds a sequence -/
noncomputable def IsSq (o : Obj) : Prop := (∃ its n, o.data = .seq its n) ∨ (∃ es ep, o.data = .dict es ep ∧ IntKeys es ∧ 0 < es.size)
theorem DctO.sq {o : Obj} {l : List (Int × Int)} (x : DctO o l) : IsSq o := let ⟨es, ep, h1, h2, h3, _⟩ := x.tab; .inr ⟨es, ep, h1, h2, h3⟩
theorem IsSq.seq {o : Obj} {its : Array Value} {n : Nat} (h : o.data = .seq its n) : IsSq o := .inl ⟨_, _, h⟩

theorem Rd.move {X Y : List Addr} {h h' : Heap} (hk : ∀ a o, h.get? a = some o → IsSq o → a ∉ X → h'.get? a = some o ∧ a ∉ Y) {v : Value} {d : V} (r : Rd X h v d) : Rd Y h' v d :=
  Rd.rec (motive_1 := fun v d _ => Rd Y h' v d) (motive_2 := fun vs ds _ => RdA Y h' vs ds) .none .bool .int .str .typ
    (fun e hx _ i => let ⟨a, b⟩ := hk _ _ e (.seq rfl) hx; .tup a b i)
    (fun e hx _ i => let ⟨a, b⟩ := hk _ _ e (.seq rfl) hx; .lst a b i)
    .any
    (fun e1 x1 e2 x2 _ e3 x3 _ ne _ i2 i3 i => let ⟨a1, b1⟩ := hk _ _ e1 (.seq rfl) x1; let ⟨a2, b2⟩ := hk _ _ e2 (.seq rfl) x2; let ⟨a3, b3⟩ := hk _ _ e3 (.seq rfl) x3; .two a1 b1 a2 b2 i2 a3 b3 i3 ne i)
    (fun e hx d => let ⟨a, b⟩ := hk _ _ e d.sq hx; .dct a b d)
    .nil (fun _ _ i j => .cons i j) r
theorem RdA.move {X Y : List Addr} {h h' : Heap} (hk : ∀ a o, h.get? a = some o → IsSq o → a ∉ X → h'.get? a = some o ∧ a ∉ Y) {vs : List Value} {ds : List V} (r : RdA X h vs ds) : RdA Y h' vs ds := by
  induction ds generalizing vs with
  | nil => obtain rfl := r.nil_inv; exact .nil
  | cons d ds ih => obtain ⟨w, ws, rfl, a, r⟩ := r.cons_inv; exact .cons (a.move hk) (ih r)

noncomputable def Le (h h' : Heap) : Prop := ∀ b o, h.get? b = some o → h'.get? b = some o
theorem Le.refl (h : Heap) : Le h h := fun _ _ e => e
theorem Le.trans {a b c : Heap} (x : Le a b) (y : Le b c) : Le a c := fun p o e => y p o (x p o e)
theorem Le.push {h : Heap} (o : Obj) : Le h (h.push o) := fun _ _ e => Heap.get?_push_of_some o e

theorem Rd.le {X : List Addr} {h h' : Heap} {v : Value} {d : V} (x : Rd X h v d) (k : Le h h') : Rd X h' v d := x.move fun a o e _ hx => ⟨k a o e, hx⟩
theorem RdA.le {X : List Addr} {h h' : Heap} {v : List Value} {d : List V} (x : RdA X h v d) (k : Le h h') : RdA X h' v d := x.move fun a o e _ hx => ⟨k a o e, hx⟩
theorem Rd.sub {X Y : List Addr} {h : Heap} {v : Value} {d : V} (x : Rd X h v d) (k : ∀ a ∈ Y, a ∈ X) : Rd Y h v d := x.move fun a o e _ hx => ⟨e, fun q => hx (k a q)⟩
theorem RdA.sub {X Y : List Addr} {h : Heap} {v : List Value} {d : List V} (x : RdA X h v d) (k : ∀ a ∈ Y, a ∈ X) : RdA Y h v d := x.move fun a o e _ hx => ⟨e, fun q => hx (k a q)⟩

/-- nothing within it is an object -/
noncomputable def V.flat : V → Bool
  | .tup _ => false
  | .lst _ => false
  | .old _ => false
  | .two .. => false
  | .dct _ => false
  | _ => true
theorem Rd.flat {X Y : List Addr} {h h' : Heap} {v : Value} {d : V} (x : Rd X h v d) (f : d.flat = true) : Rd Y h' v d := by
  cases x <;> first | (cases f; done) | constructor
theorem RdA.flat {X Y : List Addr} {h h' : Heap} {vs : List Value} {ds : List V} (r : RdA X h vs ds) (f : ∀ x ∈ ds, x.flat = true) : RdA Y h' vs ds := by
  induction ds generalizing vs with
  | nil => obtain rfl := r.nil_inv; exact .nil
  | cons d ds ih => obtain ⟨w, ws, rfl, a, r⟩ := r.cons_inv; exact .cons (a.flat (f _ (.head _))) (ih r fun x hx => f x (.tail _ hx))

section
variable {X : List Addr} {h : Heap} {vs ws : List Value} {ds es : List V}
theorem RdA.length (r : RdA X h vs ds) : vs.length = ds.length := by
  induction ds generalizing vs with
  | nil => obtain rfl := r.nil_inv; rfl
  | cons d ds ih => obtain ⟨w, ws, rfl, a, r⟩ := r.cons_inv; exact congrArg Nat.succ (ih r)
theorem RdA.append (r : RdA X h vs ds) (k : RdA X h ws es) : RdA X h (vs ++ ws) (ds ++ es) := by
  induction ds generalizing vs with
  | nil => obtain rfl := r.nil_inv; exact k
  | cons d ds ih => obtain ⟨w, ws, rfl, a, r⟩ := r.cons_inv; exact .cons a (ih r)
theorem RdA.get (r : RdA X h vs ds) : ∀ {i : Nat} {d : V}, ds[i]? = some d → ∃ v, vs[i]? = some v ∧ Rd X h v d := by
  induction ds generalizing vs with
  | nil => intro i d e; cases e
  | cons d ds ih =>
    obtain ⟨w, ws, rfl, a, r⟩ := r.cons_inv
    intro i d' e
    cases i with
    | zero => cases e; exact ⟨_, rfl, a⟩
    | succ i => exact ih r (i := i) e
theorem RdA.getV (r : RdA X h vs ds) : ∀ {i : Nat} {v : Value}, vs[i]? = some v → ∃ d, ds[i]? = some d ∧ Rd X h v d := by
  induction ds generalizing vs with
  | nil => obtain rfl := r.nil_inv; intro i d e; cases e
  | cons d ds ih =>
    obtain ⟨w, ws, rfl, a, r⟩ := r.cons_inv
    intro i d' e
    cases i with
    | zero => cases e; exact ⟨_, rfl, a⟩
    | succ i => exact ih r (i := i) e
theorem RdA.set {v : Value} {d : V} (hv : Rd X h v d) (r : RdA X h vs ds) : ∀ i : Nat, RdA X h (vs.set i v) (ds.set i d) := by
  induction ds generalizing vs with
  | nil => obtain rfl := r.nil_inv; exact fun _ => .nil
  | cons d ds ih =>
    obtain ⟨w, ws, rfl, a, r⟩ := r.cons_inv
    intro i
    cases i with
    | zero => exact .cons hv r
    | succ i => exact .cons a (ih r i)
theorem RdA.drop (r : RdA X h vs ds) (n : Nat) : RdA X h (vs.drop n) (ds.drop n) := by
  induction n generalizing vs ds with
  | zero => exact r
  | succ n ih =>
    cases ds with
    | nil => obtain rfl := r.nil_inv; exact .nil
    | cons d ds => obtain ⟨w, ws, rfl, a, r⟩ := r.cons_inv; exact ih r
theorem RdA.take (r : RdA X h vs ds) (n : Nat) : RdA X h (vs.take n) (ds.take n) := by
  induction n generalizing vs ds with
  | zero => exact .nil
  | succ n ih =>
    cases ds with
    | nil => obtain rfl := r.nil_inv; exact .nil
    | cons d ds => obtain ⟨w, ws, rfl, a, r⟩ := r.cons_inv; exact .cons a (ih r)
end

/-- what the laws' proofs know of the program's run -/
structure Wd where
  prog : Program
  w : World
  mg : Str → Option Value
  mb : Str → Option Value
  defs : Addr → FuncData → Prop
  root : Heap

structure Gr (W : Wd) (h : Heap) : Prop where
  g : h.Ns mainGlobals W.mg
  b : h.Ns builtinsNs W.mb
  lim : h.NoLimit
  defs : ∀ f fd, W.defs f fd → ∃ o, h.get? f = some o ∧ o.data = .func fd ∧ h.CodeRec fd.code fd.qualname
  root : Le W.root h

theorem Gr.le {W : Wd} {h h' : Heap} (x : Gr W h) (k : Le h h') : Gr W h' :=
  ⟨x.g.keeps k, x.b.keeps k, x.lim.keeps k, fun f fd hq => let ⟨o, h1, h2, h3⟩ := x.defs f fd hq; ⟨o, k _ _ h1, h2, h3.keeps k⟩, x.root.trans k⟩

structure Cn (W : Wd) (k : Nat) (A : Around) (h₀ : Heap) (L : Addr) (h : Heap) : Prop where
  gr : Gr W h₀
  bel : ∃ A₀ base outer fenv, Below A₀ base outer h₀ ∧ A.frames = some (fenv :: outer) ∧ fenv.frame = some L ∧ fenv.scope.kind = .function ∧ Le W.root base ∧ ∀ b ∈ outer.filterMap (·.frame), ∃ m, h₀.Ns b m
  above : h₀.objs.size ≤ L
  hand : A.handled = none
  room : A.depth + k < recursionLimit
  units : A.units + 8 * k + 100 < cLine
  keep : Le h₀ h
  ns : ∃ m, h.Ns L m

theorem Cn.le {W : Wd} {k : Nat} {A : Around} {h₀ : Heap} {L : Addr} {h h' : Heap} (x : Cn W k A h₀ L h) (q : Le h h') : Cn W k A h₀ L h' :=
  ⟨x.gr, x.bel, x.above, x.hand, x.room, x.units, x.keep.trans q, let ⟨m, hm⟩ := x.ns; ⟨m, hm.keeps q⟩⟩
theorem Cn.here {W : Wd} {k : Nat} {A : Around} {h₀ : Heap} {L : Addr} {h : Heap} (x : Cn W k A h₀ L h) : Gr W h := x.gr.le x.keep

/-- where an expression is evaluated -/
structure Cx (W : Wd) (k : Nat) (A : Around) (h₀ : Heap) (L : Addr) (env : Env) (X : List Addr) (h : Heap) : Prop where
  cn : Cn W k A h₀ L h
  ek : env.scope.kind = .function
  eg : env.globals = mainGlobals
  eb : env.builtins = builtinsNs
  xs : ∀ a ∈ X, ∃ o, h.get? a = some o
theorem Cx.le {W : Wd} {k : Nat} {A : Around} {h₀ : Heap} {L : Addr} {env : Env} {X : List Addr} {h h' : Heap} (x : Cx W k A h₀ L env X h) (q : Le h h') : Cx W k A h₀ L env X h' :=
  ⟨x.cn.le q, x.ek, x.eg, x.eb, fun a ha => let ⟨o, e⟩ := x.xs a ha; ⟨o, q _ _ e⟩⟩
theorem Cx.sub {W : Wd} {k : Nat} {A : Around} {h₀ : Heap} {L : Addr} {env : Env} {X Y : List Addr} {h : Heap} (x : Cx W k A h₀ L env X h) (q : ∀ a ∈ Y, a ∈ X) : Cx W k A h₀ L env Y h :=
  ⟨x.cn, x.ek, x.eg, x.eb, fun a ha => x.xs a (q a ha)⟩
theorem Cx.fresh {W : Wd} {k : Nat} {A : Around} {h₀ : Heap} {L : Addr} {env : Env} {X : List Addr} {h h' : Heap} (x : Cx W k A h₀ L env X h) (q : Le h h') : h'.objs.size ∉ X := fun m => by
  obtain ⟨o, e⟩ := x.xs _ m
  exact Nat.lt_irrefl _ (Heap.lt_size (q _ _ e))

/-- the variable holds the value -/
noncomputable def Var (env : Env) (h : Heap) (x : Str) (v : Value) : Prop :=
  (env.kindOf x = some .local ∧ ∃ m, h.Ns env.locals m ∧ m x = some v) ∨
  ((env.kindOf x = some .cell ∨ (env.kindOf x = some .free ∧ (x == ("__classdict__" : Str)) = false)) ∧ ∃ c, env.cells.lookup x = some c ∧ h.IsCell c (some v))
theorem Var.le {env : Env} {h h' : Heap} {x : Str} {v : Value} (y : Var env h x v) (k : Le h h') : Var env h' x v := by
  rcases y with ⟨a, m, b, c⟩ | ⟨a, c, b, d⟩
  · exact .inl ⟨a, m, b.keeps k, c⟩
  · exact .inr ⟨a, c, b, d.keeps k⟩

/-- the state has grown: nothing that stood has turned -/
structure Gw (s s' : Shared) : Prop where
  same : ∃ h tk, s' = { s with heap := h, toks := tk }
  le : Le s.heap s'.heap
theorem Gw.refl (s : Shared) : Gw s s := ⟨⟨s.heap, s.toks, rfl⟩, fun _ _ e => e⟩
theorem Gw.trans {a b c : Shared} (x : Gw a b) (y : Gw b c) : Gw a c := by
  obtain ⟨⟨h, t, rfl⟩, k⟩ := x
  obtain ⟨⟨h', t', rfl⟩, k'⟩ := y
  exact ⟨⟨h', t', rfl⟩, k.trans k'⟩
theorem Gw.toks (s : Shared) (t : Nat) : Gw s { s with toks := t } := ⟨⟨s.heap, t, rfl⟩, fun _ _ e => e⟩
theorem Gw.push (s : Shared) (o : Obj) : Gw s { s with heap := s.heap.push o } := ⟨⟨_, s.toks, rfl⟩, Le.push o⟩
noncomputable def Ev (W : Wd) (A : Around) (env : Env) (X : List Addr) (h : Heap) (e : Expr) (d : V) : Prop :=
  ∀ (s : Shared) (Q E : Value → Shared → Prop), Le h s.heap → (∀ v s', Gw s s' → Rd X s'.heap v d → Q v s') → wpAny (model W.prog W.w) A (eval e env) Q E s

noncomputable def Bt (W : Wd) (A : Around) (env : Env) (h : Heap) (e : Expr) (b : Bool) : Prop :=
  ∀ (s : Shared) (Q : Bool → Shared → Prop) (E : Value → Shared → Prop), Le h s.heap → (∀ s', Gw s s' → Q b s') → wpAny (model W.prog W.w) A (isTrue e env (eval e env)) Q E s

section
variable {W : Wd} {k : Nat} {A : Around} {h₀ : Heap} {L : Addr} {env : Env} {X Y : List Addr} {h : Heap}

theorem Ev.sub {e : Expr} {d : V} (x : Ev W A env X h e d) (q : ∀ a ∈ Y, a ∈ X) : Ev W A env Y h e d := fun s Q E l f => x s Q E l fun v s' k r => f v s' k (r.sub q)
theorem Ev.flat {e : Expr} {d : V} (x : Ev W A env Y h e d) (q : d.flat = true) : Ev W A env X h e d := fun s Q E l f => x s Q E l fun v s' k r => f v s' k (r.flat q)
theorem ev_var {x : Str} {pos : Pos} {v : Value} {d : V} (c : Cx W k A h₀ L env X h) (hv : Var env h x v) (hr : Rd X h v d) (hd : (x == ("__debug__" : Str)) = false := by decide) : Ev W A env X h (.Name x pos) d := by
  intro s Q E l f
  refine wpAny_Name ?_ hd
  have q := f v s (Gw.refl s) (hr.le l)
  rcases hv.le l with ⟨a, m, b, e⟩ | ⟨a | ⟨a, n⟩, cc, b, e⟩
  · exact wpAny_loadName_local c.ek a b e q
  · exact wpAny_loadName_cell c.ek a b e q
  · exact wpAny_loadName_free c.ek a b e q n
theorem ev_int {i : Int} {n : Nat} {pos : Pos} : Ev W A env X h (.Constant (.int i) n pos) (.int i) := fun s Q E l f => wpAny_Constant_int (f _ _ (Gw.toks s _) (.int _ _))
theorem ev_bool {i : Bool} {n : Nat} {pos : Pos} : Ev W A env X h (.Constant (.bool i) n pos) (.bool i) := fun s Q E l f => Constant_bool (f _ _ (Gw.refl s) (.bool _))
theorem ev_none {n : Nat} {pos : Pos} : Ev W A env X h (.Constant .none n pos) .none := fun s Q E l f => Constant_none (f _ _ (Gw.refl s) .none)
theorem ev_str {i : Str} {n : Nat} {pos : Pos} : Ev W A env X h (.Constant (.str i) n pos) (.str i) := fun s Q E l f => Constant_str (f _ _ (Gw.toks s _) (.str _ _))

/-- two operands and an operation -/
theorem ev_bin {l r : Expr} {op : Operator} {pos : Pos} {a b d : V} (ha : Ev W A env Y h l a) (hb : Ev W A env Y h r b)
    (ho : ∀ (s : Shared) (u v : Value) (Q E : Value → Shared → Prop), Le h s.heap → Rd Y s.heap u a → Rd Y s.heap v b → (∀ v s', Gw s s' → Rd X s'.heap v d → Q v s') → wpAny (model W.prog W.w) A (binaryOp op u v) Q E s) :
    Ev W A env X h (.BinOp l op r pos) d := fun s Q E le f =>
  wpAny_BinOp (ha s _ _ le fun u s₁ k₁ r₁ => hb s₁ _ _ (le.trans k₁.le) fun v s₂ k₂ r₂ => ho s₂ u v _ _ (le.trans (k₁.le.trans k₂.le)) (r₁.le k₂.le) r₂ fun v' s₃ k₃ r₃ => f v' s₃ (k₁.trans (k₂.trans k₃)) r₃)
theorem ev_add {l r : Expr} {pos : Pos} {a b : Int} (ha : Ev W A env [] h l (.int a)) (hb : Ev W A env [] h r (.int b)) : Ev W A env X h (.BinOp l .Add r pos) (.int (a + b)) :=
  ev_bin ha hb fun s u v Q E _ ru rv f => by obtain ⟨_, rfl⟩ := ru.int_inv; obtain ⟨_, rfl⟩ := rv.int_inv; exact add_int (f _ _ (Gw.toks s _) (.int _ _))

theorem ev_cmp {l r : Expr} {op : CmpOp} {pos : Pos} {a b d : V} (ha : Ev W A env Y h l a) (hb : Ev W A env Y h r b)
    (ho : ∀ (s : Shared) (u v : Value) (Q E : Value → Shared → Prop), Le h s.heap → Rd Y s.heap u a → Rd Y s.heap v b → (∀ v s', Gw s s' → Rd X s'.heap v d → Q v s') → wpAny (model W.prog W.w) A (compareOp op u v) Q E s)
    (hm : behindInMarks op r = false := by with_unfolding_all rfl) :
    Ev W A env X h (.Compare l [op] [r] pos) d := fun s Q E le f =>
  wpAny_Compare1 (ha s _ _ le fun u s₁ k₁ r₁ => hb s₁ _ _ (le.trans k₁.le) fun v s₂ k₂ r₂ => ho s₂ u v _ _ (le.trans (k₁.le.trans k₂.le)) (r₁.le k₂.le) r₂ fun v' s₃ k₃ r₃ => f v' s₃ (k₁.trans (k₂.trans k₃)) r₃) hm
end
end Mine
namespace Mine
open PySem PySem.Calls PySem.Spec PyProof.Rows

/-- lists of the function's own that may turn: their name, address, items -/
noncomputable abbrev Mu := List (Str × Addr × List V)
/-- what is known of the other names -/
noncomputable abbrev Rho := List (Str × V)
noncomputable def Mu.at (μ : Mu) : List Addr := μ.map (·.2.1)
noncomputable def Mu.names (μ : Mu) : List Str := μ.map (·.1)

inductive Fl where
  | next
  | brk
  | cont
  | ret (d : V)
noncomputable def FlIs (X : List Addr) (h : Heap) : Flow → Fl → Prop
  | .next, .next => True
  | .brk, .brk => True
  | .cont, .cont => True
  | .ret v, .ret d => Rd X h v d
  | _, _ => False

/-- the fixed things of a function's body -/
structure Bd where
  W : Wd
  k : Nat
  A : Around
  h₀ : Heap
  env : Env
  X₀ : List Addr
  s₀ : Shared

/-- a body's frame is well laid -/
structure Wf (B : Bd) : Prop where
  ek : B.env.scope.kind = .function
  eg : B.env.globals = mainGlobals
  eb : B.env.builtins = builtinsNs
  apart : B.env.cells.Pairwise fun x y => x.2 ≠ y.2
  cl : ∀ x c, (x, c) ∈ B.env.cells → c ≠ B.env.locals
  xs : ∀ a ∈ B.X₀, ∃ o, B.h₀.get? a = some o

/-- what a name holds: off X0 too, unless it is tagged old -/
noncomputable def RdS (M X₀ : List Addr) (h : Heap) (v : Value) : V → Prop
  | .old d => Rd M h v d
  | d => Rd (M ++ X₀) h v d
theorem RdS.move {M M' X₀ : List Addr} {h h' : Heap} {v : Value} {d : V} (r : RdS M X₀ h v d) (m1 : ∀ {d}, Rd M h v d → Rd M' h' v d) (m2 : ∀ {d}, Rd (M ++ X₀) h v d → Rd (M' ++ X₀) h' v d) : RdS M' X₀ h' v d := by
  cases d <;> first | exact m1 r | exact m2 r
theorem RdS.of {M X₀ : List Addr} {h : Heap} {v : Value} {d : V} (r : Rd (M ++ X₀) h v d) : RdS M X₀ h v d := by
  cases d <;> first | exact r | exact (nomatch r)
/-- list-like data is tagged -/
noncomputable def tag (d : V) : V := if d.flat then d else .old d
theorem RdS.tag {M X₀ : List Addr} {h : Heap} {v : Value} {d : V} (r : Rd M h v d) : RdS M X₀ h v (tag d) := by
  unfold Mine.tag
  by_cases f : d.flat = true
  · rw [if_pos f]; exact .of (r.flat f)
  · rw [if_neg f]; exact r

structure Sat (B : Bd) (Kp : Addr → Obj → Prop) (γ : List (Value × V)) (μ : Mu) (ρ : Rho) (s : Shared) : Prop where
  wf : Wf B
  cn : Cn B.W B.k B.A B.h₀ B.env.locals s.heap
  same : ∃ h tk, s = { B.s₀ with heap := h, toks := tk }
  h₀kp : ∀ a o, B.h₀.get? a = some o → Kp a o
  kp : ∀ a o, Kp a o → s.heap.get? a = some o ∧ a ≠ B.env.locals ∧ (∀ x, (x, a) ∉ B.env.cells) ∧ a ∉ μ.at
  cells : ∀ x c, (x, c) ∈ B.env.cells → ∃ v, s.heap.IsCell c v
  gam : ∀ q ∈ γ, Rd μ.at s.heap q.1 q.2
  vars : ∀ z d, ρ.lookup z = some d → ∃ v, Var B.env s.heap z v ∧ RdS μ.at B.X₀ s.heap v d
  muts : ∀ q ∈ μ, Var B.env s.heap q.1 (.ref q.2.1) ∧ q.2.1 ∉ B.X₀ ∧ ∃ vs n, s.heap.get? q.2.1 = some (lstO vs n) ∧ RdA (μ.at ++ B.X₀) s.heap vs q.2.2
  nd : μ.at.Nodup

theorem Sat.cx {B : Bd} {Kp γ μ ρ s} (x : Sat B Kp γ μ ρ s) : Cx B.W B.k B.A B.h₀ B.env.locals B.env (μ.at ++ B.X₀) s.heap := by
  refine ⟨x.cn, x.wf.ek, x.wf.eg, x.wf.eb, fun a ha => ?_⟩
  rcases List.mem_append.mp ha with h | h
  · obtain ⟨q, hq, rfl⟩ := List.mem_map.mp h
    obtain ⟨_, _, vs, n, e, _⟩ := x.muts q hq
    exact ⟨_, e⟩
  · obtain ⟨o, e⟩ := x.wf.xs a h
    exact ⟨o, x.cn.keep _ _ e⟩

theorem ns_unique {h : Heap} {a : Addr} {m m' : Str → Option Value} (x : h.Ns a m) (y : h.Ns a m') : m = m' := by
  obtain ⟨o, es, ep, e, hd, _, f⟩ := x
  obtain ⟨o', es', ep', e', hd', _, f'⟩ := y
  rw [e] at e'; cases e'
  rw [hd] at hd'; cases hd'
  funext z
  rw [← f, ← f']
theorem ns_notSq {h : Heap} {a : Addr} {m : Str → Option Value} (x : h.Ns a m) : ∀ o, h.get? a = some o → ¬ IsSq o := by
  obtain ⟨o, es, ep, e, hd, hsk, _⟩ := x
  rintro o' e' (⟨its, n, hd'⟩ | ⟨es', ep', hd', hk, h0⟩)
  · rw [e] at e'; cases e'
    rw [hd] at hd'; cases hd'
  · rw [e] at e'; cases e'
    rw [hd] at hd'
    injection hd' with q1 q2
    subst q1
    obtain ⟨n1, t1, k1⟩ := hsk es[0] (Array.getElem_mem h0)
    obtain ⟨n2, t2, k2, _⟩ := hk es[0] (Array.getElem_mem h0)
    rw [k1] at k2; cases k2
theorem cell_notSq {h : Heap} {a : Addr} {v : Option Value} (x : h.IsCell a v) : ∀ o, h.get? a = some o → ¬ IsSq o := by
  obtain ⟨o, e, hd⟩ := x
  rintro o' e' (⟨its, n, hd'⟩ | ⟨es', ep', hd', _⟩)
  · rw [e] at e'; cases e'
    rw [hd] at hd'; cases hd'
  · rw [e] at e'; cases e'
    rw [hd] at hd'; cases hd'

/-- an object apart from all that is known turns, others may come -/
theorem Sat.ext {B : Bd} {Kp γ μ ρ s} {h' : Heap} {tk : Nat} {a : Addr} (x : Sat B Kp γ μ ρ s) (hk : ∀ b o, b ≠ a → s.heap.get? b = some o → h'.get? b = some o) (ha : a ≠ B.env.locals) (hc : ∀ y, (y, a) ∉ B.env.cells)
    (hK : ∀ o, ¬ Kp a o) (hs : ∀ o, s.heap.get? a = some o → ¬ IsSq o) : Sat B Kp γ μ ρ { s with heap := h', toks := tk } := by
  have sq : ∀ b o, s.heap.get? b = some o → IsSq o → h'.get? b = some o := fun b o e q => hk b o (fun z => hs o (z ▸ e) q) e
  have mv : ∀ {X v d}, Rd X s.heap v d → Rd X h' v d := fun r => r.move fun b o e q hx => ⟨sq b o e q, hx⟩
  have mvA : ∀ {X v d}, RdA X s.heap v d → RdA X h' v d := fun r => r.move fun b o e q hx => ⟨sq b o e q, hx⟩
  have vr : ∀ {y v}, Var B.env s.heap y v → Var B.env h' y v := by
    rintro y v (⟨p, m, q, r⟩ | ⟨p, c, q, r⟩)
    · exact .inl ⟨p, m, q.at' fun o e => hk _ o (Ne.symm ha) e, r⟩
    · obtain ⟨o, e, hd⟩ := r
      exact .inr ⟨p, c, q, o, hk c o (fun z => hc y (z ▸ mem_of_lookup q)) e, hd⟩
  refine ⟨x.wf, ⟨x.cn.gr, x.cn.bel, x.cn.above, x.cn.hand, x.cn.room, x.cn.units, fun b o e => ?_, ?_⟩, ?_, x.h₀kp, fun b o e => ?_, fun y c hm => ?_, fun q hq => mv (x.gam q hq), fun z d hz => ?_, fun q hq => ?_, x.nd⟩
  · exact hk b o (fun z => hK o (z ▸ x.h₀kp b o e)) (x.cn.keep b o e)
  · obtain ⟨m, hm⟩ := x.cn.ns
    exact ⟨m, hm.at' fun o e => hk _ o (Ne.symm ha) e⟩
  · obtain ⟨h, t, e⟩ := x.same
    exact ⟨h', tk, by rw [e]⟩
  · have k := x.kp b o e
    exact ⟨hk b o (fun z => hK o (z ▸ e)) k.1, k.2⟩
  · obtain ⟨v, o, e, hd⟩ := x.cells y c hm
    exact ⟨v, o, hk c o (fun z => hc y (z ▸ hm)) e, hd⟩
  · obtain ⟨v, h1, h2⟩ := x.vars z d hz
    exact ⟨v, vr h1, h2.move mv mv⟩
  · obtain ⟨h1, h2, vs, n, h3, h4⟩ := x.muts q hq
    exact ⟨vr h1, h2, vs, n, sq _ _ h3 (.seq rfl), mvA h4⟩

theorem Sat.le {B : Bd} {Kp γ μ ρ s} {h' : Heap} {tk : Nat} (x : Sat B Kp γ μ ρ s) (hk : Le s.heap h') : Sat B Kp γ μ ρ { s with heap := h', toks := tk } := by
  refine Sat.ext (a := s.heap.objs.size) x (fun b o _ e => hk b o e) ?_ ?_ ?_ ?_
  · obtain ⟨m, hm⟩ := x.cn.ns
    exact Nat.ne_of_gt hm.lt
  · intro y hm
    obtain ⟨v, hv⟩ := x.cells y _ hm
    exact Nat.lt_irrefl _ hv.lt
  · intro o e
    exact Nat.lt_irrefl _ (Heap.lt_size (x.kp _ _ e).1)
  · intro o e
    exact absurd (Heap.lt_size e) (Nat.lt_irrefl _)
theorem Sat.gw {B : Bd} {Kp γ μ ρ s s'} (x : Sat B Kp γ μ ρ s) (g : Gw s s') : Sat B Kp γ μ ρ s' := by
  obtain ⟨⟨h, t, rfl⟩, k⟩ := g
  exact x.le k

/-- a value in flight -/
theorem Sat.fly {B : Bd} {Kp γ μ ρ s} {v : Value} {d : V} (x : Sat B Kp γ μ ρ s) (r : Rd μ.at s.heap v d) : Sat B Kp ((v, d) :: γ) μ ρ s :=
  ⟨x.wf, x.cn, x.same, x.h₀kp, x.kp, x.cells, fun q hq => by
    rcases List.mem_cons.mp hq with rfl | hq
    · exact r
    · exact x.gam q hq, x.vars, x.muts, x.nd⟩
theorem Sat.land {B : Bd} {Kp γ γ' μ ρ s} (x : Sat B Kp γ μ ρ s) (hs : ∀ q ∈ γ', q ∈ γ) : Sat B Kp γ' μ ρ s :=
  ⟨x.wf, x.cn, x.same, x.h₀kp, x.kp, x.cells, fun q hq => x.gam q (hs q hq), x.vars, x.muts, x.nd⟩
/-- more is kept -/
theorem Sat.more {B : Bd} {Kp Kp' γ μ ρ s} (x : Sat B Kp γ μ ρ s) (h : ∀ a o, B.h₀.get? a = some o → Kp' a o) (hs : ∀ a o, Kp' a o → s.heap.get? a = some o ∧ a ≠ B.env.locals ∧ (∀ x, (x, a) ∉ B.env.cells) ∧ a ∉ μ.at) : Sat B Kp' γ μ ρ s :=
  ⟨x.wf, x.cn, x.same, h, hs, x.cells, x.gam, x.vars, x.muts, x.nd⟩
theorem Sat.less {B : Bd} {Kp Kp' γ μ ρ s} (x : Sat B Kp γ μ ρ s) (h : ∀ a o, B.h₀.get? a = some o → Kp' a o) (hs : ∀ a o, Kp' a o → Kp a o) : Sat B Kp' γ μ ρ s :=
  ⟨x.wf, x.cn, x.same, h, fun a o e => x.kp a o (hs a o e), x.cells, x.gam, x.vars, x.muts, x.nd⟩
theorem Sat.forget {B : Bd} {Kp γ μ ρ ρ' s} (x : Sat B Kp γ μ ρ s) (hs : ∀ z d, ρ'.lookup z = some d → ρ.lookup z = some d) : Sat B Kp γ μ ρ' s :=
  ⟨x.wf, x.cn, x.same, x.h₀kp, x.kp, x.cells, x.gam, fun z d hz => x.vars z d (hs z d hz), x.muts, x.nd⟩

/-- a store into a name -/
structure Stored (env : Env) (x : Str) (v : Value) (h h' : Heap) (a : Addr) : Prop where
  but : Heap.SameBut a h h'
  slot : a = env.locals ∨ ∃ y, (y, a) ∈ env.cells
  sq : ∀ o, h.get? a = some o → ¬ IsSq o
  here : Var env h' x v
  others : ∀ y u, y ≠ x → Var env h y u → Var env h' y u
  ns : ∃ m, h'.Ns env.locals m
  cells : ∀ y c, (y, c) ∈ env.cells → ∃ u, h'.IsCell c u

theorem store_any {M : Model} {A : Around} {env : Env} {s : Shared} {x : Str} {v : Value} {Q : Unit → Shared → Prop} {E : Value → Shared → Prop} (ek : env.scope.kind = .function) (ap : env.cells.Pairwise fun x y => x.2 ≠ y.2) (cl : ∀ x c, (x, c) ∈ env.cells → c ≠ env.locals)
    (hn : ∃ m, s.heap.Ns env.locals m) (hc : ∀ y c, (y, c) ∈ env.cells → ∃ u, s.heap.IsCell c u) (hx : env.kindOf x = some .local ∨ (env.kindOf x = some .cell ∧ (env.cells.lookup x).isSome = true))
    (h : ∀ h' tk a, Stored env x v s.heap h' a → Q () { s with heap := h', toks := tk }) : wpAny M A (storeName env x v) Q E s := by
  obtain ⟨m, hm⟩ := hn
  rcases hx with hl | ⟨hl, hcx⟩
  · refine wpAny_storeName_local hl hm (fun h' hn' hs' => h h' _ env.locals ⟨hs', .inl rfl, ns_notSq hm, .inl ⟨hl, _, hn', by simp⟩, ?_, ⟨_, hn'⟩, ?_⟩) (by rw [ek]; rfl)
    · rintro y u hy (⟨p, m', q, r⟩ | ⟨p, c, q, r⟩)
      · refine .inl ⟨p, _, hn', ?_⟩
        rw [ns_unique q hm] at r
        simp [hy, r]
      · exact .inr ⟨p, c, q, r.sameBut hs' (cl y c (mem_of_lookup q))⟩
    · intro y c hm'
      obtain ⟨u, hu⟩ := hc y c hm'
      exact ⟨u, hu.sameBut hs' (cl y c hm')⟩
  · obtain ⟨c, hcl⟩ := Option.isSome_iff_exists.mp hcx
    have hcm := mem_of_lookup hcl
    obtain ⟨v₀, hv₀⟩ := hc x c hcm
    refine wpAny_storeName_cell ek hl hcl hv₀ fun h' hc' hs' => h h' _ c ⟨hs', .inr ⟨x, hcm⟩, cell_notSq hv₀, .inr ⟨.inl hl, c, hcl, hc'⟩, ?_, ⟨m, hm.sameBut hs' (Ne.symm (cl x c hcm))⟩, ?_⟩
    · rintro y u hy (⟨p, m', q, r⟩ | ⟨p, c', q, r⟩)
      · exact .inl ⟨p, m', q.sameBut hs' (Ne.symm (cl x c hcm)), r⟩
      · refine .inr ⟨p, c', q, r.sameBut hs' fun z => hy (name_of_addr ap (mem_of_lookup q) (z ▸ hcm))⟩
    · intro y c' hm'
      by_cases e : c' = c
      · subst e; exact ⟨_, hc'⟩
      · obtain ⟨u, hu⟩ := hc y c' hm'
        exact ⟨u, hu.sameBut hs' e⟩

/-- what is known of the names when x is stored -/
theorem lookup_put {ρ : Rho} {x z : Str} {d e : V} (h : ((x, d) :: ρ).lookup z = some e) : (z = x ∧ e = d) ∨ (z ≠ x ∧ ρ.lookup z = some e) := by
  rw [List.lookup_cons] at h
  cases q : z == x with
  | true => rw [q] at h; cases h; exact .inl ⟨beq_iff_eq.mp q, rfl⟩
  | false => rw [q] at h; exact .inr ⟨fun z' => by rw [z'] at q; simp at q, h⟩

theorem Sat.stored {B : Bd} {Kp γ μ ρ s} {x : Str} {v : Value} {d : V} {h' : Heap} {tk : Nat} {a : Addr} (y : Sat B Kp γ μ ρ s) (st : Stored B.env x v s.heap h' a) (r : RdS μ.at B.X₀ s.heap v d) (hn : x ∉ μ.names) :
    Sat B Kp γ μ ((x, d) :: ρ) { s with heap := h', toks := tk } := by
  have sq : ∀ b o, s.heap.get? b = some o → IsSq o → h'.get? b = some o := fun b o e q => (st.but.2 b fun z => st.sq o (z ▸ e) q).trans e
  have mv : ∀ {X v d}, Rd X s.heap v d → Rd X h' v d := fun r => r.move fun b o e q hx => ⟨sq b o e q, hx⟩
  have mvA : ∀ {v d}, RdA (μ.at ++ B.X₀) s.heap v d → RdA (μ.at ++ B.X₀) h' v d := fun r => r.move fun b o e q hx => ⟨sq b o e q, hx⟩
  have kpa : ∀ b o, Kp b o → b ≠ a := fun b o e z => by
    have k := y.kp b o e
    rcases st.slot with q | ⟨w, q⟩
    · exact k.2.1 (z.trans q)
    · exact k.2.2.1 w (z ▸ q)
  refine ⟨y.wf, ⟨y.cn.gr, y.cn.bel, y.cn.above, y.cn.hand, y.cn.room, y.cn.units, fun b o e => ?_, st.ns⟩, ?_, y.h₀kp, fun b o e => ?_, st.cells, fun q hq => mv (y.gam q hq), fun z e hz => ?_, fun q hq => ?_, y.nd⟩
  · exact (st.but.2 b (kpa b o (y.h₀kp b o e))).trans (y.cn.keep b o e)
  · obtain ⟨h, t, e⟩ := y.same
    exact ⟨h', tk, by rw [e]⟩
  · have k := y.kp b o e
    exact ⟨(st.but.2 b (kpa b o e)).trans k.1, k.2.1, k.2.2.1, k.2.2.2⟩
  · rcases lookup_put hz with ⟨rfl, rfl⟩ | ⟨h1, h2⟩
    · exact ⟨v, st.here, r.move mv mv⟩
    · obtain ⟨u, h3, h4⟩ := y.vars z e h2
      exact ⟨u, st.others _ _ h1 h3, h4.move mv mv⟩
  · obtain ⟨h3, h4, vs, n, h5, h6⟩ := y.muts q hq
    exact ⟨st.others _ _ (fun z => hn (List.mem_map.mpr ⟨q, hq, z⟩)) h3, h4, vs, n, sq _ _ h5 (.seq rfl), mvA h6⟩

noncomputable def Mu.off (μ : Mu) (x : Str) : Mu := μ.filter fun q => decide (q.1 ≠ x)
theorem Mu.mem_off {μ : Mu} {x : Str} {q : Str × Addr × List V} (h : q ∈ μ.off x) : q ∈ μ ∧ q.1 ≠ x := by
  obtain ⟨h1, h2⟩ := List.mem_filter.mp h
  exact ⟨h1, by simpa using h2⟩
theorem Mu.off_sub {μ : Mu} {x : Str} : ∀ a ∈ (μ.off x).at, a ∈ μ.at := fun a ha => by
  obtain ⟨q, hq, rfl⟩ := List.mem_map.mp ha
  exact List.mem_map.mpr ⟨q, (Mu.mem_off hq).1, rfl⟩
theorem Mu.off_nd {μ : Mu} {x : Str} (h : μ.at.Nodup) : (μ.off x).at.Nodup := by
  unfold Mu.at Mu.off at *
  exact List.Nodup.sublist (List.Sublist.map _ List.filter_sublist) h
theorem Mu.off_none {μ : Mu} {x : Str} (h : x ∉ μ.names) : μ.off x = μ := List.filter_eq_self.mpr fun q hq => by
  simp only [decide_eq_true_eq]
  exact fun z => h (List.mem_map.mpr ⟨q, hq, z⟩)

/-- a store of a list that is new: it may turn -/
theorem Sat.storedM {B : Bd} {Kp γ μ ρ s} {x : Str} {l : Addr} {vs : List Value} {n : Nat} {ds : List V} {h' : Heap} {tk : Nat} {a : Addr} (y : Sat B Kp γ μ ρ s) (st : Stored B.env x (.ref l) s.heap h' a) (r : RdA (μ.at ++ B.X₀) s.heap vs ds) (e : s.heap.get? l = some (lstO vs n))
    (hl0 : ∀ o, ¬ Kp l o) (hlx : l ∉ B.X₀) (hlm : l ∉ μ.at) (hγ : ∀ q ∈ γ, Rd (l :: μ.at) s.heap q.1 q.2) (hρx : ρ.lookup x = none) (hρ : ∀ z d, ρ.lookup z = some d → ∃ v, Var B.env s.heap z v ∧ RdS (l :: μ.at) B.X₀ s.heap v d) (hr : RdA (l :: (μ.at ++ B.X₀)) s.heap vs ds)
    (hμ : ∀ q ∈ μ, q.1 ≠ x → ∃ vs n, s.heap.get? q.2.1 = some (lstO vs n) ∧ RdA (l :: (μ.at ++ B.X₀)) s.heap vs q.2.2) :
    Sat B Kp γ ((x, l, ds) :: μ.off x) ρ { s with heap := h', toks := tk } := by
  have sq : ∀ b o, s.heap.get? b = some o → IsSq o → h'.get? b = some o := fun b o e q => (st.but.2 b fun z => st.sq o (z ▸ e) q).trans e
  have sb : ∀ a ∈ Mu.at ((x, l, ds) :: μ.off x) ++ B.X₀, a ∈ l :: (μ.at ++ B.X₀) := fun a ha => by
    rcases List.mem_append.mp ha with q | q
    · rcases List.mem_cons.mp q with q | q
      · exact q ▸ .head _
      · exact .tail _ (List.mem_append.mpr (.inl (Mu.off_sub a q)))
    · exact .tail _ (List.mem_append.mpr (.inr q))
  have sb' : ∀ a ∈ Mu.at ((x, l, ds) :: μ.off x), a ∈ l :: μ.at := fun a ha => by
    rcases List.mem_cons.mp ha with q | q
    · exact q ▸ .head _
    · exact .tail _ (Mu.off_sub a q)
  have mv : ∀ {v d}, Rd (l :: μ.at) s.heap v d → Rd (Mu.at ((x, l, ds) :: μ.off x)) h' v d := fun r => r.move fun b o e q hx => ⟨sq b o e q, fun z => hx (sb' _ z)⟩
  have mv2 : ∀ {v d}, Rd (l :: μ.at ++ B.X₀) s.heap v d → Rd (Mu.at ((x, l, ds) :: μ.off x) ++ B.X₀) h' v d := fun r => r.move fun b o e q hx => ⟨sq b o e q, fun z => hx (sb _ z)⟩
  have mvA : ∀ {v d}, RdA (l :: (μ.at ++ B.X₀)) s.heap v d → RdA (Mu.at ((x, l, ds) :: μ.off x) ++ B.X₀) h' v d := fun r => r.move fun b o e q hx => ⟨sq b o e q, fun z => hx (sb _ z)⟩
  have kpa : ∀ b o, Kp b o → b ≠ a := fun b o e z => by
    have k := y.kp b o e
    rcases st.slot with q | ⟨w, q⟩
    · exact k.2.1 (z.trans q)
    · exact k.2.2.1 w (z ▸ q)
  refine ⟨y.wf, ⟨y.cn.gr, y.cn.bel, y.cn.above, y.cn.hand, y.cn.room, y.cn.units, fun b o e => ?_, st.ns⟩, ?_, y.h₀kp, fun b o e => ?_, st.cells, fun q hq => mv (hγ q hq), fun z d hz => ?_, fun q hq => ?_, ?_⟩
  · exact (st.but.2 b (kpa b o (y.h₀kp b o e))).trans (y.cn.keep b o e)
  · obtain ⟨h, t, e⟩ := y.same
    exact ⟨h', tk, by rw [e]⟩
  · have k := y.kp b o e
    refine ⟨(st.but.2 b (kpa b o e)).trans k.1, k.2.1, k.2.2.1, fun z => ?_⟩
    rcases List.mem_cons.mp z with z | z
    · have z' : b = l := z
      exact hl0 o (z' ▸ e)
    · exact k.2.2.2 (Mu.off_sub _ z)
  · obtain ⟨u, h3, h4⟩ := hρ z d hz
    exact ⟨u, st.others _ _ (fun q => by rw [q, hρx] at hz; cases hz) h3, h4.move mv mv2⟩
  · rcases List.mem_cons.mp hq with rfl | hq
    · exact ⟨st.here, hlx, vs, n, sq _ _ e (.seq rfl), mvA hr⟩
    · obtain ⟨h1, h2⟩ := Mu.mem_off hq
      obtain ⟨h3, h4, _⟩ := y.muts q h1
      obtain ⟨vs', n', h5, h6⟩ := hμ q h1 h2
      exact ⟨st.others _ _ h2 h3, h4, vs', n', sq _ _ h5 (.seq rfl), mvA h6⟩
  · exact List.nodup_cons.mpr ⟨fun z => hlm (Mu.off_sub _ z), Mu.off_nd y.nd⟩
end Mine
namespace Mine
open PySem PySem.Calls PySem.Spec PyProof.Rows

/-- what a run of statements ends in -/
noncomputable def Out (B : Bd) (Kp : Addr → Obj → Prop) (γ : List (Value × V)) (Post : Fl → Mu → Rho → Prop) (fl : Flow) (s' : Shared) : Prop :=
  ∃ fd μ' ρ', FlIs B.X₀ s'.heap fl fd ∧ Sat B Kp γ μ' ρ' s' ∧ Post fd μ' ρ'

noncomputable def Tri (B : Bd) (μ : Mu) (ρ : Rho) (body : List Stmt) (Post : Fl → Mu → Rho → Prop) : Prop :=
  ∀ Kp γ s E, Sat B Kp γ μ ρ s → wpAny (model B.W.prog B.W.w) B.A (execs body B.env) (Out B Kp γ Post) E s
noncomputable def Tr1 (B : Bd) (μ : Mu) (ρ : Rho) (st : Stmt) (Post : Fl → Mu → Rho → Prop) : Prop :=
  ∀ Kp γ s E, Sat B Kp γ μ ρ s → wpAny (model B.W.prog B.W.w) B.A (exec st B.env) (Out B Kp γ Post) E s

/-- what is asked behind a statement: the rest, or the end -/
noncomputable abbrev SeqP (B : Bd) (rest : List Stmt) (Post : Fl → Mu → Rho → Prop) : Fl → Mu → Rho → Prop := fun f m r => match f with
  | .next => Tri B m r rest Post
  | f => Post f m r
/-- what is asked behind a loop's turn -/
noncomputable abbrev LoopP (Inv : Nat → Mu → Rho → Prop) (Post : Fl → Mu → Rho → Prop) (i : Nat) : Fl → Mu → Rho → Prop := fun f m r => match f with
  | .next => Inv (i + 1) m r
  | .cont => Inv (i + 1) m r
  | .brk => Post .next m r
  | .ret d => Post (.ret d) m r
/-- an expression's value where the names are so known -/
noncomputable def Es (B : Bd) (μ : Mu) (ρ : Rho) (X : List Addr) (e : Expr) (d : V) : Prop := ∀ Kp γ s, Sat B Kp γ μ ρ s → Ev B.W B.A B.env X s.heap e d
noncomputable def Bs (B : Bd) (μ : Mu) (ρ : Rho) (e : Expr) (b : Bool) : Prop := ∀ Kp γ s, Sat B Kp γ μ ρ s → Bt B.W B.A B.env s.heap e b
/-- the value is a list that is new -/
noncomputable def EvF (W : Wd) (A : Around) (env : Env) (X : List Addr) (h : Heap) (e : Expr) (ds : List V) : Prop :=
  ∀ (s : Shared) (Q E : Value → Shared → Prop), Le h s.heap → (∀ a vs n s', Gw s s' → s.heap.get? a = none → s'.heap.get? a = some (lstO vs n) → a ∉ X → RdA X s'.heap vs ds → RdA (a :: X) s'.heap vs ds → Q (.ref a) s') → wpAny (model W.prog W.w) A (eval e env) Q E s
noncomputable def Ef (B : Bd) (μ : Mu) (ρ : Rho) (X : List Addr) (e : Expr) (ds : List V) : Prop := ∀ Kp γ s, Sat B Kp γ μ ρ s → EvF B.W B.A B.env X s.heap e ds
theorem EvF.ev {W A env X h e ds} (x : EvF W A env X h e ds) : Ev W A env X h e (.lst ds) := fun s Q E l f => x s Q E l fun a vs n s' g e1 e2 e3 r _ => f _ s' g (.lst e2 e3 r)
section
variable {B : Bd} {μ : Mu} {ρ : Rho} {Post Post' : Fl → Mu → Rho → Prop}

theorem Tri.mono {body : List Stmt} (x : Tri B μ ρ body Post) (h : ∀ f m r, Post f m r → Post' f m r) : Tri B μ ρ body Post' := fun Kp γ s E y => wpAny_mono (x Kp γ s E y) (fun _ _ ⟨fd, m, r, a, b, c⟩ => ⟨fd, m, r, a, b, h _ _ _ c⟩) fun _ _ e => e
theorem Tr1.mono {st : Stmt} (x : Tr1 B μ ρ st Post) (h : ∀ f m r, Post f m r → Post' f m r) : Tr1 B μ ρ st Post' := fun Kp γ s E y => wpAny_mono (x Kp γ s E y) (fun _ _ ⟨fd, m, r, a, b, c⟩ => ⟨fd, m, r, a, b, h _ _ _ c⟩) fun _ _ e => e

theorem tri_nil (h : Post .next μ ρ) : Tri B μ ρ [] Post := fun Kp γ s E y => wpAny_execs_nil ⟨.next, μ, ρ, trivial, y, h⟩
theorem tri_cons {st : Stmt} {rest : List Stmt} (h : Tr1 B μ ρ st (SeqP B rest Post)) : Tri B μ ρ (st :: rest) Post := fun Kp γ s E y => by
  refine wpAny_execs_cons (wpAny_mono (h Kp γ s E y) (fun fl s' o => ?_) fun _ _ e => e)
  obtain ⟨fd, m, r, a, b, c⟩ := o
  cases fl <;> cases fd <;> first | exact a.elim | exact c Kp γ s' E b | exact ⟨_, m, r, a, b, c⟩

theorem tri_if {test : Expr} {body orelse : List Stmt} {pos : Pos} {b : Bool} (hb : Bs B μ ρ test b) (h : if b then Tri B μ ρ body Post else Tri B μ ρ orelse Post) : Tr1 B μ ρ (.If test body orelse pos) Post := fun Kp γ s E y => by
  refine wpAny_If (hb Kp γ s y s _ _ (Le.refl _) fun s' g => ?_)
  cases b with
  | true => exact h Kp γ s' E (y.gw g)
  | false => exact h Kp γ s' E (y.gw g)

theorem tri_ret {e : Expr} {pos : Pos} {d : V} (he : Es B μ ρ B.X₀ e d) (h : Post (.ret d) μ ρ) : Tr1 B μ ρ (.Return (some e) pos) Post := fun Kp γ s E y =>
  wpAny_Return_some (he Kp γ s y s _ _ (Le.refl _) fun v s' g r => ⟨.ret d, μ, ρ, r, y.gw g, h⟩)

theorem notin {l : List Str} {x : Str} (h : l.contains x = false) : x ∉ l := fun m => by
  rw [List.contains_iff_mem.mpr m] at h; cases h
theorem store_sat {Kp γ s} {x : Str} {v : Value} {Q : Unit → Shared → Prop} {E : Value → Shared → Prop} (y : Sat B Kp γ μ ρ s) (hx : B.env.kindOf x = some .local ∨ (B.env.kindOf x = some .cell ∧ (B.env.cells.lookup x).isSome = true))
    (h : ∀ h' tk a, Stored B.env x v s.heap h' a → Q () { s with heap := h', toks := tk }) : wpAny (model B.W.prog B.W.w) B.A (storeName B.env x v) Q E s :=
  store_any y.wf.ek y.wf.apart y.wf.cl y.cn.ns y.cells hx h

theorem tri_assign {x : Str} {p pos : Pos} {e : Expr} {d : V} (hx : B.env.kindOf x = some .local ∨ (B.env.kindOf x = some .cell ∧ (B.env.cells.lookup x).isSome = true)) (he : Es B μ ρ (μ.at ++ B.X₀) e d)
    (h : Post .next μ ((x, d) :: ρ)) (hn : μ.names.contains x = false := by rfl) (hs : swapsWith e (some (.Name x p)) pos.line B.env = pure false := by rfl) : Tr1 B μ ρ (.Assign [.Name x p] e pos) Post := fun Kp γ s E y =>
  wpAny_Assign_Name (he Kp γ s y s _ _ (Le.refl _) fun v s' g r => store_sat (y.gw g) hx fun h' tk a st => ⟨.next, _, _, trivial, (y.gw g).stored st (.of r) (notin hn), h⟩) hs
/-- a new list that may turn -/
theorem tri_assignN {x : Str} {p pos : Pos} {e : Expr} {ds : List V} (hx : B.env.kindOf x = some .local ∨ (B.env.kindOf x = some .cell ∧ (B.env.cells.lookup x).isSome = true)) (he : Ef B μ ρ (μ.at ++ B.X₀) e ds)
    (h : ∀ l, Post .next ((x, l, ds) :: μ.off x) ρ) (hρx : ρ.lookup x = none := by rfl) (hs : swapsWith e (some (.Name x p)) pos.line B.env = pure false := by rfl) : Tr1 B μ ρ (.Assign [.Name x p] e pos) Post := fun Kp γ s E y =>
  wpAny_Assign_Name (he Kp γ s y s _ _ (Le.refl _) fun l vs n s' g e0 e1 hl r r' => store_sat (y.gw g) hx fun h' tk a st => by
    have old : ∀ {b o}, s.heap.get? b = some o → b ≠ l := fun {b o} e z => by rw [z, e0] at e; cases e
    have mv : ∀ {v d}, Rd μ.at s.heap v d → Rd (l :: μ.at) s'.heap v d := fun r => r.move fun b o e _ hx => ⟨g.le b o e, fun z => (List.mem_cons.mp z).elim (old e) hx⟩
    have mv2 : ∀ {v d}, Rd (μ.at ++ B.X₀) s.heap v d → Rd (l :: μ.at ++ B.X₀) s'.heap v d := fun r => r.move fun b o e _ hx => ⟨g.le b o e, fun z => (List.mem_cons.mp z).elim (old e) hx⟩
    have mvA : ∀ {v d}, RdA (μ.at ++ B.X₀) s.heap v d → RdA (l :: (μ.at ++ B.X₀)) s'.heap v d := fun r => r.move fun b o e _ hx => ⟨g.le b o e, fun z => (List.mem_cons.mp z).elim (old e) hx⟩
    refine ⟨.next, _, _, trivial, (y.gw g).storedM st r e1 ?_ ?_ ?_ ?_ hρx ?_ r' ?_, h l⟩
    · intro o ko
      exact old (y.kp l o ko).1 rfl
    · exact fun z => hl (List.mem_append.mpr (.inr z))
    · exact fun z => hl (List.mem_append.mpr (.inl z))
    · exact fun q hq => mv (y.gam q hq)
    · intro z d hz
      obtain ⟨v, h1, h2⟩ := y.vars z d hz
      exact ⟨v, h1.le g.le, h2.move mv mv2⟩
    · intro q hq hne
      obtain ⟨_, _, vs', n', h5, h6⟩ := y.muts q hq
      exact ⟨vs', n', g.le _ _ h5, mvA h6⟩) hs

theorem tri_assignM {x : Str} {p pos : Pos} {e : Expr} {ds : List V} (hx : B.env.kindOf x = some .local ∨ (B.env.kindOf x = some .cell ∧ (B.env.cells.lookup x).isSome = true)) (he : Ef B μ ρ (μ.at ++ B.X₀) e ds)
    (h : ∀ l, Post .next ((x, l, ds) :: μ) ρ) (hρx : ρ.lookup x = none := by rfl) (hn : μ.names.contains x = false := by rfl) (hs : swapsWith e (some (.Name x p)) pos.line B.env = pure false := by rfl) : Tr1 B μ ρ (.Assign [.Name x p] e pos) Post :=
  tri_assignN hx he (fun l => by rw [Mu.off_none (notin hn)]; exact h l) hρx hs

/-- the rule of a for, whatever it goes over -/
theorem for_walk {Kp γ s} {x : Str} {px : Pos} {body : List Stmt} {I : Addr} {fp : List Addr} {n : Nat} {P : Nat → Value → Prop} {St : Nat → Heap → Prop} {it : Nat → V} (Inv : Nat → Mu → Rho → Prop) {R : Result → Shared → Prop}
    (y : Sat B Kp γ μ ρ s) (Wk : Walks B.W.prog B.W.w B.A I fp [I] n P St) (hst : St 0 s.heap) (hx : B.env.kindOf x = some .local ∨ (B.env.kindOf x = some .cell ∧ (B.env.cells.lookup x).isSome = true))
    (hI : I ≠ B.env.locals) (hIc : ∀ z, (z, I) ∉ B.env.cells) (hIK : ∀ o, ¬ Kp I o) (hIs : ∀ i h, St i h → ∃ o, h.get? I = some o ∧ ¬ IsSq o) (hfp : ∀ b ∈ fp, b = I ∨ ∃ o, Kp b o) (hIm : I ∉ μ.at)
    (hP : ∀ i v μ' ρ' s', i < n → P i v → Sat B Kp γ μ' ρ' s' → Rd μ'.at s'.heap v (it i)) (h0 : Inv 0 μ ρ) (hxm : ∀ i μ' ρ', Inv i μ' ρ' → μ'.names.contains x = false)
    (turn : ∀ i μ' ρ', i < n → Inv i μ' ρ' → Tri B μ' ((x, tag (it i)) :: ρ') body (LoopP Inv Post i))
    (done : ∀ m r, Inv n m r → Post .next m r) (hR : ∀ fl s', Out B Kp γ Post fl s' → R (.ok fl) s') :
    codeAny (model B.W.prog B.W.w) B.A (.forLoop (.Name x px) (.ref I) body [] B.env) R s := by
  refine codeAny_forLoop (fun k s' => ∃ i μ' ρ', i ≤ n ∧ k = n + 1 - i ∧ St i s'.heap ∧ Sat B Kp γ μ' ρ' s' ∧ I ∉ μ'.at ∧ Inv i μ' ρ') ?_ (n + 1) ⟨0, μ, ρ, Nat.zero_le _, rfl, hst, y, hIm, h0⟩
  rintro k s' ⟨i, μ', ρ', hi, rfl, st, y', hm, hinv⟩
  obtain ⟨oI, hoI, hnI⟩ := hIs _ _ st
  have nsq : ∀ o, s'.heap.get? I = some o → ¬ IsSq o := fun o e => by rw [hoI] at e; cases e; exact hnI
  by_cases hlt : i < n
  · refine Wk.item i _ _ _ hlt st fun v h₁ tk₁ hPv st₁ hk₁ => ?_
    have y₁ : Sat B Kp γ μ' ρ' { s' with heap := h₁, toks := tk₁ } := y'.ext (a := I) (fun b o hb e => hk₁ b o (by simpa using hb) e) hI hIc hIK nsq
    have rd := hP i v μ' ρ' _ hlt hPv y₁
    refine wpAny_assign_Name (store_sat y₁ hx fun h₂ tk₂ a sd => ?_)
    have y₂ := y₁.stored (tk := tk₂) sd (.tag rd) (notin (hxm _ _ _ hinv))
    have aI : I ≠ a := by
      rintro rfl
      rcases sd.slot with q | ⟨z, q⟩
      · exact hI q
      · exact hIc z q
    have st₂ : St (i + 1) h₂ := Wk.frame _ _ _ st₁ fun b hb o e => by
      rcases hfp b hb with rfl | ⟨o', ho'⟩
      · exact (sd.but.2 _ aI).trans e
      · have k1 := (y₁.kp b o' ho').1
        have k2 := (y₂.kp b o' ho').1
        have e' : ({ s' with heap := h₁, toks := tk₁ } : Shared).heap.get? b = some o := e
        rw [k1] at e'; cases e'; exact k2
    obtain ⟨oJ, hoJ, hnJ⟩ := hIs _ _ st₂
    have y₃ : Sat B (fun a o => Kp a o ∨ (a = I ∧ o = oJ)) γ μ' ((x, tag (it i)) :: ρ') { s' with heap := h₂, toks := tk₂ } := y₂.more (fun a o e => .inl (y₂.h₀kp a o e)) (by
      rintro a o (e | ⟨rfl, rfl⟩)
      · exact y₂.kp a o e
      · exact ⟨hoJ, hI, hIc, hm⟩)
    refine wpAny_mono (turn i μ' ρ' hlt hinv _ γ _ _ y₃) (fun fl s₃ o => ?_) fun _ _ e => e
    obtain ⟨fd, m, r, fi, y₄, po⟩ := o
    have hIm4 : I ∉ m.at := (y₄.kp I oJ (.inr ⟨rfl, rfl⟩)).2.2.2
    have y₅ : Sat B Kp γ m r s₃ := y₄.less y.h₀kp fun a o e => .inl e
    have st₃ : St (i + 1) s₃.heap := Wk.frame _ _ _ st₂ fun b hb o e => by
      rcases hfp b hb with rfl | ⟨o', ho'⟩
      · rw [hoJ] at e; cases e
        exact (y₄.kp _ _ (.inr ⟨rfl, rfl⟩)).1
      · have k1 := (y₂.kp b o' ho').1
        have e' : ({ s' with heap := h₂, toks := tk₂ } : Shared).heap.get? b = some o := e
        rw [k1] at e'; cases e'; exact (y₄.kp _ _ (.inl ho')).1
    cases fl <;> cases fd <;> first
      | exact fi.elim
      | exact ⟨n + 1 - (i + 1), by lia, i + 1, m, r, hlt, rfl, st₃, y₅, hIm4, po⟩
      | exact hR _ _ ⟨.next, m, r, trivial, y₅, po⟩
      | exact hR _ _ ⟨_, m, r, fi, y₅, po⟩
  · obtain rfl : i = n := by lia
    refine Wk.done _ _ _ st fun h₁ tk₁ hk₁ => wpAny_execs_nil ?_
    exact hR _ _ ⟨.next, μ', ρ', trivial, y'.ext (a := I) (fun b o hb e => hk₁ b o (by simpa using hb) e) hI hIc hIK nsq, done _ _ hinv⟩
end
end Mine
namespace Mine
open PySem PySem.Calls PySem.Spec PyProof.Rows

/-- an expression whose value is known to the sign (a def, a built-in) -/
noncomputable def EvV (W : Wd) (A : Around) (env : Env) (h : Heap) (e : Expr) (v : Value) : Prop :=
  ∀ (s : Shared) (Q E : Value → Shared → Prop), Le h s.heap → (∀ s', Gw s s' → Q v s') → wpAny (model W.prog W.w) A (eval e env) Q E s
section
variable {W : Wd} {k : Nat} {A : Around} {h₀ : Heap} {L : Addr} {env : Env} {X Y : List Addr} {h : Heap}
theorem evv_glob {x : Str} {pos : Pos} {v : Value} (c : Cx W k A h₀ L env X h) (hv : W.mg x = some v) (hx : env.kindOf x = some .globalImplicit := by rfl) (hd : (x == ("__debug__" : Str)) = false := by decide) : EvV W A env h (.Name x pos) v := fun s Q E l f =>
  Name_function_global c.ek hx (loadGlobal_global (by rw [c.eg]; exact c.cn.here.g.keeps l) hv (f s (Gw.refl s))) hd
theorem evv_built {x : Str} {pos : Pos} {v : Value} (c : Cx W k A h₀ L env X h) (hg : W.mg x = none) (hv : W.mb x = some v) (hx : env.kindOf x = some .globalImplicit := by rfl) (hd : (x == ("__debug__" : Str)) = false := by decide) : EvV W A env h (.Name x pos) v := fun s Q E l f =>
  Name_function_global c.ek hx (loadGlobal_builtin (by rw [c.eg]; exact c.cn.here.g.keeps l) hg (by rw [c.eb]; exact c.cn.here.b.keeps l) hv (f s (Gw.refl s))) hd

/-- arguments, displays: each item's value -/
noncomputable def EvA (W : Wd) (A : Around) (env : Env) (X : List Addr) (h : Heap) (pos : Pos) (es : List Expr) (ds : List V) : Prop :=
  ∀ (s : Shared) (Q : List Value → Shared → Prop) (E : Value → Shared → Prop), Le h s.heap → (∀ vs s', Gw s s' → RdA X s'.heap vs ds → Q vs s') → wpAny (model W.prog W.w) A (spliced (backTo pos (starEach es env))) Q E s
theorem eva_nil {pos : Pos} : EvA W A env X h pos [] [] := fun s Q E l f => args_nil (f [] s (Gw.refl s) .nil)
theorem eva_cons {pos : Pos} {e : Expr} {es : List Expr} {d : V} {ds : List V} (he : Ev W A env X h e d) (hr : EvA W A env X h pos es ds) (hs : starEach (e :: es) env = (false, eval e env) :: starEach es env := by rfl) : EvA W A env X h pos (e :: es) (d :: ds) := fun s Q E l f =>
  args_cons (he s _ _ l fun v s₁ g₁ r₁ => hr s₁ _ _ (l.trans g₁.le) fun vs s₂ g₂ r₂ => f _ s₂ (g₁.trans g₂) (.cons (r₁.le g₂.le) r₂)) hs

theorem ev_tup {pos : Pos} {es : List Expr} {ds : List V} {n : Nat} (c : Cx W k A h₀ L env X h) (he : EvA W A env X h pos es ds) (hz : ds.length ≤ sizeLine := by exact Nat.le_of_ble_eq_true rfl) : Ev W A env X h (.Tuple es n pos) (.tup ds) := fun s Q E l f =>
  Tuple_ (he s _ _ l fun vs s₁ g₁ r₁ => wpAny_newObj_type (f _ _ (g₁.trans (Gw.push s₁ _)) (.tup (n := 0) (Heap.get?_push_size _ rfl) (c.fresh (l.trans g₁.le)) (r₁.le (Le.push _)))) (by show vs.toArray.size ≤ sizeLine; rw [List.size_toArray, r₁.length]; exact hz))
theorem evf_list {pos : Pos} {es : List Expr} {ds : List V} (c : Cx W k A h₀ L env X h) (he : EvA W A env X h pos es ds) (hz : ds.length ≤ sizeLine := by exact Nat.le_of_ble_eq_true rfl) : EvF W A env X h (.List es pos) ds := fun s Q E l f =>
  List_ (he s _ _ l fun vs s₁ g₁ r₁ => wpAny_newObj_type (f _ vs 0 _ (g₁.trans (Gw.push s₁ _)) (by
      cases e : s.heap.get? s₁.heap.objs.size with
      | none => rfl
      | some o => exact absurd (Heap.lt_size (g₁.le _ _ e)) (Nat.lt_irrefl _)) (Heap.get?_push_size _ rfl) (c.fresh (l.trans g₁.le)) (r₁.le (Le.push _)) (r₁.move fun a o e _ hx => ⟨Le.push _ _ _ e, fun z => (List.mem_cons.mp z).elim (fun q => absurd (Heap.lt_size e) (q ▸ Nat.lt_irrefl _)) hx⟩)) (by show vs.toArray.size ≤ sizeLine; rw [List.size_toArray, r₁.length]; exact hz))
end

section
variable {B : Bd} {μ : Mu} {ρ : Rho} {Post Post' : Fl → Mu → Rho → Prop}
theorem new_apart {Kp γ s} (y : Sat B Kp γ μ ρ s) {I : Addr} (hI : s.heap.get? I = none) : I ≠ B.env.locals ∧ (∀ z, (z, I) ∉ B.env.cells) ∧ (∀ o, ¬ Kp I o) ∧ I ∉ μ.at := by
  refine ⟨?_, ?_, ?_, ?_⟩
  · rintro rfl
    obtain ⟨m, o, _, _, e, _⟩ := y.cn.ns
    rw [hI] at e; cases e
  · intro z hz
    obtain ⟨v, o, e, _⟩ := y.cells z I hz
    rw [hI] at e; cases e
  · intro o ko
    have := (y.kp I o ko).1
    rw [hI] at this; cases this
  · intro hm
    obtain ⟨q, hq, rfl⟩ := List.mem_map.mp hm
    obtain ⟨_, _, vs, n, e, _⟩ := y.muts q hq
    rw [hI] at e; cases e
theorem size_none (h : Heap) : h.get? h.objs.size = none := by
  cases e : h.get? h.objs.size with
  | none => rfl
  | some o => exact absurd (Heap.lt_size e) (Nat.lt_irrefl _)

theorem tri_forL {x : Str} {px pos : Pos} {iter : Expr} {body : List Stmt} {ds : List V} (Inv : Nat → Mu → Rho → Prop) (hx : B.env.kindOf x = some .local ∨ (B.env.kindOf x = some .cell ∧ (B.env.cells.lookup x).isSome = true))
    (he : Es B μ ρ μ.at iter (.lst ds)) (h0 : Inv 0 μ ρ) (hxm : ∀ i μ' ρ', Inv i μ' ρ' → μ'.names.contains x = false)
    (turn : ∀ i d μ' ρ', ds[i]? = some d → Inv i μ' ρ' → Tri B μ' ((x, tag d) :: ρ') body (LoopP Inv Post i))
    (done : ∀ m r, Inv ds.length m r → Post .next m r) (hs : ∀ x, foldedSetIterable iter B.env x = pure x := by intro _; rfl) : Tr1 B μ ρ (.For (.Name x px) iter body [] pos) Post := fun Kp γ s E y => by
  refine wpAny_For (he Kp γ s y s _ _ (Le.refl _) fun v s₁ g₁ r₁ => ?_) hs
  have y₁ := y.gw g₁
  obtain ⟨a, vs, n, rfl, ea, hax, ra⟩ := r₁.lst_inv
  have hl : s₁.heap.IsList a vs.toArray := ⟨_, ea, rfl, n, rfl⟩
  refine wpAny_pyIter_list hl ?_
  have y₂ : Sat B Kp γ μ ρ { s₁ with heap := s₁.heap.push { cls := .type "list_iterator", data := .fields #[.ref a, .int 0 0] } } := y₁.le (tk := s₁.toks) (Le.push _)
  have hne : a ≠ s₁.heap.objs.size := Nat.ne_of_lt (Heap.lt_size ea)
  have ap := new_apart y₁ (size_none s₁.heap)
  have kpa : a ≠ B.env.locals ∧ (∀ z, (z, a) ∉ B.env.cells) ∧ a ∉ μ.at := by
    refine ⟨?_, ?_, hax⟩
    · rintro rfl
      obtain ⟨m, hm⟩ := y₁.cn.ns
      exact ns_notSq hm _ ea (.seq rfl)
    · intro z hz
      obtain ⟨v, hv⟩ := y₁.cells z a hz
      exact cell_notSq hv _ ea (.seq rfl)
  have y₃ : Sat B (fun b o => Kp b o ∨ (b = a ∧ o = lstO vs n)) ((.ref a, .lst ds) :: γ) μ ρ { s₁ with heap := s₁.heap.push { cls := .type "list_iterator", data := .fields #[.ref a, .int 0 0] } } :=
    (y₂.fly (v := .ref a) (d := .lst ds) (.lst (Heap.get?_push_of_some _ ea) hax (ra.le (Le.push _)))).more (fun b o e => .inl (y₂.h₀kp b o e)) (by
      rintro b o (e | ⟨rfl, rfl⟩)
      · exact y₂.kp b o e
      · exact ⟨Heap.get?_push_of_some _ ea, kpa.1, kpa.2.1, kpa.2.2⟩)
  have hlen : vs.toArray.size = ds.length := by rw [List.size_toArray, ra.length]
  have Wk := Walks.list (prog := B.W.prog) (w := B.W.w) (A := B.A) y.cn.hand s₁.heap.objs.size a hne vs.toArray
  rw [hlen] at Wk
  refine for_walk (it := fun i => ds.getD i .none) Inv y₃ Wk ⟨⟨_, Heap.get?_push_size _ rfl, rfl, rfl⟩, ⟨_, Heap.get?_push_of_some _ ea, rfl, n, rfl⟩⟩ hx ap.1 ap.2.1 ?_ ?_ ?_ ap.2.2.2 ?_ h0 hxm ?_ done ?_
  · rintro o (ko | ⟨z, _⟩)
    · exact ap.2.2.1 o ko
    · exact hne z.symm
  · rintro i h ⟨⟨o, e, hc, hd⟩, _⟩
    refine ⟨o, e, ?_⟩
    rintro (⟨its, n', q⟩ | ⟨_, _, q, _⟩) <;> (rw [hd] at q; cases q)
  · intro b hb
    rcases List.mem_cons.mp hb with rfl | hb
    · exact .inl rfl
    · rw [List.mem_singleton.mp hb]; exact .inr ⟨_, .inr ⟨rfl, rfl⟩⟩
  · intro i v μ' ρ' s' hi hv y'
    have r := y'.gam _ (.head _)
    obtain ⟨_, vs', n', e0, ea', _, ra'⟩ := r.lst_inv
    cases e0
    have k := (y'.kp a _ (.inr ⟨rfl, rfl⟩)).1
    rw [ea'] at k
    have e2 : vs'.toArray = vs.toArray := by injection k with k; injection k with _ _ k; injection k
    have e3 : vs' = vs := by simpa using e2
    subst e3
    obtain ⟨d, hd, rd⟩ := ra'.getV (show vs'[i]? = some v by simpa using hv)
    have : ds.getD i .none = d := by rw [List.getD_eq_getElem?_getD, hd]; rfl
    rw [this]; exact rd
  · intro i μ' ρ' hi hinv
    have : ds[i]? = some (ds.getD i .none) := by rw [List.getD_eq_getElem?_getD, List.getElem?_eq_getElem hi]; rfl
    exact turn i _ μ' ρ' this hinv
  · rintro fl s' ⟨fd, m, r, a1, a2, a3⟩
    exact ⟨fd, m, r, a1, (a2.less y.h₀kp fun b o e => .inl e).land fun q hq => .tail _ hq, a3⟩

theorem evr {e : Expr} {x : Str} {p pos : Pos} {N : Int} {h : Heap} {X : List Addr} {K : Value → Shared → Prop} {E : Value → Shared → Prop} {s : Shared} {W : Wd} {A : Around} {env : Env} (hv : EvV W A env h (.Name x p) (.type "range")) (he : Ev W A env X h e (.int N)) (l : Le h s.heap) (hlo : -(2 ^ 62) ≤ N) (hhi : N < 2 ^ 62)
    (f : ∀ I s', Gw s s' → s.heap.get? I = none → IsRangeIter s'.heap I 0 (N.toNat : Int) 1 → K (.ref I) s') (hse : starEach [e] env = [(false, eval e env)] := by rfl) :
    wpAny (model W.prog W.w) A (eval (.Call (.Name x p) [e] [] pos) env) (fun xv s₁ => wpAny (model W.prog W.w) A (pyIter xv) K E s₁) E s := by
  refine Call_ (hv s _ _ l fun s₁ g₁ => ?_) rfl
  rw [hse]
  refine PySem.callWith_type rfl (Calls.evalArgs_plain (Calls.spliced_cons (he s₁ _ _ (l.trans g₁.le) fun nv s₂ g₂ r₂ => Calls.spliced_nil ?_)))
  obtain ⟨_, rfl⟩ := r₂.int_inv
  refine call_range_1 ?_
  refine wpAny_pyIter_range (IsRange.new ..) (small_one (by decide) (by decide) hlo hhi) ?_
  have hsz : Builtin.Range.rangeSize 0 N 1 = (N.toNat : Int) := by rw [rangeSize_one]; split <;> lia
  rw [hsz]
  refine f _ _ (g₁.trans (g₂.trans ⟨⟨_, _, rfl⟩, (Le.push _).trans (Le.push _)⟩)) ?_ (Heap.get?_push_size _ rfl)
  cases q : s.heap.get? (s₂.heap.push { cls := .type "range", data := .fields #[.int 0 s₂.toks, .int N _, .int 1 (s₂.toks + 1)] }).objs.size with
  | none => rfl
  | some o => exact absurd (Heap.lt_size (Le.push _ _ _ (g₂.le _ _ (g₁.le _ _ q)))) (Nat.lt_irrefl _)

theorem tri_forR {x rg : Str} {px pr pp pos : Pos} {e : Expr} {body : List Stmt} {N : Int} {X : List Addr} (Inv : Nat → Mu → Rho → Prop) (hx : B.env.kindOf x = some .local ∨ (B.env.kindOf x = some .cell ∧ (B.env.cells.lookup x).isSome = true))
    (hr : ∀ Kp γ s, Sat B Kp γ μ ρ s → EvV B.W B.A B.env s.heap (.Name rg pr) (.type "range")) (he : Es B μ ρ X e (.int N)) (hlo : -(2 ^ 62) ≤ N) (hhi : N < 2 ^ 62) (h0 : Inv 0 μ ρ) (hxm : ∀ i μ' ρ', Inv i μ' ρ' → μ'.names.contains x = false)
    (turn : ∀ i μ' ρ', i < N.toNat → Inv i μ' ρ' → Tri B μ' ((x, .int (i : Nat)) :: ρ') body (LoopP Inv Post i))
    (done : ∀ m r, Inv N.toNat m r → Post .next m r) (hse : starEach [e] B.env = [(false, eval e B.env)] := by rfl) (hs : ∀ x, foldedSetIterable (.Call (.Name rg pr) [e] [] pp) B.env x = pure x := by intro _; rfl) :
    Tr1 B μ ρ (.For (.Name x px) (.Call (.Name rg pr) [e] [] pp) body [] pos) Post := fun Kp γ s E y => by
  refine wpAny_For (evr (hr Kp γ s y) (he Kp γ s y) (Le.refl _) hlo hhi (fun I s₁ g₁ hn hI => ?_) hse) hs
  have y₁ := y.gw g₁
  have ap := new_apart y hn
  refine for_walk (it := fun i => .int (i : Nat)) Inv y₁ (Walks.range y.cn.hand I 0 1 N.toNat) (by simpa using hI) hx ap.1 ap.2.1 ap.2.2.1 ?_ ?_ ap.2.2.2 ?_ h0 hxm turn done (fun _ _ o => o)
  · intro i h st
    refine ⟨_, st, ?_⟩
    rintro (⟨its, n', q⟩ | ⟨_, _, q, _⟩) <;> cases q
  · intro b hb
    exact .inl (List.mem_singleton.mp hb)
  · rintro i v μ' ρ' s' hi ⟨t, rfl⟩ y'
    have : (0 + (i : Int) * 1) = (i : Int) := by lia
    rw [this]; exact .int _ _
end
end Mine
namespace Mine
open PySem PySem.Calls PySem.Spec PyProof.Rows

theorem bindL_off {kf : Str → Option NameKind} {x : Str} : ∀ (bs : List (Str × Value)) (m : Str → Option Value), x ∉ bs.map (·.1) → bindL kf bs m x = m x
  | [], m, _ => rfl
  | (n, v) :: r, m, h => by
    have hn : x ≠ n := fun e => h (e ▸ .head _)
    unfold bindL
    rw [bindL_off r _ fun q => h (.tail _ q)]
    split
    · simp [hn]
    · rfl
theorem bindC_off {kf : Str → Option NameKind} {x : Str} : ∀ (bs : List (Str × Value)) (m : Str → Option Value), x ∉ bs.map (·.1) → bindC kf bs m x = m x
  | [], m, _ => rfl
  | (n, v) :: r, m, h => by
    have hn : x ≠ n := fun e => h (e ▸ .head _)
    unfold bindC
    rw [bindC_off r _ fun q => h (.tail _ q)]
    split
    · rfl
    · simp [hn]
theorem bindL_mem {kf : Str → Option NameKind} {x : Str} {v : Value} (hk : kf x = some .local) : ∀ (bs : List (Str × Value)) (m : Str → Option Value), (bs.map (·.1)).Nodup → (x, v) ∈ bs → bindL kf bs m x = some v
  | (n, u) :: r, m, hd, hm => by
    obtain ⟨h1, h2⟩ := List.nodup_cons.mp hd
    unfold bindL
    rcases List.mem_cons.mp hm with e | hm
    · cases e
      rw [bindL_off r _ h1, if_pos hk]; simp
    · exact bindL_mem hk r _ h2 hm
theorem bindC_mem {kf : Str → Option NameKind} {x : Str} {v : Value} (hk : kf x ≠ some .local) : ∀ (bs : List (Str × Value)) (m : Str → Option Value), (bs.map (·.1)).Nodup → (x, v) ∈ bs → bindC kf bs m x = some v
  | (n, u) :: r, m, hd, hm => by
    obtain ⟨h1, h2⟩ := List.nodup_cons.mp hd
    unfold bindC
    rcases List.mem_cons.mp hm with e | hm
    · cases e
      rw [bindC_off r _ h1, if_neg hk]; simp
    · exact bindC_mem hk r _ h2 hm

theorem RdA.zip {X : List Addr} {h : Heap} {vs : List Value} {ds : List V} {ps : List Str} (r : RdA X h vs ds) : ∀ q ∈ ps.zip ds, ∃ v, (q.1, v) ∈ ps.zip vs ∧ Rd X h v q.2 := by
  induction ds generalizing vs ps with
  | nil => intro q hq; rw [List.zip_nil_right] at hq; cases hq
  | cons d ds ih =>
    obtain ⟨w, ws, rfl, a, r⟩ := r.cons_inv
    intro q hq
    cases ps with
    | nil => cases hq
    | cons p ps =>
      rw [List.zip_cons_cons] at hq
      rcases List.mem_cons.mp hq with rfl | hq
      · exact ⟨_, .head _, a⟩
      · obtain ⟨v, h1, h2⟩ := ih r q hq
        exact ⟨v, .tail _ h1, h2⟩

/-- what a call of a def gives -/
noncomputable def FnC (W : Wd) (k : Nat) (f : Addr) (args : List V) (d : V) : Prop :=
  ∀ (A : Around) (h₀ : Heap) (L : Addr) (X : List Addr) (s : Shared) (vs : List Value) (Q E : Value → Shared → Prop), Cn W k A h₀ L s.heap → (∀ a ∈ X, ∃ o, s.heap.get? a = some o) → RdA [] s.heap vs args →
    (∀ v s', Gw s s' → Rd X s'.heap v d → Q v s') → wpAny (model W.prog W.w) A (call (.ref f) vs) Q E s
/-- the same, the result read as it stands -/
noncomputable def FnO (W : Wd) (k : Nat) (f : Addr) (args : List V) (d : V) : Prop :=
  ∀ (A : Around) (h₀ : Heap) (L : Addr) (s : Shared) (vs : List Value) (Q E : Value → Shared → Prop), Cn W k A h₀ L s.heap → RdA [] s.heap vs args →
    (∀ v s', Gw s s' → Rd [] s'.heap v d → Q v s') → wpAny (model W.prog W.w) A (call (.ref f) vs) Q E s

/-- the env in which a def's body runs -/
structure EnvIs (fd : FuncData) (f : Addr) (env : Env) : Prop where
  is : ∃ L, env = callEnvC fd L f

theorem frames_ns {h₀ h : Heap} {fenv : Env} {outer : List Env} {L : Addr} {m : Str → Option Value} (hfL : fenv.frame = some L) (hm : h.Ns L m) (hnf : ∀ b ∈ outer.filterMap (·.frame), ∃ m, h₀.Ns b m) (k : Le h₀ h) : ∀ b ∈ (fenv :: outer).filterMap (·.frame), ∃ m, h.Ns b m := fun b hb => by
  rw [List.filterMap_cons, hfL] at hb
  rcases List.mem_cons.mp hb with rfl | hb
  · exact ⟨m, hm⟩
  · obtain ⟨m', q⟩ := hnf b hb
    exact ⟨m', q.keeps k⟩
/-- a def's call, entered -/
theorem call_core {W : Wd} {k : Nat} {f : Addr} {fd : FuncData} {body : List Stmt} {ps : List Str} {args : List V} {A : Around} {base : Heap} {outer : List Env} {s : Shared} {X : List Addr} {vs : List Value} {R : Result → Shared → Prop} {o : Obj}
    (gr : Gr W s.heap) (hB1 : Below A base outer s.heap) (hrt : Le W.root base) (hnf : ∀ b ∈ outer.filterMap (·.frame), ∃ m, s.heap.Ns b m) (hhd : A.handled = none) (hrm : A.depth + (k + 1) < recursionLimit) (hun : A.units + 8 * (k + 1) + 100 < cLine)
    (ho : s.heap.get? f = some o) (hdat : o.data = .func fd) (hcd : s.heap.CodeRec fd.code fd.qualname) (hX : ∀ a ∈ X, ∃ o, s.heap.get? a = some o) (ra : RdA [] s.heap vs args)
    (hbody : fd.body = .stmts body) (hclo : fd.closure = []) (hgl : fd.globals = mainGlobals) (hbl : fd.builtins = builtinsNs)
    (hbind : ∀ vs, vs.length = ps.length → bindArgs fd ⟨vs, []⟩ = pure (ps.zip vs)) (hps : ps.Nodup) (hlen : args.length = ps.length)
    (hkind : ∀ n, ∀ x ∈ ps, fd.scope.names.lookup x = some .local ∨ (fd.scope.names.lookup x = some .cell ∧ ((cellsFrom n fd.scope.names []).lookup x).isSome = true))
    (hnd : ((cellsFrom 0 fd.scope.names []).map (·.1)).Nodup) (hco : fd.scope.isCoroutine = false) (hgen : fd.scope.isGenerator = false) (hk : fd.scope.kind = .function)
    (h : ∀ (B : Bd) s₁, B.W = W → B.k = k → EnvIs fd f B.env → B.A = A.deeper B.env → B.h₀ = s.heap → B.X₀ = X → B.s₀ = s → Sat B (fun a o => s.heap.get? a = some o) [] [] (ps.zip (args.map tag)) s₁ →
      wpAny (model W.prog W.w) B.A (execs body B.env) (fun f s' => R (.ok (.ret (match f with | .ret v => v | _ => .none))) s')
        (fun e s' => wpAny (model W.prog W.w) B.A (leaving B.env e) (fun _ s'' => R (.error e) s'') (fun e' s'' => R (.error e') s'') s') s₁) :
    codeAny (model W.prog W.w) A (.call (.ref f) ⟨vs, []⟩) R s := by
  have hvl : vs.length = ps.length := by rw [ra.length, hlen]
  have hzn : (ps.zip vs).map (·.1) = ps := List.map_fst_zip (by lia)
  have hzm : ∀ x ∈ ps.zip vs, x.1 ∈ ps := fun x hx => hzn ▸ List.mem_map.mpr ⟨x, hx, rfl⟩
  refine codeAny_call_cells (by lia) ho hdat gr.lim hcd hbody (hbind vs hvl) hclo (fun x hx => hkind _ _ (hzm x hx)) (fun s₁ x => ?_) hco hgen hk
  generalize henv : callEnvC fd s.heap.objs.size f = env at x ⊢
  have hfe : env.frame = some env.locals := by rw [← henv]; rfl
  have hloc : env.locals = s.heap.objs.size := by rw [← henv]; rfl
  have hcells : env.cells = cellsFrom (s.heap.objs.size + 1) fd.scope.names [] := by rw [← henv]; rfl
  have hsc : env.scope = fd.scope := by rw [← henv]; rfl
  have memc : ∀ y c, (y, c) ∈ env.cells → env.cells.lookup y = some c := fun y c hy => by
    rw [hcells] at hy ⊢
    exact lookup_of_mem_nodup (cellsFrom_names fd.scope.names 0 (s.heap.objs.size + 1) [] [] rfl ▸ hnd) hy
  have hkeep := x.toInCall.keep
  obtain ⟨h₁, t₁, hs₁⟩ := x.toInCall.same
  let B : Bd := { W := W, k := k, A := A.deeper env, h₀ := s.heap, env := env, X₀ := X, s₀ := s }
  have sat : Sat B (fun a o => s.heap.get? a = some o) [] [] (ps.zip (args.map tag)) s₁ := by
    refine ⟨⟨?_, ?_, ?_, x.apart, fun y c hy => Nat.ne_of_gt (x.above y c hy), hX⟩, ⟨gr, ⟨A, base, outer, env, hB1, ?_, hfe, ?_, hrt, hnf⟩, ?_, hhd, ?_, ?_, hkeep, ⟨_, x.toInCall.ns⟩⟩, ⟨h₁, t₁, hs₁⟩, fun a o e => e, ?_, ?_, ?_, ?_, ?_, List.nodup_nil⟩
    · show env.scope.kind = _; rw [hsc]; exact hk
    · show env.globals = _; rw [← henv]; exact hgl
    · show env.builtins = _; rw [← henv]; exact hbl
    · exact Around.frames_deeper hB1.stack
    · show env.scope.kind = _; rw [hsc]; exact hk
    · show s.heap.objs.size ≤ env.locals; rw [hloc]; exact Nat.le_refl _
    · show (A.deeper env).depth + k < _; rw [show (A.deeper env).depth = A.depth + 1 from rfl]; lia
    · show (A.deeper env).units + 8 * k + 100 < _; rw [show (A.deeper env).units = A.units + 3 from rfl]; lia
    · intro a o e
      refine ⟨hkeep a o e, ?_, ?_, ?_⟩
      · show a ≠ env.locals; rw [hloc]; exact Nat.ne_of_lt (Heap.lt_size e)
      · intro z hz
        have h1 := x.above z a hz
        rw [hloc] at h1
        exact absurd (Heap.lt_size e) (Nat.not_lt.mpr (Nat.le_of_lt h1))
      · exact fun z => (nomatch z)
    · intro y c hy
      exact ⟨_, x.cell y c (memc y c hy)⟩
    · exact fun q hq => (nomatch hq)
    · intro z e hz
      have hq0 : (z, e) ∈ ps.zip (args.map tag) := mem_of_lookup hz
      rw [List.zip_map_right] at hq0
      obtain ⟨q, hq, hqq'⟩ := List.mem_map.mp hq0
      have hqz : q.1 = z := congrArg Prod.fst hqq'
      have hqe : tag q.2 = e := congrArg Prod.snd hqq'
      obtain ⟨v, h1, h2⟩ := ra.zip q hq
      have hqp : q.1 ∈ ps := (List.of_mem_zip hq).1
      have hko : ∀ z, env.kindOf z = fd.scope.names.lookup z := fun z => by unfold Env.kindOf; rw [hsc]
      have hnz : ((ps.zip vs).map (·.1)).Nodup := by rw [hzn]; exact hps
      rw [← hqz, ← hqe]
      refine ⟨v, ?_, .tag (h2.le hkeep)⟩
      rcases hkind (s.heap.objs.size + 1) q.1 hqp with hl | ⟨hl, hc⟩
      · refine .inl ⟨by rw [hko]; exact hl, _, x.toInCall.ns, bindL_mem (by rw [hko]; exact hl) _ _ hnz h1⟩
      · obtain ⟨c, hc⟩ := Option.isSome_iff_exists.mp hc
        have hlc : env.cells.lookup q.1 = some c := by rw [hcells]; exact hc
        have hne : env.kindOf q.1 ≠ some .local := by rw [hko, hl]; decide
        refine .inr ⟨.inl (by rw [hko]; exact hl), c, hlc, ?_⟩
        have := x.cell q.1 c hlc
        rw [bindC_mem hne _ _ hnz h1] at this
        exact this
    · exact fun q hq => (nomatch hq)
  exact h B s₁ rfl rfl ⟨_, henv.symm⟩ rfl rfl rfl rfl sat

theorem fnc_of {W : Wd} {k : Nat} {f : Addr} {fd : FuncData} {body : List Stmt} {ps : List Str} {args : List V} {d : V} (hd : W.defs f fd) (hbody : fd.body = .stmts body) (hclo : fd.closure = []) (hgl : fd.globals = mainGlobals) (hbl : fd.builtins = builtinsNs)
    (hbind : ∀ vs, vs.length = ps.length → bindArgs fd ⟨vs, []⟩ = pure (ps.zip vs)) (hps : ps.Nodup) (hlen : args.length = ps.length)
    (hkind : ∀ n, ∀ x ∈ ps, fd.scope.names.lookup x = some .local ∨ (fd.scope.names.lookup x = some .cell ∧ ((cellsFrom n fd.scope.names []).lookup x).isSome = true))
    (hnd : ((cellsFrom 0 fd.scope.names []).map (·.1)).Nodup) (hco : fd.scope.isCoroutine = false) (hgen : fd.scope.isGenerator = false) (hk : fd.scope.kind = .function)
    (h : ∀ B : Bd, B.W = W → B.k = k → EnvIs fd f B.env → Tri B [] (ps.zip (args.map tag)) body fun fl _ _ => fl = .ret d ∨ (fl = .next ∧ d = .none)) : FnC W (k + 1) f args d := by
  intro A h₀ L X s vs Q E cn hX ra hQ
  have gr := cn.here
  obtain ⟨o, ho, hdat, hcd⟩ := gr.defs f fd hd
  obtain ⟨A₀, base, outer, fenv, bl, hfr, hfL, hfk, hrt, hnf⟩ := cn.bel
  obtain ⟨m, hm⟩ := cn.ns
  have F : Fr h₀ L s.heap m := ⟨hm, cn.keep, cn.above⟩
  have hB1 : Below A base (fenv :: outer) s.heap := by
    have hnew : base.get? L = none := by
      cases hq : base.get? L with
      | none => rfl
      | some o => exact absurd (Nat.lt_of_lt_of_le (Heap.lt_size (bl.stays L o hq)) F.above) (Nat.lt_irrefl _)
    exact ⟨hfr, fun b o e => F.keep b o (bl.stays b o e), .cons (by rw [hfk]; decide) hfL F.ns hnew (bl.frames.of_keeps fun b o e _ => ⟨o, F.keep b o e, rfl⟩)⟩
  refine wpAny_call (call_core gr hB1 hrt (frames_ns hfL hm hnf cn.keep) cn.hand cn.room cn.units ho hdat hcd hX ra hbody hclo hgl hbl hbind hps hlen hkind hnd hco hgen hk ?_)
  rintro B s₁ rfl rfl he hA hh₀ rfl hs₀ sat
  refine wpAny_mono (h B rfl rfl he _ _ s₁ _ sat) (fun fl s' ou => ?_) fun _ _ e => e
  obtain ⟨fd', μ', ρ', fi, y, po⟩ := ou
  have gw : Gw s s' := ⟨hs₀ ▸ y.same, fun a o e => (y.kp a o e).1⟩
  rcases po with rfl | ⟨rfl, rfl⟩
  · cases fl <;> first | exact fi.elim | exact hQ _ s' gw fi
  · cases fl <;> first | exact fi.elim | exact hQ _ s' gw .none

section
variable {W : Wd} {k : Nat} {A : Around} {h₀ : Heap} {L : Addr} {env : Env} {X Y : List Addr} {h : Heap}
/-- a call of a def -/
theorem ev_call {fn : Expr} {es : List Expr} {e : Expr} {pos : Pos} {f : Addr} {fd : FuncData} {ds : List V} {d : V} (c : Cx W k A h₀ L env X h) (hf : EvV W A env h fn (.ref f)) (ha : EvA W A env [] h pos (e :: es) ds) (hd : W.defs f fd) (hc : FnC W k f ds d)
    (hs : starEach (e :: es) env = (false, eval e env) :: starEach es env := by rfl)
    (he : eval (.Call fn (e :: es) [] pos) env = (do callWith pos (← eval fn env) [] (backTo pos (starEach (e :: es) env)) (backToKw pos (keywordEach [] env))) := by rfl) : Ev W A env X h (.Call fn (e :: es) [] pos) d := fun s Q E l g => by
  obtain ⟨o, ho, hdat, hcd⟩ := c.cn.here.defs f fd hd
  refine Call_ (hf s _ _ l fun s₁ g₁ => callWith_def hdat (ha s₁ _ _ (l.trans g₁.le) fun vs s₂ g₂ r₂ => ?_) hs) he
  have l₂ : Le h s₂.heap := l.trans (g₁.le.trans g₂.le)
  exact ⟨l₂ _ _ ho, hc A h₀ L X s₂ vs Q E (c.cn.le l₂) (c.le l₂).xs r₂ fun v s' g₃ r => g v s' (g₁.trans (g₂.trans g₃)) r⟩
end
end Mine
namespace Mine
open PySem PySem.Calls PySem.Spec PyProof.Rows

section
variable {W : Wd} {k : Nat} {A : Around} {h₀ : Heap} {L : Addr} {env : Env} {X Y : List Addr} {h : Heap}

theorem ev_sub {l r : Expr} {pos : Pos} {a b : Int} (ha : Ev W A env [] h l (.int a)) (hb : Ev W A env [] h r (.int b)) : Ev W A env X h (.BinOp l .Sub r pos) (.int (a - b)) :=
  ev_bin ha hb fun s u v Q E _ ru rv f => by obtain ⟨_, rfl⟩ := ru.int_inv; obtain ⟨_, rfl⟩ := rv.int_inv; exact PySem.P.sub_int (f _ _ (Gw.toks s _) (.int _ _))
theorem ev_mulL {l r : Expr} {pos : Pos} {a b : Int} (ha : Ev W A env [] h l (.int a)) (hb : Ev W A env [] h r (.int b)) (h1 : -(2 ^ 64) < a := by decide) (h2 : a < 2 ^ 64 := by decide) : Ev W A env X h (.BinOp l .Mult r pos) (.int (a * b)) :=
  ev_bin ha hb fun s u v Q E _ ru rv f => by obtain ⟨_, rfl⟩ := ru.int_inv; obtain ⟨_, rfl⟩ := rv.int_inv; exact PySem.P.mul_int (f _ _ (Gw.toks s _) (.int _ _)) (IntMulOk.of_left (intBits_le_64 h1 h2))
theorem ev_mod {l r : Expr} {pos : Pos} {a b : Int} (ha : Ev W A env [] h l (.int a)) (hb : Ev W A env [] h r (.int b)) (h0 : 0 < b := by decide) : Ev W A env X h (.BinOp l .Mod r pos) (.int (a % b)) :=
  ev_bin ha hb fun s u v Q E _ ru rv f => by obtain ⟨_, rfl⟩ := ru.int_inv; obtain ⟨_, rfl⟩ := rv.int_inv; exact PyProof.Rows.mod_int' (by lia) (f _ _ (Gw.toks s _) (by rw [Int.fmod_eq_emod_of_nonneg a (by lia)]; exact .int _ _))
theorem ev_div {l r : Expr} {pos : Pos} {a b : Int} (ha : Ev W A env [] h l (.int a)) (hb : Ev W A env [] h r (.int b)) (h0 : 0 < b := by decide) (h1 : b.natAbs < 1073741824 := by decide) : Ev W A env X h (.BinOp l .FloorDiv r pos) (.int (a / b)) :=
  ev_bin ha hb fun s u v Q E _ ru rv f => by obtain ⟨_, rfl⟩ := ru.int_inv; obtain ⟨_, rfl⟩ := rv.int_inv; exact PyProof.Rows.floordiv_int (by lia) (f _ _ (Gw.toks s _) (by rw [Int.fdiv_eq_ediv_of_nonneg a (by lia)]; exact .int _ _)) (.inl (PyProof.noPylong_small h1))
theorem ev_neg {e : Expr} {pos : Pos} {a : Int} (ha : Ev W A env [] h e (.int a)) : Ev W A env X h (.UnaryOp .USub e pos) (.int (-a)) := fun s Q E l f =>
  UnaryOp_ (ha s _ _ l fun v s₁ g₁ r₁ => by obtain ⟨_, rfl⟩ := r₁.int_inv; exact PySem.P.neg_int (f _ _ (g₁.trans (Gw.toks s₁ _)) (.int _ _)))
theorem ev_eqI {l r : Expr} {pos : Pos} {a b : Int} (ha : Ev W A env [] h l (.int a)) (hb : Ev W A env [] h r (.int b)) (hm : behindInMarks .Eq r = false := by with_unfolding_all rfl) : Ev W A env X h (.Compare l [.Eq] [r] pos) (.bool (decide (a = b))) :=
  ev_cmp ha hb (fun s u v Q E _ ru rv f => by obtain ⟨_, rfl⟩ := ru.int_inv; obtain ⟨_, rfl⟩ := rv.int_inv; exact PySem.P.eq_int (f _ _ (Gw.refl s) (by rw [show (a == b) = decide (a = b) from by by_cases h : a = b <;> simp [h]]; exact .bool _))) hm
theorem ev_ltI {l r : Expr} {pos : Pos} {a b : Int} (ha : Ev W A env [] h l (.int a)) (hb : Ev W A env [] h r (.int b)) (hm : behindInMarks .Lt r = false := by with_unfolding_all rfl) : Ev W A env X h (.Compare l [.Lt] [r] pos) (.bool (decide (a < b))) :=
  ev_cmp ha hb (fun s u v Q E _ ru rv f => by obtain ⟨_, rfl⟩ := ru.int_inv; obtain ⟨_, rfl⟩ := rv.int_inv; exact PySem.P.lt_int (f _ _ (Gw.refl s) (.bool _))) hm
/-- a comparison as a test -/
theorem bt_cmp {l r : Expr} {op : CmpOp} {pos : Pos} {a b : V} {c : Bool} (ha : Ev W A env Y h l a) (hb : Ev W A env Y h r b)
    (ho : ∀ (s : Shared) (u v : Value) (Q E : Value → Shared → Prop), Le h s.heap → Rd Y s.heap u a → Rd Y s.heap v b → (∀ s', Gw s s' → Q (.bool c) s') → wpAny (model W.prog W.w) A (compareOp op u v) Q E s)
    (hm : behindInMarks op r = false := by with_unfolding_all rfl) : Bt W A env h (.Compare l [op] [r] pos) c := fun s Q E le f =>
  wpAny_isTrue_Compare1 (ha s _ _ le fun u s₁ k₁ r₁ => hb s₁ _ _ (le.trans k₁.le) fun v s₂ k₂ r₂ => ho s₂ u v _ _ (le.trans (k₁.le.trans k₂.le)) (r₁.le k₂.le) r₂ fun s₃ k₃ => wpAny_truthy_bool (f s₃ (k₁.trans (k₂.trans k₃)))) hm
theorem bt_eqI {l r : Expr} {pos : Pos} {a b : Int} (ha : Ev W A env [] h l (.int a)) (hb : Ev W A env [] h r (.int b)) (hm : behindInMarks .Eq r = false := by with_unfolding_all rfl) : Bt W A env h (.Compare l [.Eq] [r] pos) (decide (a = b)) :=
  bt_cmp ha hb (fun s u v Q E _ ru rv f => by obtain ⟨_, rfl⟩ := ru.int_inv; obtain ⟨_, rfl⟩ := rv.int_inv; exact PySem.P.eq_int (by rw [show (a == b) = decide (a = b) from by by_cases h : a = b <;> simp [h]]; exact f _ (Gw.refl s))) hm
theorem bt_neI {l r : Expr} {pos : Pos} {a b : Int} (ha : Ev W A env [] h l (.int a)) (hb : Ev W A env [] h r (.int b)) (hm : behindInMarks .NotEq r = false := by with_unfolding_all rfl) : Bt W A env h (.Compare l [.NotEq] [r] pos) (decide (a ≠ b)) :=
  bt_cmp ha hb (fun s u v Q E _ ru rv f => by obtain ⟨_, rfl⟩ := ru.int_inv; obtain ⟨_, rfl⟩ := rv.int_inv; exact PySem.P.ne_int (by rw [show (a != b) = decide (a ≠ b) from by by_cases h : a = b <;> simp [h]]; exact f _ (Gw.refl s))) hm
theorem bt_ltI {l r : Expr} {pos : Pos} {a b : Int} (ha : Ev W A env [] h l (.int a)) (hb : Ev W A env [] h r (.int b)) (hm : behindInMarks .Lt r = false := by with_unfolding_all rfl) : Bt W A env h (.Compare l [.Lt] [r] pos) (decide (a < b)) :=
  bt_cmp ha hb (fun s u v Q E _ ru rv f => by obtain ⟨_, rfl⟩ := ru.int_inv; obtain ⟨_, rfl⟩ := rv.int_inv; exact PySem.P.lt_int (f _ (Gw.refl s))) hm
theorem bt_leI {l r : Expr} {pos : Pos} {a b : Int} (ha : Ev W A env [] h l (.int a)) (hb : Ev W A env [] h r (.int b)) (hm : behindInMarks .LtE r = false := by with_unfolding_all rfl) : Bt W A env h (.Compare l [.LtE] [r] pos) (decide (a ≤ b)) :=
  bt_cmp ha hb (fun s u v Q E _ ru rv f => by obtain ⟨_, rfl⟩ := ru.int_inv; obtain ⟨_, rfl⟩ := rv.int_inv; exact PySem.P.le_int (f _ (Gw.refl s))) hm
theorem bt_gtI {l r : Expr} {pos : Pos} {a b : Int} (ha : Ev W A env [] h l (.int a)) (hb : Ev W A env [] h r (.int b)) (hm : behindInMarks .Gt r = false := by with_unfolding_all rfl) : Bt W A env h (.Compare l [.Gt] [r] pos) (decide (b < a)) :=
  bt_cmp ha hb (fun s u v Q E _ ru rv f => by obtain ⟨_, rfl⟩ := ru.int_inv; obtain ⟨_, rfl⟩ := rv.int_inv; exact PySem.P.gt_int (f _ (Gw.refl s))) hm
theorem bt_geI {l r : Expr} {pos : Pos} {a b : Int} (ha : Ev W A env [] h l (.int a)) (hb : Ev W A env [] h r (.int b)) (hm : behindInMarks .GtE r = false := by with_unfolding_all rfl) : Bt W A env h (.Compare l [.GtE] [r] pos) (decide (b ≤ a)) :=
  bt_cmp ha hb (fun s u v Q E _ ru rv f => by obtain ⟨_, rfl⟩ := ru.int_inv; obtain ⟨_, rfl⟩ := rv.int_inv; exact PySem.P.ge_int (f _ (Gw.refl s))) hm

theorem bt_not {e : Expr} {pos : Pos} {b : Bool} (he : Bt W A env h e b) : Bt W A env h (.UnaryOp .Not e pos) (!b) := fun s Q E l f => isTrue_not (he s _ _ l fun s' g => f s' g)
theorem bt_and_nil {pos : Pos} : Bt W A env h (.BoolOp .And [] pos) true := fun s Q E l f => isTrue_and_nil (f s (Gw.refl s))
theorem bt_and {e : Expr} {es : List Expr} {pos : Pos} {b c : Bool} (he : Bt W A env h e b) (hr : b = true → Bt W A env h (.BoolOp .And es pos) c) : Bt W A env h (.BoolOp .And (e :: es) pos) (b && c) := fun s Q E l f =>
  isTrue_and (he s _ _ l fun s' g => by
    cases b with
    | true =>
      simp only [if_true]
      have q := hr rfl s' Q E (l.trans g.le) fun s'' g' => f s'' (g.trans g')
      exact q
    | false => exact f s' g)
theorem bt_val {e : Expr} {b : Bool} (he : Ev W A env [] h e (.bool b)) (hp : ∀ whole, isTrue e env whole = (do let v ← whole; standAt e.pos; holding [v] (truthy v)) := by intro _; rfl) : Bt W A env h e b := fun s Q E l f =>
  isTrue_plain (he s _ _ l fun v s' g r => by obtain rfl := r.bool_inv; exact wpAny_truthy_bool (f s' g)) (hp _)

theorem ev_if {t e f : Expr} {pos : Pos} {b : Bool} {d : V} (ht : Bt W A env h t b) (he : if b then Ev W A env X h e d else Ev W A env X h f d) : Ev W A env X h (.IfExp t e f pos) d := fun s Q E l g =>
  IfExp_ (ht s _ _ l fun s₁ g₁ => by
    cases b with
    | true => exact he s₁ _ _ (l.trans g₁.le) fun v s' g₂ r => g v s' (g₁.trans g₂) r
    | false => exact he s₁ _ _ (l.trans g₁.le) fun v s' g₂ r => g v s' (g₁.trans g₂) r)

/-- a built-in function of one argument -/
theorem ev_b1 {fn e : Expr} {pos : Pos} {id : String} {a d : V} (hf : EvV W A env h fn (.builtin id)) (ha : Ev W A env Y h e a)
    (ho : ∀ (s : Shared) (u : Value) (Q E : Value → Shared → Prop), Le h s.heap → Rd Y s.heap u a → (∀ v s', Gw s s' → Rd X s'.heap v d → Q v s') → wpAny (model W.prog W.w) A (call (.builtin id) [u]) Q E s)
    (hs : starEach [e] env = [(false, eval e env)] := by rfl)
    (he : eval (.Call fn [e] [] pos) env = (do callWith pos (← eval fn env) [] (backTo pos (starEach [e] env)) (backToKw pos (keywordEach [] env))) := by rfl) : Ev W A env X h (.Call fn [e] [] pos) d := fun s Q E l g =>
  Call_ (hf s _ _ l fun s₁ g₁ => callWith_builtin1 (args_cons (ha s₁ _ _ (l.trans g₁.le) fun v s₂ g₂ r₂ => args_nil (ho s₂ v _ _ (l.trans (g₁.le.trans g₂.le)) r₂ fun v' s₃ g₃ r₃ => g v' s₃ (g₁.trans (g₂.trans g₃)) r₃)) hs) hs rfl) he
theorem ev_t1 {fn e : Expr} {pos : Pos} {T : String} {a d : V} (hf : EvV W A env h fn (.type T)) (ha : Ev W A env Y h e a)
    (ho : ∀ (s : Shared) (u : Value) (Q E : Value → Shared → Prop), Le h s.heap → Rd Y s.heap u a → (∀ v s', Gw s s' → Rd X s'.heap v d → Q v s') → wpAny (model W.prog W.w) A (call (.type T) [u]) Q E s)
    (hs : starEach [e] env = [(false, eval e env)] := by rfl)
    (he : eval (.Call fn [e] [] pos) env = (do callWith pos (← eval fn env) [] (backTo pos (starEach [e] env)) (backToKw pos (keywordEach [] env))) := by rfl) : Ev W A env X h (.Call fn [e] [] pos) d := fun s Q E l g =>
  Call_ (hf s _ _ l fun s₁ g₁ => by
    rw [hs]
    refine PySem.callWith_type rfl (Calls.evalArgs_plain (Calls.spliced_cons (ha s₁ _ _ (l.trans g₁.le) fun v s₂ g₂ r₂ => Calls.spliced_nil ?_)))
    exact ho s₂ v _ _ (l.trans (g₁.le.trans g₂.le)) r₂ fun v' s₃ g₃ r₃ => g v' s₃ (g₁.trans (g₂.trans g₃)) r₃) he

theorem ev_len {fn e : Expr} {pos : Pos} {ds : List V} (hf : EvV W A env h fn (.builtin "len")) (ha : Ev W A env [] h e (.lst ds)) (hz : ds.length < 2 ^ 62) (hs : starEach [e] env = [(false, eval e env)] := by rfl)
    (he : eval (.Call fn [e] [] pos) env = (do callWith pos (← eval fn env) [] (backTo pos (starEach [e] env)) (backToKw pos (keywordEach [] env))) := by rfl) : Ev W A env X h (.Call fn [e] [] pos) (.int ds.length) :=
  ev_b1 hf ha (fun s u Q E l r f => by
    obtain ⟨a, vs, n, rfl, ea, _, ra⟩ := r.lst_inv
    have e2 : vs.toArray.size = ds.length := by rw [List.size_toArray, ra.length]
    exact PyProof.Rows.len_list ⟨_, ea, rfl, n, rfl⟩ (by rw [e2]; lia) (f _ _ (Gw.toks s _) (by rw [e2]; exact .int _ _))) hs he
theorem ev_abs {fn e : Expr} {pos : Pos} {a : Int} (hf : EvV W A env h fn (.builtin "abs")) (ha : Ev W A env [] h e (.int a)) (hs : starEach [e] env = [(false, eval e env)] := by rfl)
    (he : eval (.Call fn [e] [] pos) env = (do callWith pos (← eval fn env) [] (backTo pos (starEach [e] env)) (backToKw pos (keywordEach [] env))) := by rfl) : Ev W A env X h (.Call fn [e] [] pos) (.int (a.natAbs : Int)) :=
  ev_b1 hf ha (fun s u Q E l r f => by
    obtain ⟨_, rfl⟩ := r.int_inv
    refine call_abs_int fun u tk => f _ _ (Gw.toks s _) ?_
    have : (if a < 0 then -a else a) = (a.natAbs : Int) := by split <;> lia
    rw [this]; exact .int _ _) hs he

theorem le_fresh {h h' : Heap} {g : Heap} (l : Le h h') : h.get? h'.objs.size = none := by
  cases e : h.get? h'.objs.size with
  | none => rfl
  | some o => exact absurd (Heap.lt_size (l _ _ e)) (Nat.lt_irrefl _)
theorem RdA.past {X : List Addr} {h : Heap} {vs : List Value} {ds : List V} (r : RdA X h vs ds) (o : Obj) : RdA (h.objs.size :: X) (h.push o) vs ds :=
  r.move fun a o' e _ hx => ⟨Le.push _ _ _ e, fun z => (List.mem_cons.mp z).elim (fun q => absurd (Heap.lt_size e) (q ▸ Nat.lt_irrefl _)) hx⟩

/-- two lists joined: a new one -/
theorem evf_add {l r : Expr} {pos : Pos} {a b : List V} (c : Cx W k A h₀ L env X h) (ha : Ev W A env Y h l (.lst a)) (hb : Ev W A env Y h r (.lst b)) (hz : a.length + b.length ≤ sizeLine) (hY : ∀ (s' : Heap) vs ds, RdA Y s' vs ds → (ds = a ∨ ds = b) → RdA X s' vs ds) : EvF W A env X h (.BinOp l .Add r pos) (a ++ b) := fun s Q E le f =>
  wpAny_BinOp (ha s _ _ le fun u s₁ g₁ r₁ => hb s₁ _ _ (le.trans g₁.le) fun v s₂ g₂ r₂ => by
    have r₁' := r₁.le g₂.le
    obtain ⟨x, vs, n, rfl, ex, _, rx⟩ := r₁'.lst_inv
    obtain ⟨y, ws, m, rfl, ey, _, ry⟩ := r₂.lst_inv
    refine PySem.P.add_list ex ey ?_ (by rw [List.size_toArray, List.size_toArray, rx.length, ry.length]; exact hz)
    have l2 : Le h s₂.heap := le.trans (g₁.le.trans g₂.le)
    have rr : RdA X s₂.heap (vs ++ ws) (a ++ b) := (hY _ _ _ rx (.inl rfl)).append (hY _ _ _ ry (.inr rfl))
    have e : vs.toArray ++ ws.toArray = (vs ++ ws).toArray := by simp
    rw [e]
    exact f _ (vs ++ ws) 0 _ (g₁.trans (g₂.trans (Gw.push s₂ _))) (le_fresh (g := h) (g₁.le.trans g₂.le)) (Heap.get?_push_size _ rfl) (c.fresh l2) (rr.le (Le.push _)) (rr.past _))
theorem evf_addX {l r : Expr} {pos : Pos} {a b : List V} (c : Cx W k A h₀ L env X h) (ha : Ev W A env X h l (.lst a)) (hb : Ev W A env X h r (.lst b)) (hz : a.length + b.length ≤ sizeLine) : EvF W A env X h (.BinOp l .Add r pos) (a ++ b) := evf_add c ha hb hz fun _ _ _ r _ => r
theorem evf_addF {l r : Expr} {pos : Pos} {a b : List V} (c : Cx W k A h₀ L env X h) (ha : Ev W A env [] h l (.lst a)) (hb : Ev W A env [] h r (.lst b)) (hz : a.length + b.length ≤ sizeLine) (fa : ∀ x ∈ a, x.flat = true) (fb : ∀ x ∈ b, x.flat = true) : EvF W A env X h (.BinOp l .Add r pos) (a ++ b) := evf_add c ha hb hz fun _ _ _ r q => r.flat (q.elim (fun e => e ▸ fa) fun e => e ▸ fb)

/-- an item of a list -/
theorem ev_item {v i : Expr} {pos : Pos} {ds : List V} {j : Int} {d : V} (hv : Ev W A env X h v (.lst ds)) (hi : Ev W A env [] h i (.int j)) (h0 : 0 ≤ j) (hd : ds[j.toNat]? = some d) (hj : j < 2 ^ 63)
    (hs : ∀ l u, subscripted i false (.ref l) (.int j u) = operate [.ref l, .int j u] (getItem (.ref l) (.int j u)) := by intro _ _; with_unfolding_all rfl) : Ev W A env X h (.Subscript v i pos) d := fun s Q E l f =>
  Subscript_ (hv s _ _ l fun o s₁ g₁ r₁ => hi s₁ _ _ (l.trans g₁.le) fun w s₂ g₂ r₂ => by
    obtain ⟨_, rfl⟩ := r₂.int_inv
    have r := r₁.le g₂.le
    obtain ⟨a, vs, n, rfl, ea, _, ra⟩ := r.lst_inv
    obtain ⟨x, hx, rx⟩ := ra.get hd
    have hl : s₂.heap.IsList a vs.toArray := ⟨_, ea, rfl, n, rfl⟩
    exact tail_any hl.typeIs slot_list_getitem.lookup (wpAny_getItem_list hl h0 hj (by simpa using hx) (f _ _ (g₁.trans g₂) rx)) (hs _ _))
end
end Mine
namespace Mine
open PySem PySem.Calls PySem.Spec PyProof.Rows

section
variable {B : Bd} {μ μ₁ μ₂ : Mu} {ρ : Rho} {Post Post' : Fl → Mu → Rho → Prop}

theorem mu_at {x : Str} {a : Addr} {ds ds' : List V} : Mu.at (μ₁ ++ (x, a, ds) :: μ₂) = Mu.at (μ₁ ++ (x, a, ds') :: μ₂) := by simp [Mu.at]

/-- a list of the function's own turns -/
theorem Sat.mutate {Kp γ s} {x : Str} {a : Addr} {ds ds' : List V} {h' : Heap} {tk : Nat} {vs' : List Value} {n' : Nat} (y : Sat B Kp γ (μ₁ ++ (x, a, ds) :: μ₂) ρ s) (hs : Heap.SameBut a s.heap h') (e : h'.get? a = some (lstO vs' n'))
    (r : RdA (Mu.at (μ₁ ++ (x, a, ds) :: μ₂) ++ B.X₀) s.heap vs' ds') : Sat B Kp γ (μ₁ ++ (x, a, ds') :: μ₂) ρ { s with heap := h', toks := tk } := by
  have hat := mu_at (μ₁ := μ₁) (μ₂ := μ₂) (x := x) (a := a) (ds := ds) (ds' := ds')
  have am : a ∈ Mu.at (μ₁ ++ (x, a, ds) :: μ₂) := by simp [Mu.at]
  obtain ⟨hva, hax, vs, n, ea, ra⟩ := y.muts (x, a, ds) (by simp)
  have sqa : IsSq (lstO vs n) := .seq rfl
  have mv : ∀ {v d}, Rd (Mu.at (μ₁ ++ (x, a, ds) :: μ₂)) s.heap v d → Rd (Mu.at (μ₁ ++ (x, a, ds') :: μ₂)) h' v d := fun r => r.move fun b o e q hx => ⟨(hs.2 b fun z => hx (by rw [z]; exact am)).trans e, by rw [← hat]; exact hx⟩
  have mv2 : ∀ {v d}, Rd (Mu.at (μ₁ ++ (x, a, ds) :: μ₂) ++ B.X₀) s.heap v d → Rd (Mu.at (μ₁ ++ (x, a, ds') :: μ₂) ++ B.X₀) h' v d := fun r => r.move fun b o e q hx => ⟨(hs.2 b fun z => hx (by rw [z]; exact List.mem_append.mpr (.inl am))).trans e, by rw [← hat]; exact hx⟩
  have mvA : ∀ {v d}, RdA (Mu.at (μ₁ ++ (x, a, ds) :: μ₂) ++ B.X₀) s.heap v d → RdA (Mu.at (μ₁ ++ (x, a, ds') :: μ₂) ++ B.X₀) h' v d := fun r => r.move fun b o e q hx => ⟨(hs.2 b fun z => hx (by rw [z]; exact List.mem_append.mpr (.inl am))).trans e, by rw [← hat]; exact hx⟩
  have aL : B.env.locals ≠ a := by
    intro z
    obtain ⟨m, hm⟩ := y.cn.ns
    exact ns_notSq hm _ (z ▸ ea) sqa
  have aC : ∀ z c, (z, c) ∈ B.env.cells → c ≠ a := by
    intro z c hz q
    obtain ⟨v, hv⟩ := y.cells z c hz
    exact cell_notSq hv _ (q ▸ ea) sqa
  have vr : ∀ {z v}, Var B.env s.heap z v → Var B.env h' z v := by
    rintro z v (⟨p, m, q, r⟩ | ⟨p, c, q, r⟩)
    · exact .inl ⟨p, m, q.sameBut hs aL, r⟩
    · exact .inr ⟨p, c, q, r.sameBut hs (aC z c (mem_of_lookup q))⟩
  refine ⟨y.wf, ⟨y.cn.gr, y.cn.bel, y.cn.above, y.cn.hand, y.cn.room, y.cn.units, fun b o e => ?_, ?_⟩, ?_, y.h₀kp, fun b o e => ?_, fun z c hz => ?_, fun q hq => mv (y.gam q hq), fun z d hz => ?_, fun q hq => ?_, hat ▸ y.nd⟩
  · exact (hs.2 b fun z => (y.kp b o (y.h₀kp b o e)).2.2.2 (z ▸ am)).trans (y.cn.keep b o e)
  · obtain ⟨m, hm⟩ := y.cn.ns
    exact ⟨m, hm.sameBut hs aL⟩
  · obtain ⟨h, t, e⟩ := y.same
    exact ⟨h', tk, by rw [e]⟩
  · have k := y.kp b o e
    exact ⟨(hs.2 b fun z => k.2.2.2 (z ▸ am)).trans k.1, k.2.1, k.2.2.1, by rw [← hat]; exact k.2.2.2⟩
  · obtain ⟨v, hv⟩ := y.cells z c hz
    exact ⟨v, hv.sameBut hs (aC z c hz)⟩
  · obtain ⟨v, h1, h2⟩ := y.vars z d hz
    exact ⟨v, vr h1, h2.move mv mv2⟩
  · have other : ∀ q ∈ μ₁ ++ (x, a, ds) :: μ₂, q.2.1 ≠ a → Var B.env h' q.1 (.ref q.2.1) ∧ q.2.1 ∉ B.X₀ ∧ ∃ vs n, h'.get? q.2.1 = some (lstO vs n) ∧ RdA (Mu.at (μ₁ ++ (x, a, ds') :: μ₂) ++ B.X₀) h' vs q.2.2 := by
      intro q hq hne
      obtain ⟨h1, h2, vs₂, n₂, h3, h4⟩ := y.muts q hq
      exact ⟨vr h1, h2, vs₂, n₂, (hs.2 _ hne).trans h3, mvA h4⟩
    have nd := y.nd
    unfold Mu.at at nd
    rw [List.map_append, List.map_cons] at nd
    have nd1 := List.nodup_append.mp nd
    have nd2 := List.nodup_cons.mp nd1.2.1
    rcases List.mem_append.mp hq with h1 | h1
    · exact other q (List.mem_append.mpr (.inl h1)) fun z => nd1.2.2 _ (List.mem_map.mpr ⟨q, h1, rfl⟩) a (.head _) z
    · rcases List.mem_cons.mp h1 with rfl | h1
      · exact ⟨vr hva, hax, vs', n', e, mvA r⟩
      · exact other q (List.mem_append.mpr (.inr (.tail _ h1))) fun z => nd2.1 (List.mem_map.mpr ⟨q, h1, z⟩)

/-- a list's append -/
theorem tri_append {x : Str} {a : Addr} {ds : List V} {e : Expr} {d : V} {px apos cpos pos : Pos} (hμ : μ = μ₁ ++ (x, a, ds) :: μ₂) (he : Es B μ ρ (μ.at ++ B.X₀) e d) (hz : ds.length ≤ sizeLine) (h : Post .next (μ₁ ++ (x, a, ds ++ [d]) :: μ₂) ρ)
    (hline : (apos.endLine == cpos.line) = true := by rfl) (hse : starEach [e] B.env = [(false, eval e B.env)] := by rfl) (hi : interactive B.env = false := by rfl) (hd : (x == ("__debug__" : Str)) = false := by decide)
    (hbase : attributeBase (.Name x px) "append" B.env (eval (.Name x px) B.env) = eval (.Name x px) B.env := by rfl) (hsw : swapsWith (.Call (.Attribute (.Name x px) "append" apos) [e] [] cpos) none pos.line B.env = pure false := by rfl) :
    Tr1 B μ ρ (.Expr (.Call (.Attribute (.Name x px) "append" apos) [e] [] cpos) pos) Post := fun Kp γ s E y => by
  subst hμ
  obtain ⟨hva, hax, vs, n, ea, ra⟩ := y.muts (x, a, ds) (by simp)
  refine wpAny_Expr (wpAny_Call_append hbase (by rw [show backTo cpos (starEach [e] B.env) = [(false, eval e B.env)] from by rw [hse]; rfl]; rfl) hline (by rw [hse]; rfl) ?_) hi hsw
  have ev : Ev B.W B.A B.env [] s.heap (.Name x px) (.lst ds) := ev_var (y.cx.sub (Y := []) fun _ h => (nomatch h)) hva (.lst ea (fun h => (nomatch h)) (ra.sub fun _ h => (nomatch h))) hd
  have go : wpAny (model B.W.prog B.W.w) B.A (loadName B.env x) (fun ov s₁ => ov = .ref a ∧ s₁ = s) E s := by
    rcases hva with ⟨p, m, q, r⟩ | ⟨p | ⟨p, p'⟩, c, q, r⟩
    · exact wpAny_loadName_local y.wf.ek p q r ⟨rfl, rfl⟩
    · exact wpAny_loadName_cell y.wf.ek p q r ⟨rfl, rfl⟩
    · exact wpAny_loadName_free y.wf.ek p q r ⟨rfl, rfl⟩ p'
  refine wpAny_Name (wpAny_mono go (fun ov s₁ q => ?_) fun _ _ e => e) hd
  obtain ⟨rfl, rfl⟩ := q
  refine ⟨a, vs.toArray, rfl, ⟨_, n, ea, rfl, rfl, rfl⟩, he Kp γ s₁ y s₁ _ _ (Le.refl _) fun v s₂ g₂ r₂ => ?_⟩
  refine append_at (g₂.le _ _ ea) (fun h' hs' e' => ?_) (by rw [List.size_toArray, ra.length]; exact hz)
  have e2 : h'.get? a = some (lstO (vs ++ [v]) (n + 1)) := by rw [e', List.push_toArray]
  exact ⟨.next, _, _, trivial, (y.gw g₂).mutate (tk := s₂.toks) hs' e2 ((ra.le g₂.le).append (.cons r₂ .nil)), h⟩
end
end Mine
namespace Mine
open PySem PySem.Calls PySem.Spec PyProof.Rows

mutual
noncomputable def V.py : V → PyData
  | .none => .none
  | .bool b => .bool b
  | .int i => .int i
  | .str x => .str x
  | .typ _ => .none
  | .tup ds => .tuple (V.pys ds)
  | .lst ds => .list (V.pys ds)
  | .old _ => .none
  | .any => .none
  | .two .. => .none
  | .dct _ => .none
noncomputable def V.pys : List V → List PyData
  | [] => []
  | d :: ds => V.py d :: V.pys ds
end
noncomputable def V.okS (f : List V → Bool) : V → Bool
  | .none => true
  | .bool _ => true
  | .int _ => true
  | .str x => PyData.strOk x
  | .tup ds => f ds
  | .lst ds => f ds
  | _ => false
noncomputable def V.ok : Nat → V → Bool
  | 0 => V.okS fun _ => false
  | n + 1 => V.okS fun ds => ds.all (V.ok n)

theorem rd_reads1 {X : List Addr} {h : Heap} {f : List V → Bool} (ih : ∀ {vs : List Value} {ds : List V}, RdA X h vs ds → f ds = true → ∃ as, ReadsAll h vs (V.pys ds) as) {v : Value} {d : V} (r : Rd X h v d) (hk : d.okS f = true) : ∃ as, Reads h v d.py as := by
  cases d with
  | none => obtain rfl := r.none_inv; exact ⟨_, Reads.none⟩
  | bool b => obtain rfl := r.bool_inv; exact ⟨_, Reads.bool b⟩
  | int i => obtain ⟨t, rfl⟩ := r.int_inv; exact ⟨_, Reads.int i t⟩
  | str x => obtain ⟨t, rfl⟩ := r.str_inv; exact ⟨_, Reads.str x t⟩
  | tup ds =>
    obtain ⟨a, vs, n, rfl, e, _, ra⟩ := r.tup_inv
    obtain ⟨as, q⟩ := ih ra hk
    exact ⟨_, reads_tuple_at e rfl rfl q⟩
  | lst ds =>
    obtain ⟨a, vs, n, rfl, e, _, ra⟩ := r.lst_inv
    obtain ⟨as, q⟩ := ih ra hk
    exact ⟨_, reads_list_at e rfl rfl q⟩
  | _ => exact absurd (show false = true from hk) Bool.false_ne_true
theorem rd_reads {X : List Addr} {h : Heap} (n : Nat) : ∀ {v : Value} {d : V}, Rd X h v d → d.ok n = true → ∃ as, Reads h v d.py as := by
  induction n with
  | zero => exact rd_reads1 fun _ hk => absurd hk Bool.false_ne_true
  | succ n ih =>
    refine rd_reads1 fun {vs ds} r hk => ?_
    induction ds generalizing vs with
    | nil => obtain rfl := r.nil_inv; exact ⟨_, ReadsAll.nil⟩
    | cons d ds hi =>
      obtain ⟨w, ws, rfl, a, r⟩ := r.cons_inv
      rw [List.all_cons, Bool.and_eq_true] at hk
      obtain ⟨as, q⟩ := ih a hk.1
      obtain ⟨bs, p⟩ := hi r hk.2
      exact ⟨_, ReadsAll.cons q p⟩
theorem v_lay1 {f : List V → Bool} {n : Nat} (ih : ∀ ds, f ds = true → PyData.canLayAll0 (V.pys ds) = true ∧ PyData.depthAll (V.pys ds) + 1 ≤ n ∧ PyData.eqvAll (V.pys ds) (V.pys ds) = true) {d : V} (h : d.okS f = true) : d.py.canLay0 = true ∧ d.py.depth ≤ n ∧ PyData.eqv d.py d.py = true := by
  cases d with
  | none => exact ⟨rfl, Nat.zero_le _, rfl⟩
  | bool b => exact ⟨rfl, Nat.zero_le _, beq_self_eq_true b⟩
  | int i => exact ⟨rfl, Nat.zero_le _, beq_self_eq_true i⟩
  | str x => exact ⟨h, Nat.zero_le _, beq_self_eq_true x⟩
  | tup ds => exact let ⟨a, b, c⟩ := ih ds h; ⟨a, by rw [V.py, PyData.depth]; lia, c⟩
  | lst ds => exact let ⟨a, b, c⟩ := ih ds h; ⟨a, by rw [V.py, PyData.depth]; lia, c⟩
  | _ => exact absurd (show false = true from h) Bool.false_ne_true
theorem v_lay (n : Nat) : ∀ (d : V), d.ok n = true → d.py.canLay0 = true ∧ d.py.depth ≤ n ∧ PyData.eqv d.py d.py = true := by
  induction n with
  | zero => exact fun d => v_lay1 fun _ hk => absurd hk Bool.false_ne_true
  | succ n ih =>
    refine fun d => v_lay1 fun ds hk => ?_
    induction ds with
    | nil => exact ⟨rfl, Nat.succ_le_succ (Nat.zero_le _), rfl⟩
    | cons d ds hi =>
      rw [List.all_cons, Bool.and_eq_true] at hk
      have h1 := ih d hk.1
      have h2 := hi hk.2
      have a1 := h1.2.1
      have a2 := h2.2.1
      refine ⟨?_, ?_, ?_⟩
      · show (PyData.canLay0 (V.py d) && PyData.canLayAll0 (V.pys ds)) = true
        rw [h1.1, h2.1]; rfl
      · show max (PyData.depth (V.py d)) (PyData.depthAll (V.pys ds)) + 1 ≤ n + 1
        exact Nat.succ_le_succ (Nat.max_le.mpr ⟨a1, Nat.le_of_succ_le_succ a2⟩)
      · show (PyData.eqv (V.py d) (V.py d) && PyData.eqvAll (V.pys ds) (V.pys ds)) = true
        rw [h1.2.2, h2.2.2]; rfl

theorem v_shaped {n : Nat} {d : V} (h : d.ok n = true) (hn : n ≤ 64) : SeqAt.shaped d.py = true := by
  obtain ⟨a, b, _⟩ := v_lay n d h
  unfold SeqAt.shaped
  rw [a, Bool.true_and]
  exact decide_eq_true (by lia)

section
variable {W : Wd} {k : Nat} {A : Around} {h₀ : Heap} {L : Addr} {env : Env} {X Y Z : List Addr} {h : Heap}
/-- == of two things that read alike -/
theorem ev_eqV {l r : Expr} {pos : Pos} {d : V} (c : Cx W k A h₀ L env X h) (ha : Ev W A env [] h l d) (hb : Ev W A env [] h r d) (n : Nat) (ho : d.ok n = true) (hn : n ≤ 64) (hm : behindInMarks .Eq r = false := by with_unfolding_all rfl) : Ev W A env X h (.Compare l [.Eq] [r] pos) (.bool true) :=
  ev_cmp ha hb (fun s u v Q E le ru rv f => by
    obtain ⟨as, ra⟩ := rd_reads n ru ho
    obtain ⟨bs, rb⟩ := rd_reads n rv ho
    refine eq_dataH ra rb (v_shaped ho hn) (v_shaped ho hn) (by have := c.cn.units; lia) (f _ _ (Gw.refl s) ?_)
    rw [(v_lay n d ho).2.2]; exact .bool _) hm
noncomputable def V.tyName : V → String
  | .none => "NoneType"
  | .bool _ => "bool"
  | .int _ => "int"
  | .str _ => "str"
  | .typ _ => "type"
  | .tup _ => "tuple"
  | .lst _ => "list"
  | _ => ""
noncomputable def V.isNone : V → Bool
  | .none => true
  | _ => false
theorem Rd.ne_none {X : List Addr} {h : Heap} {v : Value} {d : V} (r : Rd X h v d) (hd : d.isNone = false) (hda : d ≠ .any) : plainIs v .none = true ∧ v ≠ .none := by
  cases r <;> first | (exact absurd rfl hda) | (cases hd; done) | exact ⟨rfl, fun z => by cases z⟩
theorem bt_isNotN {l r : Expr} {pos : Pos} {d : V} (ha : Ev W A env [] h l d) (hb : Ev W A env [] h r .none) (hda : (match d with | .any => false | _ => true) = true := by rfl) (hm : behindInMarks .IsNot r = false := by with_unfolding_all rfl) : Bt W A env h (.Compare l [.IsNot] [r] pos) (!d.isNone) :=
  bt_cmp ha hb (fun s u v Q E le ru rv f => by
    obtain rfl := rv.none_inv
    cases hn : d.isNone with
    | true =>
      have e : d = .none := by cases d <;> first | rfl | (cases hn; done)
      subst e
      obtain rfl := ru.none_inv
      exact wpAny_isNot_self rfl (by rw [hn] at f; exact f _ (Gw.refl s))
    | false =>
      have q := ru.ne_none hn (by rintro rfl; cases hda)
      exact wpAny_isNot_other q.1 q.2 (by rw [hn] at f; exact f _ (Gw.refl s))) hm
theorem bt_isN {l r : Expr} {pos : Pos} {d : V} (ha : Ev W A env [] h l d) (hb : Ev W A env [] h r .none) (hda : (match d with | .any => false | _ => true) = true := by rfl) (hm : behindInMarks .Is r = false := by with_unfolding_all rfl) : Bt W A env h (.Compare l [.Is] [r] pos) d.isNone :=
  bt_cmp ha hb (fun s u v Q E le ru rv f => by
    obtain rfl := rv.none_inv
    cases hn : d.isNone with
    | true =>
      have e : d = .none := by cases d <;> first | rfl | (cases hn; done)
      subst e
      obtain rfl := ru.none_inv
      exact wpAny_is_self rfl (by rw [hn] at f; exact f _ (Gw.refl s))
    | false =>
      have q := ru.ne_none hn (by rintro rfl; cases hda)
      exact wpAny_is_other q.1 q.2 (by rw [hn] at f; exact f _ (Gw.refl s))) hm

/-- an item of a tuple -/
theorem ev_itemT {v i : Expr} {pos : Pos} {ds : List V} {j : Int} {d : V} (hv : Ev W A env X h v (.tup ds)) (hi : Ev W A env [] h i (.int j)) (h0 : 0 ≤ j) (hd : ds[j.toNat]? = some d) (hj : j < 2 ^ 63)
    (hs : ∀ l u, subscripted i false (.ref l) (.int j u) = operate [.ref l, .int j u] (getItem (.ref l) (.int j u)) := by intro _ _; with_unfolding_all rfl) : Ev W A env X h (.Subscript v i pos) d := fun s Q E l f =>
  Subscript_ (hv s _ _ l fun o s₁ g₁ r₁ => hi s₁ _ _ (l.trans g₁.le) fun w s₂ g₂ r₂ => by
    obtain ⟨_, rfl⟩ := r₂.int_inv
    have r := r₁.le g₂.le
    obtain ⟨a, vs, n, rfl, ea, _, ra⟩ := r.tup_inv
    obtain ⟨x, hx, rx⟩ := ra.get hd
    have hl : j.toNat < vs.length := (List.getElem?_eq_some_iff.mp hx).1
    refine tail_any (T := "tuple") ⟨_, ea, rfl⟩ slot_tuple_getitem.lookup (PySem.P.getItem_tuple ea (by lia) hj (k := j.toNat) (seqIndex_of h0 (by rw [List.size_toArray]; lia)) (by simpa using hx) (f _ _ (g₁.trans g₂) rx)) (hs _ _))
end
end Mine
namespace Mine
open PySem PySem.Calls PySem.Spec PyProof.Rows

/-- an expression whose items can be gone over: n of them, item i reads as it i -/
noncomputable def Src (W : Wd) (A : Around) (env : Env) (Y : List Addr) (h : Heap) (iter : Expr) (n : Nat) (it : Nat → V) : Prop :=
  ∀ (s : Shared) (Q E : Value → Shared → Prop), Le h s.heap →
    (∀ (I : Addr) (fp : List Addr) (P : Nat → Value → Prop) (St : Nat → Heap → Prop) (s' : Shared), Gw s s' → s.heap.get? I = none → Walks W.prog W.w A I fp [I] n P St → St 0 s'.heap → (∀ b ∈ fp, b < s'.heap.objs.size) → (∀ i h, St i h → ∃ o, h.get? I = some o ∧ ¬ IsSq o) →
      (∀ i v h', i < n → P i v → (∀ b o, b ≠ I → s'.heap.get? b = some o → h'.get? b = some o) → Rd Y h' v (it i)) → Q (.ref I) s') →
    wpAny (model W.prog W.w) A (eval iter env) (fun xv s₁ => wpAny (model W.prog W.w) A (pyIter xv) Q E s₁) E s

section
variable {W : Wd} {k : Nat} {A : Around} {h₀ : Heap} {L : Addr} {env : Env} {X Y : List Addr} {h : Heap}
theorem src_list {iter : Expr} {ds : List V} (hh : A.handled = none) (he : Ev W A env Y h iter (.lst ds)) : Src W A env Y h iter ds.length (fun i => ds.getD i .none) := fun s Q E l f =>
  he s _ _ l fun v s₁ g₁ r₁ => by
    obtain ⟨a, vs, n, rfl, ea, hax, ra⟩ := r₁.lst_inv
    have hl : s₁.heap.IsList a vs.toArray := ⟨_, ea, rfl, n, rfl⟩
    refine wpAny_pyIter_list hl ?_
    have hne : a ≠ s₁.heap.objs.size := Nat.ne_of_lt (Heap.lt_size ea)
    have hlen : vs.toArray.size = ds.length := by rw [List.size_toArray, ra.length]
    have Wk := Walks.list (prog := W.prog) (w := W.w) (A := A) hh s₁.heap.objs.size a hne vs.toArray
    rw [hlen] at Wk
    refine f _ _ _ _ _ (g₁.trans (Gw.push s₁ _)) (le_fresh (g := h) g₁.le) Wk ⟨⟨_, Heap.get?_push_size _ rfl, rfl, rfl⟩, ⟨_, Heap.get?_push_of_some _ ea, rfl, n, rfl⟩⟩ ?_ ?_ ?_
    · intro b hb
      show b < (s₁.heap.push _).objs.size
      rw [Heap.size_push]
      rcases List.mem_cons.mp hb with rfl | hb
      · exact Nat.lt_succ_self _
      · rw [List.mem_singleton.mp hb]; exact Nat.lt_succ_of_lt (Heap.lt_size ea)
    · rintro i h ⟨⟨o, e, hc, hd⟩, _⟩
      refine ⟨o, e, ?_⟩
      rintro (⟨its, n', q⟩ | ⟨_, _, q, _⟩) <;> (rw [hd] at q; cases q)
    · intro i v h' hi hv hk
      obtain ⟨d, hd, rd⟩ := ra.getV (show vs[i]? = some v by simpa using hv)
      have : ds.getD i .none = d := by rw [List.getD_eq_getElem?_getD, hd]; rfl
      show Rd Y h' v (ds.getD i .none)
      rw [this]
      exact rd.move fun b o e _ hx => ⟨hk b o (Nat.ne_of_lt (Heap.lt_size e)) (Heap.get?_push_of_some _ e), hx⟩
theorem src_range {e : Expr} {x : Str} {p pos : Pos} {N : Int} (hh : A.handled = none) (hv : EvV W A env h (.Name x p) (.type "range")) (he : Ev W A env X h e (.int N)) (hlo : -(2 ^ 62) ≤ N) (hhi : N < 2 ^ 62) (hse : starEach [e] env = [(false, eval e env)] := by rfl) :
    Src W A env Y h (.Call (.Name x p) [e] [] pos) N.toNat (fun i => .int (i : Nat)) := fun s Q E l f =>
  evr hv he l hlo hhi (fun I s' g hn hI => by
    refine f I [I] _ _ s' g hn (Walks.range hh I 0 1 N.toNat) (by simpa using hI) ?_ ?_ ?_
    · intro b hb
      rw [List.mem_singleton.mp hb]; exact Heap.lt_size hI
    · intro i h st
      refine ⟨_, st, ?_⟩
      rintro (⟨its, n', q⟩ | ⟨_, _, q, _⟩) <;> cases q
    · rintro i v h' hi ⟨t, rfl⟩ _
      have : (0 + (i : Int) * 1) = (i : Int) := by lia
      rw [this]; exact .int _ _) hse

/-- a name that a comprehension draws from around it -/
theorem var_free {scope : Scope} {cl : List (Str × Addr)} {C : Addr} {y : Str} {u : Value} {h : Heap} (hv : Var env h y u) (hk : (compEnvC scope cl C env).kindOf y = some .cell) (hc : env.kindOf y = some .cell) (hl : cl.lookup y = env.cells.lookup y) : Var (compEnvC scope cl C env) h y u := by
  rcases hv with ⟨a, _⟩ | ⟨_, c, b, d⟩
  · rw [hc] at a; cases a
  · exact .inr ⟨.inl hk, c, by show cl.lookup y = some c; rw [hl]; exact b, d⟩

noncomputable def picked (n : Nat) (b : Nat → Bool) (g : Nat → V) : List V := ((List.range n).filter b).map g
theorem picked_succ {n : Nat} {b : Nat → Bool} {g : Nat → V} : picked (n + 1) b g = picked n b g ++ (if b n then [g n] else []) := by
  unfold picked
  rw [List.range_succ, List.filter_append, List.map_append]
  congr 1
  by_cases h : b n = true <;> simp [h]
theorem picked_len {n : Nat} {b : Nat → Bool} {g : Nat → V} : (picked n b g).length ≤ n := by
  unfold picked
  rw [List.length_map]
  exact Nat.le_trans (List.length_filter_le _ _) (by simp)

/-- a comprehension's loop, whatever its target -/
theorem loop_go {prog : Program} {w : World} {A : Around} {R : Result → Shared → Prop} {s : Shared} {elt target iter : Expr} {ifs : List Expr} {scope : Scope} {pos : Pos} {it acc : Value} {env : Env} (I : Nat → Shared → Prop)
    (turn : ∀ n s, I n s → ∀ (R0 K : Shared → Prop) (E : Value → Shared → Prop), (∀ s', R (.ok .next) s' → R0 s') → (∀ s', (∃ m, m < n ∧ I m s') → K s') → wpAny (model prog w) A (pyNext it) (fun r s₁ => match r with
      | none => R0 s₁
      | some v => wpAny (model prog w) A (letOwnedTupleGo target it v) (fun _ s₀ => wpAny (model prog w) A (assign target env v) (fun _ s₂ =>
          wpAny (model prog w) A (forIn ifs true fun c r => if r = true then do let ok ← isTrue c env (eval c env); pure (ForInStep.yield ok) else pure (ForInStep.yield r)) (fun ok s₃ =>
            if ok = true then wpAny (model prog w) A (eval elt env) (fun x s₄ =>
              wpAny (model prog w) A (call (.builtin "list.append") [acc, x]) (fun _ s₅ => K s₅) E s₄) E s₃
            else K s₃) E s₂) E s₀) E s₁) E s)
    (n : Nat) (h : I n s) : codeAny (model prog w) A (.compLoop (.ListComp elt [⟨target, iter, ifs, 0⟩] scope pos) 0 it acc env) R s := by
  refine codeAny_loop rfl I (fun n s hI => ?_) n h
  show wpAny _ A ((compTurn (.ListComp elt [⟨target, iter, ifs, 0⟩] scope pos) 0 it acc env).onRaise (fun x => do noteFrame x env; theTreesLotGoes x)) _ _ s
  refine wpAny_noted ?_
  rw [compTurn_list]
  refine wpAny_bind (wpAny_standAt (wpAny_bind (wpAny_mono (turn n s hI _ _ _ (fun _ h => h) (fun _ h => h)) (fun r s₁ h₁ => ?_) fun _ _ h' => h')))
  cases r with
  | none => exact wpAny_pure h₁
  | some v =>
    refine wpAny_bind (wpAny_mono h₁ (fun _ s₀ h₀' => ?_) fun _ _ h' => h')
    refine wpAny_bind (wpAny_mono h₀' (fun _ s₂ h₂ => wpAny_bind (wpAny_mono h₂ (fun ok s₃ h₃ => ?_) fun _ _ h' => h')) fun _ _ h' => h')
    cases ok with
    | false => exact wpAny_pure ⟨rfl, h₃⟩
    | true =>
      exact wpAny_bind (wpAny_bind (wpAny_mono h₃ (fun x s₄ h₄ => wpAny_bind (wpAny_mono h₄ (fun _ s₅ h₅ => wpAny_pure (wpAny_pure ⟨rfl, h₅⟩)) fun _ _ h' => h')) fun _ _ h' => h'))

/-- between two turns of a comprehension's loop -/
inductive CI (St : Nat → Heap → Prop) (hC : Heap) (s₂ : Shared) (C D n : Nat) (Y : List Addr) (ds : Nat → List V) (q : Nat) (s' : Shared) : Prop
  | mk (h' : Heap) (tk i : Nat) (ys : List Value) (m : Nat) (m' : Str → Option Value) : s' = { s₂ with heap := h', toks := tk } → i ≤ n → q = n + 1 - i → St i h' → h'.Ns C m' → h'.get? D = some (lstO ys m) → RdA Y h' ys (ds i) → (∀ b o, hC.get? b = some o → h'.get? b = some o) → CI St hC s₂ C D n Y ds q s'

/-- one turn -/
theorem comp_turn {elt target : Expr} {ifs : List Expr} {ce : Env} {n : Nat} {bt : Nat → Bool} {g : Nat → V} {I C D : Addr} {fp wr : List Addr} {P Md : Nat → Value → Heap → Prop} {St : Nat → Heap → Prop} {hC : Heap} {s₂ : Shared} {Z : List Addr} (Fact : Nat → Heap → Prop)
    (cxs : ∀ h' : Heap, (∀ b o, hC.get? b = some o → h'.get? b = some o) → Cx W k A h₀ L ce X h') (Wk : PySem.W.KTurns W.prog W.w A target I fp wr n P Md St) (hn : n ≤ sizeLine)
    (hCw : C ∉ fp) (hDw : D ∉ fp) (hDC : D ≠ C) (hwr : ∀ q ∈ wr, hC.get? q = none) (hCn : hC.get? C = none) (hDn : hC.get? D = none) (hSx : ∀ i h', St i h' → ∀ q ∈ wr, ∃ o, h'.get? q = some o) (hZ : Z = D :: wr)
    (asg : ∀ i v m (s : Shared) (Q : Unit → Shared → Prop) (E : Value → Shared → Prop), i < n → P i v s.heap → s.heap.Ns C m → (∀ b o, hC.get? b = some o → s.heap.get? b = some o) → (∀ h' tk m', h'.Ns C m' → (∀ b o, b ≠ C → s.heap.get? b = some o → h'.get? b = some o) → Fact i h' → Q () { s with heap := h', toks := tk }) → wpAny (model W.prog W.w) A (assign target ce v) Q E s)
    (fle : ∀ i h' h'', Fact i h' → Le h' h'' → Fact i h'')
    (tests : ∀ i s E (Q : Bool → Shared → Prop), i < n → Cx W k A h₀ L ce X s.heap → (∀ b o, hC.get? b = some o → s.heap.get? b = some o) → Fact i s.heap → (∀ s', Gw s s' → Q (bt i) s') →
      wpAny (model W.prog W.w) A (forIn ifs true fun c r => if r = true then do let ok ← isTrue c ce (eval c ce); pure (ForInStep.yield ok) else pure (ForInStep.yield r)) Q E s)
    (helt : ∀ i h', i < n → bt i = true → St (i + 1) h' → Cx W k A h₀ L ce (Z ++ X) h' → (∀ b o, hC.get? b = some o → h'.get? b = some o) → Fact i h' → Ev W A ce (Z ++ X) h' elt (g i))
    {q : Nat} {s' : Shared} (inv : CI St hC s₂ C D n (Z ++ X) (fun i => picked i bt g) q s') {R0 K : Shared → Prop} {E : Value → Shared → Prop}
    (h0 : ∀ h' tk ys m m', h'.Ns C m' → h'.get? D = some (lstO ys m) → RdA (Z ++ X) h' ys (picked n bt g) → (∀ b o, hC.get? b = some o → h'.get? b = some o) → R0 { s₂ with heap := h', toks := tk }) (hK : ∀ m s', m < q → CI St hC s₂ C D n (Z ++ X) (fun i => picked i bt g) m s' → K s') :
    wpAny (model W.prog W.w) A (pyNext (.ref I)) (fun r s₁ => match r with
      | none => R0 s₁
      | some v => wpAny (model W.prog W.w) A (letOwnedTupleGo target (.ref I) v) (fun _ s₀ => wpAny (model W.prog W.w) A (assign target ce v) (fun _ s₂ =>
          wpAny (model W.prog W.w) A (forIn ifs true fun c r => if r = true then do let ok ← isTrue c ce (eval c ce); pure (ForInStep.yield ok) else pure (ForInStep.yield r)) (fun ok s₃ =>
            if ok = true then wpAny (model W.prog W.w) A (eval elt ce) (fun x s₄ =>
              wpAny (model W.prog W.w) A (call (.builtin "list.append") [.ref D, x]) (fun _ s₅ => K s₅) E s₄) E s₃
            else K s₃) E s₂) E s₀) E s₁) E s' := by
  cases inv with
  | mk h' tk i ys mm m' es hi eq hst' hn' hD' hys hk' =>
  subst es eq
  have hCw' : C ∉ wr := fun hm => hCw (Wk.sub _ hm)
  have hDw' : D ∉ wr := fun hm => hDw (Wk.sub _ hm)
  have hZD : D ∈ Z := by rw [hZ]; exact .head _
  have hZw : ∀ q ∈ wr, q ∈ Z := fun q hq => by rw [hZ]; exact .tail _ hq
  have oldw : ∀ b o, hC.get? b = some o → b ∉ wr := fun b o e hm => by rw [hwr b hm] at e; cases e
  by_cases hlt : i < n
  · refine Wk.item i _ _ _ hlt hst' fun v h₂ tk₂ hMd hk₂ => ?_
    refine Wk.go i v _ _ _ hMd fun h₃ hP hst₃ hk₃ => ?_
    have up₃ : ∀ b o, b ∉ wr → h'.get? b = some o → h₃.get? b = some o := fun b o hb e => hk₃ b o hb (hk₂ b o hb e)
    refine asg i v m' _ _ _ hlt hP (hn'.at' fun o e => up₃ _ o hCw' e) (fun b o e => up₃ b o (oldw b o e) (hk' b o e)) fun h₄ tk₄ m₄ hn₄ hs₄ fa => ?_
    have up : ∀ b o, b ∉ wr → b ≠ C → h'.get? b = some o → h₄.get? b = some o := fun b o h1 h2 e => hs₄ b o h2 (up₃ b o h1 e)
    have k4 : ∀ b o, hC.get? b = some o → h₄.get? b = some o := fun b o e => up b o (oldw b o e) (fun q => by rw [q, hCn] at e; cases e) (hk' b o e)
    have hst₄ : St (i + 1) h₄ := Wk.frame _ _ _ hst₃ fun b hb o e => hs₄ b o (fun q => hCw (q ▸ hb)) e
    have hD₄ : h₄.get? D = some (lstO ys mm) := up _ _ hDw' hDC hD'
    have hys₄ : RdA (Z ++ X) h₄ ys (picked i bt g) := hys.move fun b o e sq hx => ⟨up b o (fun hm => hx (List.mem_append.mpr (.inl (hZw b hm)))) (fun q => by rw [q] at e; exact ns_notSq hn' _ e sq) e, hx⟩
    refine tests i _ _ _ hlt (cxs h₄ k4) k4 fa fun s₅ g₅ => ?_
    obtain ⟨⟨h₅, tk₅, rfl⟩, le₅⟩ := g₅
    have hst₅ : St (i + 1) h₅ := Wk.frame _ _ _ hst₄ fun b _ o e => le₅ b o e
    have k5 : ∀ b o, hC.get? b = some o → h₅.get? b = some o := fun b o e => le₅ b o (k4 b o e)
    cases hb : bt i with
    | false =>
      simp only [Bool.false_eq_true, if_false]
      refine hK (n + 1 - (i + 1)) _ (by lia) (.mk h₅ tk₅ (i + 1) ys mm m₄ rfl hlt rfl hst₅ (hn₄.keeps le₅) (le₅ _ _ hD₄) ?_ k5)
      rw [picked_succ, hb]; simpa using hys₄.le le₅
    | true =>
      simp only [if_true]
      have cx₅ := cxs h₅ k5
      have cx₅' : Cx W k A h₀ L ce (Z ++ X) h₅ := ⟨cx₅.cn, cx₅.ek, cx₅.eg, cx₅.eb, fun q hq => (List.mem_append.mp hq).elim (fun hq => by
        rw [hZ] at hq
        rcases List.mem_cons.mp hq with e | hq
        · exact ⟨_, e ▸ le₅ _ _ hD₄⟩
        · exact hSx _ _ hst₅ q hq) (cx₅.xs q)⟩
      refine helt i h₅ hlt hb hst₅ cx₅' k5 (fle _ _ _ fa le₅) _ _ _ (Le.refl _) fun y s₆ g₆ r₆ => ?_
      obtain ⟨⟨h₆, tk₆, rfl⟩, le₆⟩ := g₆
      refine append_at (le₆ _ _ (le₅ _ _ hD₄)) (fun h₇ hs₇ hD₇ => ?_) (by rw [List.size_toArray, hys.length]; exact Nat.le_trans picked_len (Nat.le_trans hi hn))
      have nD : ∀ {b}, b ∉ Z ++ X → b ≠ D := fun hx z => hx (List.mem_append.mpr (.inl (z ▸ hZD)))
      refine hK (n + 1 - (i + 1)) _ (by lia) (.mk h₇ tk₆ (i + 1) (ys ++ [y]) (mm + 1) m₄ rfl hlt rfl ?_ (((hn₄.keeps le₅).keeps le₆).sameBut hs₇ (Ne.symm hDC)) (by rw [hD₇, List.push_toArray]) ?_ fun b o e => hs₇.extBut b o (fun z => by rw [z, hDn] at e; cases e) (le₆ b o (k5 b o e)))
      · exact Wk.frame _ _ _ hst₅ fun b hb o e => hs₇.extBut b o (fun z => hDw (z ▸ hb)) (le₆ b o e)
      · show RdA _ _ _ (picked (i + 1) bt g)
        rw [picked_succ, hb]
        exact RdA.append (((hys₄.le le₅).le le₆).move fun b o e sq hx => ⟨hs₇.extBut b o (nD hx) e, hx⟩) (.cons (r₆.move fun b o e sq hx => ⟨hs₇.extBut b o (nD hx) e, hx⟩) .nil)
  · obtain rfl : i = n := by lia
    refine Wk.done _ _ _ hst' fun h₂ tk₂ hk₂ => ?_
    exact h0 h₂ tk₂ ys mm m' (hn'.at' fun o e => hk₂ _ o hCw' e) (hk₂ _ _ hDw' hD') (hys.move fun b o e sq hx => ⟨hk₂ b o (fun hm => hx (List.mem_append.mpr (.inl (hZw b hm)))) e, hx⟩) fun b o e => hk₂ b o (oldw b o e) (hk' b o e)

/-- a list comprehension of one clause, whatever it goes over -/
theorem comp_core {elt target iter : Expr} {ifs : List Expr} {scope : Scope} {pos : Pos} {cl : List (Str × Addr)} {n : Nat} {bt : Nat → Bool} {g : Nat → V} {I : Addr} {fp wr : List Addr} {P Md : Nat → Value → Heap → Prop} {St : Nat → Heap → Prop} {hC : Heap} {s s₂ : Shared} (Fact : Addr → Nat → Heap → Prop) (c : Cx W k A h₀ L env X h) (lC : Le h hC) (ls : Le s.heap hC) (l2 : Le hC s₂.heap) (gs : ∃ h tk, s₂ = { s with heap := h, toks := tk })
    (hcell : ∀ y ∈ scope.names, y.2 ≠ .cell) (hkind : scope.kind = .function) (hn : n ≤ sizeLine)
    (Wk : PySem.W.KTurns W.prog W.w A target I fp wr n P Md St) (self : ∀ (s : Shared) (Q E : Value → Shared → Prop), St 0 s.heap → Q (.ref I) s → wpAny (model W.prog W.w) A (pyIter (.ref I)) Q E s)
    (hst : St 0 s₂.heap) (hfp : ∀ b ∈ fp, b < s₂.heap.objs.size) (hwr : ∀ q ∈ wr, hC.get? q = none) (hSx : ∀ i h', St i h' → ∀ q ∈ wr, ∃ o, h'.get? q = some o)
    (asg : ∀ C i v m (s : Shared) (Q : Unit → Shared → Prop) (E : Value → Shared → Prop), hC.get? C = none → i < n → P i v s.heap → s.heap.Ns C m → (∀ b o, hC.get? b = some o → s.heap.get? b = some o) → (∀ h' tk m', h'.Ns C m' → (∀ b o, b ≠ C → s.heap.get? b = some o → h'.get? b = some o) → Fact C i h' → Q () { s with heap := h', toks := tk }) → wpAny (model W.prog W.w) A (assign target (compEnvC scope cl C env) v) Q E s)
    (fle : ∀ C i h' h'', Fact C i h' → Le h' h'' → Fact C i h'')
    (tests : ∀ C i s E (Q : Bool → Shared → Prop), i < n → Le h s.heap → Cx W k A h₀ L (compEnvC scope cl C env) X s.heap → Fact C i s.heap → (∀ s', Gw s s' → Q (bt i) s') →
      wpAny (model W.prog W.w) A (forIn ifs true fun c r => if r = true then do let ok ← isTrue c (compEnvC scope cl C env) (eval c (compEnvC scope cl C env)); pure (ForInStep.yield ok) else pure (ForInStep.yield r)) Q E s)
    (helt : ∀ C D i h', hC.get? D = none → i < n → bt i = true → St (i + 1) h' → Le h h' → Cx W k A h₀ L (compEnvC scope cl C env) ((D :: wr) ++ X) h' → (∀ b o, hC.get? b = some o → h'.get? b = some o) → Fact C i h' → Ev W A (compEnvC scope cl C env) ((D :: wr) ++ X) h' elt (g i))
    (RR : Value → Addr → Result → Shared → Prop) {E : Value → Shared → Prop}
    (fin : ∀ D C ys mm m' s', Gw s s' → s.heap.get? D = none → s.heap.get? C = none → C ≠ D → s'.heap.Ns C m' → s'.heap.get? D = some (lstO ys mm) → D ∉ X → RdA (D :: X) s'.heap ys (picked n bt g) → RR (.ref D) C (.ok .next) s') :
    wpAny (model W.prog W.w) A (newList []) (fun acc s₃ => wpAny (model W.prog W.w) A (newFunctionEnv scope env.globals cl [] env.qual none .none (some env)) (fun cenv s₄ =>
        codeAny (model W.prog W.w) A (.compStart (.ListComp elt [⟨target, iter, ifs, 0⟩] scope pos) 0 (.ref I) acc { cenv with scope := relabel scope env }) (RR acc cenv.locals) s₄) E s₃) E s₂ := by
  refine wpAny_newObj_type (wpAny_newFunctionEnv hcell (by intro y hy; simp at hy) (fun h₁ hns₁ hsb₁ => ?_) hkind)
  dsimp only at hns₁ hsb₁ ⊢
  generalize hH2 : s₂.heap.push { cls := .type "list", dict := none, data := .seq ([] : List Value).toArray } = H2 at hns₁ hsb₁ ⊢
  have hCs : H2.objs.size = s₂.heap.objs.size + 1 := by rw [← hH2, Heap.size_push]
  have hDC : s₂.heap.objs.size ≠ H2.objs.size := by rw [hCs]; exact Nat.ne_of_lt (Nat.lt_succ_self _)
  have hDf : s₂.heap.objs.size ∉ fp := fun hm => Nat.lt_irrefl _ (hfp _ hm)
  have hCf : H2.objs.size ∉ fp := fun hm => by have := hfp _ hm; rw [hCs] at this; exact Nat.lt_irrefl _ (Nat.lt_of_succ_lt this)
  have old : ∀ b o, s₂.heap.get? b = some o → h₁.get? b = some o := fun b o e => hsb₁.extBut b o (by rw [hCs]; exact Nat.ne_of_lt (Nat.lt_succ_of_lt (Heap.lt_size e))) (Heap.get?_push_of_some _ (hH2 ▸ Heap.get?_push_of_some _ e))
  have hacc : h₁.get? s₂.heap.objs.size = some (lstO [] 0) := hsb₁.extBut _ _ hDC (Heap.get?_push_of_some _ (hH2 ▸ Heap.get?_push_size _ rfl))
  have hst₁ : St 0 h₁ := Wk.frame _ _ _ hst fun b _ o e => old b o e
  have nos : ∀ a, s₂.heap.objs.size ≤ a → hC.get? a = none := fun a ha => by
    cases e : hC.get? a with
    | none => rfl
    | some o' => exact absurd (Heap.lt_size (l2 _ _ e)) (Nat.not_lt.mpr ha)
  have nos' : ∀ a, hC.get? a = none → s.heap.get? a = none := fun a ha => by
    cases e : s.heap.get? a with
    | none => rfl
    | some o' => rw [ls _ _ e] at ha; cases ha
  have hD₀ : hC.get? s₂.heap.objs.size = none := nos _ (Nat.le_refl _)
  have hC₀ : hC.get? H2.objs.size = none := nos _ (by rw [hCs]; exact Nat.le_succ _)
  have hDX : s₂.heap.objs.size ∉ X := c.fresh (lC.trans l2)
  have lh : ∀ {h' : Heap}, (∀ b o, hC.get? b = some o → h'.get? b = some o) → Le h h' := fun hk b o e => hk b o (lC b o e)
  have loop : ∀ s₃ : Shared, s₃ = { s₂ with heap := h₁, toks := s₂.toks + ([] : List (Str × Value)).length } →
      codeAny (model W.prog W.w) A (.compLoop (.ListComp elt [⟨target, iter, ifs, 0⟩] scope pos) 0 (.ref I) (.ref s₂.heap.objs.size) (compEnvC scope cl H2.objs.size env))
        (RR (.ref s₂.heap.objs.size) H2.objs.size) s₃ := by
    rintro s₃ rfl
    refine loop_go (CI St hC s₂ H2.objs.size s₂.heap.objs.size n ((s₂.heap.objs.size :: wr) ++ X) fun i => picked i bt g) (fun q s' inv R0 K E h0 hK => ?_) (n + 1) (.mk h₁ _ 0 [] 0 _ rfl (Nat.zero_le _) rfl hst₁ hns₁ hacc .nil fun b o e => old b o (l2 b o e))
    refine comp_turn (ce := compEnvC scope cl H2.objs.size env) (Fact H2.objs.size) (fun h' hk => ⟨c.cn.le (lh hk), hkind, c.eg, c.eb, (c.le (lh hk)).xs⟩) Wk hn hCf hDf hDC hwr hC₀ hD₀ hSx rfl (fun i v m s Q E hi hP hns hk hQ => asg _ i v m s Q E hC₀ hi hP hns hk hQ) (fle _) (fun i s E Q hi cx hk fa hQ => tests _ i s E Q hi (lh hk) cx fa hQ) (fun i h' hi hb hs cx hk fa => helt _ _ i h' hD₀ hi hb hs (lh hk) cx hk fa) inv (fun h' tk ys m m' hns hD hys hk => h0 _ ?_) (fun m s' hm ci => hK s' ⟨m, hm, ci⟩)
    obtain ⟨hh, tt, e⟩ := gs
    exact fin _ _ ys m m' _ ⟨⟨h', tk, by rw [e]⟩, fun b o q => hk b o (ls b o q)⟩ (nos' _ hD₀) (nos' _ hC₀) (Ne.symm hDC) hns hD hDX (hys.sub fun q hq => by
      rcases List.mem_cons.mp hq with e | hq
      · exact e ▸ .head _
      · exact List.mem_append.mpr (.inr hq))
  exact codeAny_compStart_list (loop _ rfl) (self _ _ _ hst₁ (loop _ rfl))

/-- a list comprehension of one clause: a new list -/
theorem comp_gen {elt iter : Expr} {x : Str} {px pos : Pos} {ifs : List Expr} {scope : Scope} {cl : List (Str × Addr)} {n : Nat} {it : Nat → V} (b : Nat → Bool) (g : Nat → V) (c : Cx W k A h₀ L env X h)
    (hclos : closureFor scope env = pure cl) (hcell : ∀ y ∈ scope.names, y.2 ≠ .cell) (hkind : scope.kind = .function) (hnames : ∀ y ∈ scope.names, y.2 = .local → scope.names.lookup y.1 = some .local) (hx : scope.names.lookup x = some .local)
    (hsrc : Src W A env X h iter n it) (hn : n ≤ sizeLine)
    (tests : ∀ i C v s E (Q : Bool → Shared → Prop), i < n → Le h s.heap → Cx W k A h₀ L (compEnvC scope cl C env) X s.heap → Var (compEnvC scope cl C env) s.heap x v → Rd X s.heap v (it i) → (∀ s', Gw s s' → Q (b i) s') →
      wpAny (model W.prog W.w) A (forIn ifs true fun c r => if r = true then do let ok ← isTrue c (compEnvC scope cl C env) (eval c (compEnvC scope cl C env)); pure (ForInStep.yield ok) else pure (ForInStep.yield r)) Q E s)
    (helt : ∀ i C D v h', i < n → b i = true → Le h h' → h.get? D = none → Cx W k A h₀ L (compEnvC scope cl C env) (D :: X) h' → Var (compEnvC scope cl C env) h' x v → Rd X h' v (it i) → Ev W A (compEnvC scope cl C env) (D :: X) h' elt (g i))
    (RR : Value → Addr → Result → Shared → Prop) {s : Shared} {E : Value → Shared → Prop} (l : Le h s.heap)
    (fin : ∀ D C ys mm m' s', Gw s s' → s.heap.get? D = none → s.heap.get? C = none → C ≠ D → s'.heap.Ns C m' → s'.heap.get? D = some (lstO ys mm) → D ∉ X → RdA (D :: X) s'.heap ys (picked n b g) → RR (.ref D) C (.ok .next) s') :
    wpAny (model W.prog W.w) A (eval iter env) (fun xv s₁ => wpAny (model W.prog W.w) A (pyIter xv) (fun it s₂ => wpAny (model W.prog W.w) A (newList []) (fun acc s₃ =>
      wpAny (model W.prog W.w) A (newFunctionEnv scope env.globals cl [] env.qual none .none (some env)) (fun cenv s₄ =>
        codeAny (model W.prog W.w) A (.compStart (.ListComp elt [⟨.Name x px, iter, ifs, 0⟩] scope pos) 0 it acc { cenv with scope := relabel scope env }) (RR acc cenv.locals) s₄) E s₃) E s₂) E s₁) E s := by
  refine hsrc s _ _ l fun I fp P St s₂ g₂ hIn Wk hst hfp hIs hit => ?_
  have l₂ : Le h s₂.heap := l.trans g₂.le
  obtain ⟨oI, heI, hnI⟩ := hIs _ _ hst
  have sI : ∀ b o, s.heap.get? b = some o → b ∉ [I] := fun b o e hm => by rw [List.mem_singleton.mp hm, hIn] at e; cases e
  have ls : Le s.heap (TI.gone s₂.heap [I]) := fun b o e => by rw [TI.gone_get (sI b o e)]; exact g₂.le b o e
  refine comp_core (hC := TI.gone s₂.heap [I]) (fun C i h' => ∃ v, Var (compEnvC scope cl C env) h' x v ∧ Rd X h' v (it i)) c (l.trans ls) ls (fun b o e => (TI.gone_some e).2) g₂.same hcell hkind hn (PySem.W.KTurns.ofWalks Wk fun _ _ s Q E _ hQ => wpAny_of_eq rfl hQ) (fun s Q E => Wk.self 0 s Q E) hst hfp (fun q hq => TI.gone_none hq) (fun i h' st q hq => by obtain ⟨o, e, _⟩ := hIs _ _ st; rw [List.mem_singleton.mp hq]; exact ⟨o, e⟩) ?_ ?_ ?_ ?_ RR fin
  · intro C i v m s' Q E hC hi hP hns hk hQ
    refine wpAny_assign_Name (wpAny_storeName_local (lookup_relabel_local hx) hns (fun h₃ hn₃ hs₃ => ?_) (by simp [compEnvC, relabel, hkind]))
    refine hQ h₃ _ _ hn₃ (fun b o hb e => hs₃.extBut b o hb e) ⟨v, .inl ⟨lookup_relabel_local hx, _, hn₃, by simp⟩, hit i v h₃ hi hP fun b o hb e => ?_⟩
    have e' : (TI.gone s₂.heap [I]).get? b = some o := by rw [TI.gone_get (by simpa using hb)]; exact e
    exact hs₃.extBut b o (fun z => by
      have z' : b = C := z
      rw [z', hC] at e'; cases e') (hk b o e')
  · rintro C i h' h'' ⟨v, h1, h2⟩ le
    exact ⟨v, h1.le le, h2.le le⟩
  · rintro C i s' E Q hi le cx ⟨v, h1, h2⟩ hQ
    exact tests i C v s' E Q hi le cx h1 h2 hQ
  · rintro C D i h' hD hi hb st le cx hk ⟨v, h1, h2⟩
    have hD' : h.get? D = none := by
      cases e : h.get? D with
      | none => rfl
      | some o => rw [ls _ _ (l _ _ e)] at hD; cases hD
    have ev := helt i C D v h' hi hb le hD' (cx.sub fun q hq => by
      rcases List.mem_cons.mp hq with e | hq
      · exact e ▸ .head _
      · exact List.mem_append.mpr (.inr hq)) h1 h2
    obtain ⟨o, eo, ho⟩ := hIs _ _ st
    intro s' Q E le' f
    refine ev s' Q E le' fun y s'' gw r => f y s'' gw (r.move fun b o' e sq hx => ⟨e, fun hm => ?_⟩)
    rcases List.mem_append.mp hm with hm | hm
    · rcases List.mem_cons.mp hm with q | hm
      · exact hx (q ▸ .head _)
      · rw [List.mem_singleton.mp hm, gw.le _ _ (le' _ _ eo)] at e
        cases e; exact ho sq
    · exact hx (.tail _ hm)

/-- a list comprehension of one clause: a new list -/
theorem evf_comp {elt iter : Expr} {x : Str} {px pos : Pos} {ifs : List Expr} {scope : Scope} {cl : List (Str × Addr)} {n : Nat} {it : Nat → V} (b : Nat → Bool) (g : Nat → V) (c : Cx W k A h₀ L env X h)
    (hclos : closureFor scope env = pure cl) (hcell : ∀ y ∈ scope.names, y.2 ≠ .cell) (hkind : scope.kind = .function) (hnames : ∀ y ∈ scope.names, y.2 = .local → scope.names.lookup y.1 = some .local) (hx : scope.names.lookup x = some .local)
    (hsrc : Src W A env X h iter n it) (hn : n ≤ sizeLine)
    (tests : ∀ i C v s E (Q : Bool → Shared → Prop), i < n → Le h s.heap → Cx W k A h₀ L (compEnvC scope cl C env) X s.heap → Var (compEnvC scope cl C env) s.heap x v → Rd X s.heap v (it i) → (∀ s', Gw s s' → Q (b i) s') →
      wpAny (model W.prog W.w) A (forIn ifs true fun c r => if r = true then do let ok ← isTrue c (compEnvC scope cl C env) (eval c (compEnvC scope cl C env)); pure (ForInStep.yield ok) else pure (ForInStep.yield r)) Q E s)
    (helt : ∀ i C D v h', i < n → b i = true → Le h h' → h.get? D = none → Cx W k A h₀ L (compEnvC scope cl C env) (D :: X) h' → Var (compEnvC scope cl C env) h' x v → Rd X h' v (it i) → Ev W A (compEnvC scope cl C env) (D :: X) h' elt (g i))
    (hs : ∀ x, foldedSetIterable iter env x = pure x := by intro _; rfl) : EvF W A env X h (.ListComp elt [⟨.Name x px, iter, ifs, 0⟩] scope pos) (picked n b g) := fun s Q E l f => by
  rw [eval_ListComp]
  refine wpAny_comprehension_free (use := none) rfl hs hclos hkind hnames (comp_gen b g c hclos hcell hkind hnames hx hsrc hn tests helt (fun acc C => compPost (model W.prog W.w) A E none Q acc C) l fun D C ys mm m' s' gw hD hC hCD hn' eD hDX rr => ?_)
  refine ⟨m', hn', fun h₃ hs₃ => ?_⟩
  have mvA : RdA (D :: X) h₃ ys (picked n b g) := rr.move fun b o e sq hx => ⟨hs₃.extBut b o (fun z => by rw [z] at e; exact ns_notSq hn' _ e sq) e, hx⟩
  have les : Le s.heap h₃ := fun b o e => hs₃.extBut b o (fun z => by rw [z, hC] at e; cases e) (gw.le b o e)
  exact f D ys mm _ (gw.same.elim fun hh q => q.elim fun tt e => ⟨⟨h₃, tt, by rw [e]⟩, les⟩) hD (hs₃.extBut _ _ (Ne.symm hCD) eD) hDX (mvA.sub fun a ha => .tail _ ha) mvA

/-- the items are plain: nothing to mind -/
theorem evf_compF {elt iter : Expr} {x : Str} {px pos : Pos} {ifs : List Expr} {scope : Scope} {cl : List (Str × Addr)} {n : Nat} {it : Nat → V} (b : Nat → Bool) (g : Nat → V) (c : Cx W k A h₀ L env X h)
    (hclos : closureFor scope env = pure cl) (hcell : ∀ y ∈ scope.names, y.2 ≠ .cell) (hkind : scope.kind = .function) (hnames : ∀ y ∈ scope.names, y.2 = .local → scope.names.lookup y.1 = some .local) (hx : scope.names.lookup x = some .local)
    (hsrc : Src W A env X h iter n it) (hn : n ≤ sizeLine)
    (tests : ∀ i C v s E (Q : Bool → Shared → Prop), i < n → Le h s.heap → Cx W k A h₀ L (compEnvC scope cl C env) X s.heap → Var (compEnvC scope cl C env) s.heap x v → Rd X s.heap v (it i) → (∀ s', Gw s s' → Q (b i) s') →
      wpAny (model W.prog W.w) A (forIn ifs true fun c r => if r = true then do let ok ← isTrue c (compEnvC scope cl C env) (eval c (compEnvC scope cl C env)); pure (ForInStep.yield ok) else pure (ForInStep.yield r)) Q E s)
    (helt : ∀ i C v h', i < n → b i = true → Le h h' → Cx W k A h₀ L (compEnvC scope cl C env) X h' → Var (compEnvC scope cl C env) h' x v → Rd X h' v (it i) → Ev W A (compEnvC scope cl C env) X h' elt (g i))
    (hg : ∀ i, i < n → (g i).flat = true)
    (hs : ∀ x, foldedSetIterable iter env x = pure x := by intro _; rfl) : EvF W A env X h (.ListComp elt [⟨.Name x px, iter, ifs, 0⟩] scope pos) (picked n b g) :=
  evf_comp b g c hclos hcell hkind hnames hx hsrc hn tests (fun i C D v h' hi hb l _ cx vx r => (helt i C v h' hi hb l (cx.sub fun a ha => .tail _ ha) vx r).flat (hg i hi)) hs
end
end Mine
namespace Mine
open PySem PySem.Calls PySem.Spec PyProof.Rows

section
variable {B : Bd} {μ : Mu} {ρ : Rho} {Kp : Addr → Obj → Prop} {γ : List (Value × V)} {s : Shared}
theorem ev_rho {x : Str} {pos : Pos} {d : V} (y : Sat B Kp γ μ ρ s) (h : ρ.lookup x = some d) (hp : (match d with | .old _ => false | _ => true) = true := by rfl) (hd : (x == ("__debug__" : Str)) = false := by decide) : Ev B.W B.A B.env (μ.at ++ B.X₀) s.heap (.Name x pos) d := by
  obtain ⟨v, h1, h2⟩ := y.vars x d h
  have h2' : Rd (μ.at ++ B.X₀) s.heap v d := by cases d <;> first | (cases hp; done) | exact h2
  exact ev_var y.cx h1 h2' hd
theorem ev_old {x : Str} {pos : Pos} {d : V} (y : Sat B Kp γ μ ρ s) (h : ρ.lookup x = some (.old d)) (hd : (x == ("__debug__" : Str)) = false := by decide) : Ev B.W B.A B.env μ.at s.heap (.Name x pos) d := by
  obtain ⟨v, h1, h2⟩ := y.vars x _ h
  exact ev_var (y.cx.sub fun a ha => List.mem_append.mpr (.inl ha)) h1 h2 hd
theorem ev_nm {x : Str} {pos : Pos} {d : V} (y : Sat B Kp γ μ ρ s) (h : ρ.lookup x = some d) (hp : (match d with | .old _ => false | _ => true) = true := by rfl) (hd : (x == ("__debug__" : Str)) = false := by decide) : Ev B.W B.A B.env [] s.heap (.Name x pos) d := (ev_rho y h hp hd).sub fun _ h => (nomatch h)
theorem ev_nmO {x : Str} {pos : Pos} {d : V} (y : Sat B Kp γ μ ρ s) (h : ρ.lookup x = some (.old d)) (hd : (x == ("__debug__" : Str)) = false := by decide) : Ev B.W B.A B.env [] s.heap (.Name x pos) d := (ev_old y h hd).sub fun _ h => (nomatch h)
/-- a list that may turn, read -/
theorem ev_mu {x : Str} {pos : Pos} {a : Addr} {ds : List V} (y : Sat B Kp γ μ ρ s) (h : (x, a, ds) ∈ μ) (hd : (x == ("__debug__" : Str)) = false := by decide) : Ev B.W B.A B.env B.X₀ s.heap (.Name x pos) (.lst ds) := by
  obtain ⟨h1, h2, vs, n, h3, h4⟩ := y.muts _ h
  exact ev_var (y.cx.sub fun a ha => List.mem_append.mpr (.inr ha)) h1 (.lst h3 h2 (h4.sub fun a ha => List.mem_append.mpr (.inr ha))) hd
theorem ev_mu0 {x : Str} {pos : Pos} {a : Addr} {ds : List V} (y : Sat B Kp γ μ ρ s) (h : (x, a, ds) ∈ μ) (hd : (x == ("__debug__" : Str)) = false := by decide) : Ev B.W B.A B.env [] s.heap (.Name x pos) (.lst ds) := (ev_mu y h hd).sub fun _ h => (nomatch h)
/-- fewer names known -/
theorem Tri.weak {body : List Stmt} {Post : Fl → Mu → Rho → Prop} {ρ' : Rho} (x : Tri B μ ρ' body Post) (h : ∀ z d, ρ'.lookup z = some d → ρ.lookup z = some d) : Tri B μ ρ body Post := fun Kp γ s E y => x Kp γ s E (y.forget h)
end

/-- each name of the one is so known in the other -/
noncomputable def Sub : Rho → Rho → Prop
  | [], _ => True
  | q :: r, ρ => ρ.lookup q.1 = some q.2 ∧ Sub r ρ
theorem Sub.look : ∀ {ρ' ρ : Rho}, Sub ρ' ρ → ∀ z d, ρ'.lookup z = some d → ρ.lookup z = some d
  | [], _, _, z, d, h => by cases h
  | q :: r, ρ, ⟨h1, h2⟩, z, d, h => by
    obtain ⟨x, e⟩ := q
    rcases lookup_put h with ⟨rfl, rfl⟩ | ⟨_, h⟩
    · exact h1
    · exact Sub.look h2 z d h
theorem tri_end {B : Bd} {μ : Mu} {ρ ρ' : Rho} {Post : Fl → Mu → Rho → Prop} (hs : Sub ρ' ρ) (h : Post .next μ ρ') : Tri B μ ρ [] Post := Tri.weak (tri_nil h) hs.look

noncomputable def fnBody : Stmt → List Stmt
  | .FunctionDef _ _ b .. => b
  | _ => []
noncomputable def fnArgs : Stmt → Arguments
  | .FunctionDef _ a .. => a
  | _ => ⟨[], [], none, [], [], none, []⟩
noncomputable def fnScope : Stmt → Scope
  | .FunctionDef _ _ _ _ _ _ sc .. => sc
  | _ => default
noncomputable abbrev fdOf (name : Str) (st : Stmt) (doc pm : Value) (an : Option Addr) (cdv ct : Value) : FuncData :=
  { name, qualname := name, params := fnArgs st, body := .stmts (fnBody st), scope := fnScope st, globals := mainGlobals, closure := [], defaults := .none, kwdefaults := .none, doc, pyModule := pm, annotations := an, code := cdv, closureTuple := ct, builtins := builtinsNs }

/-- the built-in names that the programs draw on -/
structure Std (W : Wd) : Prop where
  len : W.mg "len" = none ∧ W.mb "len" = some (.builtin "len")
  abs : W.mg "abs" = none ∧ W.mb "abs" = some (.builtin "abs")
  range : W.mg "range" = none ∧ W.mb "range" = some (.type "range")
  type : W.mg "type" = none ∧ W.mb "type" = some (.type "type")
  list : W.mg "list" = none ∧ W.mb "list" = some (.type "list")
  int : W.mg "int" = none ∧ W.mb "int" = some (.type "int")
  bool : W.mg "bool" = none ∧ W.mb "bool" = some (.type "bool")
end Mine
namespace Mine
open PySem PySem.Calls PySem.Spec PyProof.Rows
theorem fnc_def {W : Wd} {k : Nat} {f : Addr} {name : Str} {st : Stmt} {doc pm cdv ct : Value} {an : Option Addr} {ps : List Str} {args : List V} {d : V} (hd : W.defs f (fdOf name st doc pm an cdv ct))
    (hbind : ∀ vs, vs.length = ps.length → bindArgs (fdOf name st doc pm an cdv ct) ⟨vs, []⟩ = pure (ps.zip vs)) (hps : ps.Nodup) (hlen : args.length = ps.length)
    (hkind : ∀ n, ∀ x ∈ ps, (fnScope st).names.lookup x = some .local ∨ ((fnScope st).names.lookup x = some .cell ∧ ((cellsFrom n (fnScope st).names []).lookup x).isSome = true))
    (hnd : ((cellsFrom 0 (fnScope st).names []).map (·.1)).Nodup) (hco : (fnScope st).isCoroutine = false) (hgen : (fnScope st).isGenerator = false) (hk : (fnScope st).kind = .function)
    (h : ∀ A h₀ L X₀ s₀, Tri ⟨W, k, A, h₀, callEnvC (fdOf name st doc pm an cdv ct) L f, X₀, s₀⟩ [] (ps.zip (args.map tag)) (fnBody st) fun fl _ _ => fl = .ret d ∨ (fl = .next ∧ d = .none)) : FnC W (k + 1) f args d :=
  fnc_of hd rfl rfl rfl rfl hbind hps hlen hkind hnd hco hgen hk (by
    rintro ⟨W', k', A, h₀, env, X₀, s₀⟩ rfl rfl ⟨L, rfl⟩
    exact h A h₀ L X₀ s₀)
end Mine
namespace Mine
open PySem PySem.Calls PySem.Spec PyProof.Rows
/-- a name of the function's, drawn upon in a comprehension -/
theorem ev_free {B : Bd} {μ : Mu} {ρ : Rho} {Kp : Addr → Obj → Prop} {γ : List (Value × V)} {s : Shared} {X : List Addr} {h' : Heap} {scope : Scope} {cl : List (Str × Addr)} {C : Addr} {x : Str} {pos : Pos} {d : V} {X' : List Addr} {k' : Nat} {h₀' : Heap} {L' : Addr} (y : Sat B Kp γ μ ρ s) (l : Le s.heap h')
    (cx : Cx B.W k' B.A h₀' L' (compEnvC scope cl C B.env) X' h') (hl : ρ.lookup x = some d) (hX : ∀ a ∈ X, a ∈ μ.at ++ B.X₀) (hk : (compEnvC scope cl C B.env).kindOf x = some .cell := by rfl) (hc : B.env.kindOf x = some .cell := by rfl) (hcl : cl.lookup x = B.env.cells.lookup x := by rfl)
    (hp : (match d with | .old _ => false | _ => true) = true := by rfl) (hd : (x == ("__debug__" : Str)) = false := by decide) : Ev B.W B.A (compEnvC scope cl C B.env) X h' (.Name x pos) d := by
  obtain ⟨v, h1, h2⟩ := y.vars x d hl
  have h2' : Rd (μ.at ++ B.X₀) s.heap v d := by cases d <;> first | (cases hp; done) | exact h2
  exact ev_var (X := X) ⟨cx.cn, cx.ek, cx.eg, cx.eb, fun a ha => let ⟨o, e⟩ := y.cx.xs a (hX a ha); ⟨o, l _ _ e⟩⟩ (var_free (h1.le l) hk hc hcl) ((h2'.le l).sub hX) hd
theorem ev_freeO {B : Bd} {μ : Mu} {ρ : Rho} {Kp : Addr → Obj → Prop} {γ : List (Value × V)} {s : Shared} {X : List Addr} {h' : Heap} {scope : Scope} {cl : List (Str × Addr)} {C : Addr} {x : Str} {pos : Pos} {d : V} {X' : List Addr} {k' : Nat} {h₀' : Heap} {L' : Addr} (y : Sat B Kp γ μ ρ s) (l : Le s.heap h')
    (cx : Cx B.W k' B.A h₀' L' (compEnvC scope cl C B.env) X' h') (hl : ρ.lookup x = some (.old d)) (hX : ∀ a ∈ X, a ∈ μ.at) (hk : (compEnvC scope cl C B.env).kindOf x = some .cell := by rfl) (hc : B.env.kindOf x = some .cell := by rfl) (hcl : cl.lookup x = B.env.cells.lookup x := by rfl)
    (hd : (x == ("__debug__" : Str)) = false := by decide) : Ev B.W B.A (compEnvC scope cl C B.env) X h' (.Name x pos) d := by
  obtain ⟨v, h1, h2⟩ := y.vars x _ hl
  have h2' : Rd μ.at s.heap v d := h2
  exact ev_var (X := X) ⟨cx.cn, cx.ek, cx.eg, cx.eb, fun a ha => let ⟨o, e⟩ := y.cx.xs a (List.mem_append.mpr (.inl (hX a ha))); ⟨o, l _ _ e⟩⟩ (var_free (h1.le l) hk hc hcl) ((h2'.le l).sub hX) hd
theorem ev_own {W : Wd} {k : Nat} {A : Around} {h₀ : Heap} {L : Addr} {env : Env} {X : List Addr} {h : Heap} {x : Str} {pos : Pos} {v : Value} {d : V} (c : Cx W k A h₀ L env X h) (hv : Var env h x v) (hr : Rd X h v d) (hd : (x == ("__debug__" : Str)) = false := by decide) : Ev W A env [] h (.Name x pos) d :=
  (ev_var c hv hr hd).sub fun _ h => (nomatch h)
theorem no_tests {W : Wd} {A : Around} {env : Env} {s : Shared} {Q : Bool → Shared → Prop} {E : Value → Shared → Prop} (f : ∀ s', Gw s s' → Q true s') :
    wpAny (model W.prog W.w) A (forIn ([] : List Expr) true fun c r => if r = true then do let ok ← isTrue c env (eval c env); pure (ForInStep.yield ok) else pure (ForInStep.yield r)) Q E s := wpAny_tests_nil (f s (Gw.refl s))
theorem one_test {W : Wd} {A : Around} {env : Env} {s : Shared} {Q : Bool → Shared → Prop} {E : Value → Shared → Prop} {c : Expr} {b : Bool} (hb : Bt W A env s.heap c b) (f : ∀ s', Gw s s' → Q b s') :
    wpAny (model W.prog W.w) A (forIn [c] true fun c r => if r = true then do let ok ← isTrue c env (eval c env); pure (ForInStep.yield ok) else pure (ForInStep.yield r)) Q E s := wpAny_tests_one (hb s _ _ (Le.refl _) f)
theorem picked_all {n : Nat} {g : Nat → V} : picked n (fun _ => true) g = (List.range n).map g := by unfold picked; rw [List.filter_eq_self.mpr (fun _ _ => rfl)]
end Mine
namespace Mine
open PySem PySem.Calls PySem.Spec PyProof.Rows PySem.W

theorem rd_script {P : Params} {h : Heap} {a : Addr} {ns : List Int} (w : Well P h (.ref a) (ofPy (PyData.list (ns.map PyData.int)))) : Rd [] h (.ref a) (.lst (ns.map .int)) := by
  have all : ∀ (ns : List Int) (vs : List Value), WellAll P h vs (ns.map fun i => WData.int i) → RdA [] h vs (ns.map .int) := by
    intro ns
    induction ns with
    | nil => intro vs x; cases x; exact .nil
    | cons n r ih =>
      intro vs x
      cases x with
      | cons p q => cases p; exact .cons (.int _ _) (ih _ q)
  have e : ofPy (PyData.list (ns.map PyData.int)) = .list (ns.map fun i => WData.int i) := by
    have : ∀ ns : List Int, ofPys (ns.map PyData.int) = ns.map fun i => WData.int i := by
      intro ns
      induction ns with
      | nil => rfl
      | cons n r ih => simp only [List.map_cons, ofPys, ofPy, ih]
    simp only [ofPy, this]
  rw [e] at w
  cases w with
  | list e r => exact .lst e (fun h => (nomatch h)) (all _ _ r)

theorem top_call {W : Wd} {k : Nat} {f a : Addr} {name : Str} {st : Stmt} {doc pm cdv ct : Value} {an : Option Addr} {s : Shared} {ns : List Int} {R : Result → Shared → Prop} {o : Obj} {d : V} (gr : Gr W s.heap) (hk : k < 100) (ho : s.heap.get? f = some o) (hdat : o.data = .func (fdOf name st doc pm an cdv ct)) (hcd : s.heap.CodeRec cdv name)
    (rs : Rd [] s.heap (.ref a) (.lst (ns.map .int)))
    (hbind : ∀ vs, vs.length = 1 → bindArgs (fdOf name st doc pm an cdv ct) ⟨vs, []⟩ = pure ((["script"] : List Str).zip vs))
    (hkind : ∀ n, (fnScope st).names.lookup ("script" : Str) = some .local ∨ ((fnScope st).names.lookup ("script" : Str) = some .cell ∧ ((cellsFrom n (fnScope st).names []).lookup ("script" : Str)).isSome = true))
    (hnd : ((cellsFrom 0 (fnScope st).names []).map (·.1)).Nodup) (hco : (fnScope st).isCoroutine = false) (hgen : (fnScope st).isGenerator = false) (hk2 : (fnScope st).kind = .function)
    (h : ∀ A h₀ L X₀ s₀, A.frames = some [callEnvC (fdOf name st doc pm an cdv ct) L f] → Tri ⟨W, k, A, h₀, callEnvC (fdOf name st doc pm an cdv ct) L f, X₀, s₀⟩ [] [(("script" : Str), .old (.lst (ns.map .int)))] (fnBody st) fun fl _ _ => fl = .ret d)
    (hR : ∀ v s', Gw s s' → Rd [] s'.heap v d → R (.ok (.ret v)) s') : codeAny (model W.prog W.w) callerA (.call (.ref f) ⟨[.ref a], []⟩) R s := by
  refine call_core (k := k) (fd := fdOf name st doc pm an cdv ct) (ps := ["script"]) (args := [.lst (ns.map .int)]) (X := []) gr (below_caller _) gr.root (fun _ h => (nomatch h)) rfl ?_ ?_ ho hdat hcd (fun _ h => (nomatch h)) (.cons rs .nil) rfl rfl rfl rfl hbind (by decide) rfl ?_ hnd hco hgen hk2 ?_
  · rw [show callerA.depth = 301 from rfl]; unfold recursionLimit; lia
  · rw [show callerA.units = 4 from rfl, show cLine = 9900 from rfl]; lia
  · intro n x hx
    rw [List.mem_singleton.mp hx]
    exact hkind n
  · rintro ⟨W', k', A, h₀, env, X₀, s₀⟩ s₁ hW hk' ⟨L, hL⟩ hA hh hX hs sat
    dsimp only at hW hk' hL hA hh hX hs
    subst hW hk' hL hA hh hX hs
    refine wpAny_mono (h _ _ L _ _ rfl _ _ s₁ _ sat) (fun fl s' ou => ?_) fun _ _ e => e
    obtain ⟨fd', μ', ρ', fi, y, po⟩ := ou
    subst po
    have gw : Gw _ s' := ⟨y.same, fun a o e => (y.kp a o e).1⟩
    cases fl <;> first | exact fi.elim | exact hR _ s' gw fi

noncomputable def HasDef (W : Wd) (name : Str) (s : Stmt) : Prop := ∃ f doc pm an cdv ct, W.defs f (fdOf name s doc pm an cdv ct) ∧ W.mg name = some (.ref f)
noncomputable abbrev Kdefs (K : Frag) : Addr → FuncData → Prop := fun f fd => ∃ o, K.lookup f = some o ∧ o.data = .func fd ∧ codeIn K fd.code fd.qualname = true
theorem hasDef_of {K : Frag} {h : Heap} {prog : Program} {w : World} {mg mb : Str → Option Value} {name : Str} {st : Stmt} {f : Addr} {o : Obj} {doc pm cdv ct : Value} {an : Option Addr} (X : K.In h) (G : h.Ns mainGlobals mg) (e : nsIn K mainGlobals name = some (some (.ref f))) (l : K.lookup f = some o)
    (d : o.data = .func (fdOf name st doc pm an cdv ct)) (c : codeIn K cdv name = true) : HasDef ⟨prog, w, mg, mb, Kdefs K, h⟩ name st := ⟨f, doc, pm, an, cdv, ct, ⟨o, l, d, c⟩, mg_of X G e⟩
theorem gr_of {K : Frag} {h : Heap} {prog : Program} {w : World} {p : Program} {loose : List Str} {mean : ExcName → Option Value} {mg mb : Str → Option Value} (X : K.In h) (T : Top p loose mean mg mb h) : Gr ⟨prog, w, mg, mb, Kdefs K, h⟩ h :=
  ⟨T.g, T.b, T.nolimit, fun f fd ⟨o, h1, h2, h3⟩ => ⟨o, X _ _ h1, h2, codeRec_of X h3⟩, Le.refl _⟩
theorem built_of {K : Frag} {h : Heap} {p : Program} {loose : List Str} {mean : ExcName → Option Value} {mg mb : Str → Option Value} {x : Str} {v : Value} (X : K.In h) (T : Top p loose mean mg mb h) (e : nsIn K mainGlobals x = some none) (hb : bootBuiltins x = some v) (hx : x ≠ "__name__" := by decide) : mg x = none ∧ mb x = some v :=
  ⟨mg_none_of X T.g e, (T.builtins x hx).trans hb⟩
theorem std_of {K : Frag} {h : Heap} {prog : Program} {w : World} {p : Program} {loose : List Str} {mean : ExcName → Option Value} {mg mb : Str → Option Value} (X : K.In h) (T : Top p loose mean mg mb h) (h1 : nsIn K mainGlobals "len" = some none) (h2 : nsIn K mainGlobals "abs" = some none) (h3 : nsIn K mainGlobals "range" = some none)
    (h4 : nsIn K mainGlobals "type" = some none) (h5 : nsIn K mainGlobals "list" = some none) (h6 : nsIn K mainGlobals "int" = some none) (h7 : nsIn K mainGlobals "bool" = some none) : Std ⟨prog, w, mg, mb, Kdefs K, h⟩ :=
  ⟨built_of X T h1 boot_len, built_of X T h2 boot_abs, built_of X T h3 boot_range, built_of X T h4 PyProof.Rows.boot_type, built_of X T h5 PyProof.Rows.boot_list, built_of X T h6 PyProof.Rows.boot_int, built_of X T h7 PyProof.Rows.boot_bool⟩
end Mine
namespace Mine
open PySem PySem.Calls PySem.Spec PyProof.Rows

noncomputable abbrev frs (l : List Env) : List Addr := l.filterMap (·.frame)
/-- the state has grown; the frames may have got their slots -/
structure Gx (fs : List Addr) (s s' : Shared) : Prop where
  same : ∃ h tk, s' = { s with heap := h, toks := tk }
  other : ∀ b o, s.heap.get? b = some o → b ∉ fs → s'.heap.get? b = some o
  up : s.heap.UpToSlots s'.heap
theorem Gw.gx {s s' : Shared} {fs : List Addr} (x : Gw s s') : Gx fs s s' := ⟨x.same, fun b o e _ => x.le b o e, Heap.UpToSlots.of_keeps x.le⟩
theorem Gx.trans {a b c : Shared} {fs : List Addr} (x : Gx fs a b) (y : Gx fs b c) : Gx fs a c := by
  obtain ⟨⟨h, t, rfl⟩, k, u⟩ := x
  obtain ⟨⟨h', t', rfl⟩, k', u'⟩ := y
  exact ⟨⟨h', t', rfl⟩, fun p o e n => k' p o (k p o e n) n, u.trans u'⟩

theorem gone_sub {h h' : Heap} {l : List Addr} (k : Le h h') : Le (TI.gone h l) (TI.gone h' l) := fun b o e => by
  obtain ⟨n, e⟩ := TI.gone_some e
  rw [TI.gone_get n]; exact k b o e
theorem gone_le {h : Heap} {l : List Addr} : Le (TI.gone h l) h := fun b o e => (TI.gone_some e).2
theorem ff_base {h base base' : Heap} : ∀ {l : List Env}, h.FunFrames base l → (∀ b ∈ frs l, base'.get? b = none) → h.FunFrames base' l
  | [], _, _ => trivial
  | env :: rest, ⟨hk, ⟨L, o, hf, hn, ho, hd⟩, hr⟩, k => by
    have hm : ∀ b ∈ frs rest, b ∈ frs (env :: rest) := fun b hb => by
      show b ∈ List.filterMap _ _
      rw [List.filterMap_cons, hf]; exact .tail _ hb
    refine ⟨hk, ⟨L, o, hf, k L ?_, ho, hd⟩, ff_base hr fun b hb => k b (hm b hb)⟩
    show L ∈ List.filterMap _ _
    rw [List.filterMap_cons, hf]; exact .head _
theorem fly_base {h base base' : Heap} {l : List Env} {e : Addr} {cls a0 : Value} (x : Heap.FlyingW base l e cls a0 h) (k : Le base' base) : Heap.FlyingW base' l e cls a0 h := by
  have no : ∀ b, base.get? b = none → base'.get? b = none := fun b hb => by
    cases q : base'.get? b with
    | none => rfl
    | some o => rw [k b o q] at hb; cases hb
  obtain ⟨f1, f2, f3, oe, vs, T, oT, ts, he, hcls, hd, h1, hnT, r⟩ := x
  refine ⟨fun b o e => f1 b o (k b o e), no _ f2, ff_base f3 fun b hb => no b (f3.mem hb).1, oe, vs, T, oT, ts, he, hcls, hd, h1, no _ hnT, r⟩
/-- an exception is on its way, out to the frames l -/
noncomputable def Fly (l : List Env) (cls : Value) (s : Shared) (e : Value) (s' : Shared) : Prop :=
  ∃ a a0, e = .ref a ∧ Gx (frs l) s s' ∧ Heap.FlyingW (TI.gone s.heap (frs l)) l a cls a0 s'.heap
theorem Fly.before {l : List Env} {cls : Value} {s₀ s : Shared} {e : Value} {s' : Shared} (g : Gw s₀ s) (x : Fly l cls s e s') : Fly l cls s₀ e s' := by
  obtain ⟨a, a0, rfl, gx, fl⟩ := x
  exact ⟨a, a0, rfl, g.gx.trans gx, fly_base fl (gone_sub g.le)⟩

/-- a call that raises -/
noncomputable def FnX (W : Wd) (k : Nat) (f : Addr) (args : List V) (cls : Value) : Prop :=
  ∀ (A : Around) (h₀ : Heap) (L : Addr) (X : List Addr) (s : Shared) (vs : List Value) (l : List Env) (Q E : Value → Shared → Prop), Cn W k A h₀ L s.heap → A.frames = some l → (∀ a ∈ X, ∃ o, s.heap.get? a = some o) → RdA [] s.heap vs args →
    (∀ e s', Fly l cls s e s' → E e s') → wpAny (model W.prog W.w) A (call (.ref f) vs) Q E s
noncomputable def EvX (W : Wd) (A : Around) (env : Env) (h : Heap) (e : Expr) (cls : Value) : Prop :=
  ∀ (s : Shared) (l : List Env) (Q E : Value → Shared → Prop), Le h s.heap → A.frames = some l → (∀ e s', Fly l cls s e s' → E e s') → wpAny (model W.prog W.w) A (eval e env) Q E s

/-- what a body that raises leaves -/
inductive Rz (B : Bd) (cls : Value) (e : Value) (s' : Shared) : Prop
  | made (a : Addr) (h : Heap) (tk : Nat) (vs : List Value) : e = .ref a → s' = { B.s₀ with heap := s'.heap, toks := tk } → Cn B.W B.k B.A B.h₀ B.env.locals h → Heap.MadeExcOf h s'.heap a cls vs → Rz B cls e s'
  | on (s : Shared) : (∀ l, B.A.frames = some l → Fly l cls s e s') → (∃ h tk, s = { B.s₀ with heap := h, toks := tk }) → Cn B.W B.k B.A B.h₀ B.env.locals s.heap → Rz B cls e s'
noncomputable def TriX (B : Bd) (μ : Mu) (ρ : Rho) (body : List Stmt) (cls : Value) : Prop :=
  ∀ Kp γ s Q E, Sat B Kp γ μ ρ s → (∀ e s', Rz B cls e s' → E e s') → wpAny (model B.W.prog B.W.w) B.A (execs body B.env) Q E s
noncomputable def TrX1 (B : Bd) (μ : Mu) (ρ : Rho) (st : Stmt) (cls : Value) : Prop :=
  ∀ Kp γ s Q E, Sat B Kp γ μ ρ s → (∀ e s', Rz B cls e s' → E e s') → wpAny (model B.W.prog B.W.w) B.A (exec st B.env) Q E s

section
variable {B : Bd} {μ : Mu} {ρ : Rho} {cls : Value}
noncomputable abbrev SeqX (B : Bd) (rest : List Stmt) (cls : Value) : Fl → Mu → Rho → Prop := fun f m r => match f with
  | .next => TriX B m r rest cls
  | _ => False
theorem trix_next {st : Stmt} {rest : List Stmt} (h : Tr1 B μ ρ st (SeqX B rest cls)) : TriX B μ ρ (st :: rest) cls := fun Kp γ s Q E y hE => by
  refine wpAny_execs_cons (wpAny_mono (h Kp γ s E y) (fun fl s' o => ?_) fun _ _ e => e)
  obtain ⟨fd, m, r, a, b, c⟩ := o
  cases fl <;> cases fd <;> first | exact a.elim | exact c.elim | exact c Kp γ s' _ E b hE
theorem trix_here {st : Stmt} {rest : List Stmt} (h : TrX1 B μ ρ st cls) : TriX B μ ρ (st :: rest) cls := fun Kp γ s Q E y hE =>
  wpAny_execs_cons (h Kp γ s _ E y hE)
theorem trx_assign {x : Str} {p pos : Pos} {e : Expr} (he : ∀ Kp γ s, Sat B Kp γ μ ρ s → EvX B.W B.A B.env s.heap e cls) (hs : swapsWith e (some (.Name x p)) pos.line B.env = pure false := by rfl) : TrX1 B μ ρ (.Assign [.Name x p] e pos) cls := fun Kp γ s Q E y hE => by
  obtain ⟨A₀, base, outer, fenv, bl, hfr, _⟩ := y.cn.bel
  exact wpAny_Assign_Name (he Kp γ s y s _ _ E (Le.refl _) hfr fun e s' fl => hE e s' (.on s (fun l hl => by rw [hfr] at hl; cases hl; exact fl) y.same y.cn)) hs
end

/-- from a body that raises to a call that raises -/
theorem fnx_of {W : Wd} {k : Nat} {f : Addr} {fd : FuncData} {body : List Stmt} {ps : List Str} {args : List V} {cls : Value} (hd : W.defs f fd) (hbody : fd.body = .stmts body) (hclo : fd.closure = []) (hgl : fd.globals = mainGlobals) (hbl : fd.builtins = builtinsNs)
    (hbind : ∀ vs, vs.length = ps.length → bindArgs fd ⟨vs, []⟩ = pure (ps.zip vs)) (hps : ps.Nodup) (hlen : args.length = ps.length)
    (hkind : ∀ n, ∀ x ∈ ps, fd.scope.names.lookup x = some .local ∨ (fd.scope.names.lookup x = some .cell ∧ ((cellsFrom n fd.scope.names []).lookup x).isSome = true))
    (hnd : ((cellsFrom 0 fd.scope.names []).map (·.1)).Nodup) (hco : fd.scope.isCoroutine = false) (hgen : fd.scope.isGenerator = false) (hk : fd.scope.kind = .function)
    (h : ∀ B : Bd, B.W = W → B.k = k → EnvIs fd f B.env → TriX B [] (ps.zip (args.map tag)) body cls) : FnX W (k + 1) f args cls := by
  intro A h₀ L X s vs l Q E cn hl hX ra hE
  have gr := cn.here
  obtain ⟨o, ho, hdat, hcd⟩ := gr.defs f fd hd
  obtain ⟨A₀, base, outer, fenv, bl, hfr, hfL, hfk, hrt, hnf⟩ := cn.bel
  rw [hl] at hfr
  obtain rfl : l = fenv :: outer := Option.some.inj hfr
  obtain ⟨m, hm⟩ := cn.ns
  have F : Fr h₀ L s.heap m := ⟨hm, cn.keep, cn.above⟩
  have hB1 : Below A base (fenv :: outer) s.heap := by
    have hnew : base.get? L = none := by
      cases hq : base.get? L with
      | none => rfl
      | some o => exact absurd (Nat.lt_of_lt_of_le (Heap.lt_size (bl.stays L o hq)) F.above) (Nat.lt_irrefl _)
    exact ⟨hl, fun b o e => F.keep b o (bl.stays b o e), .cons (by rw [hfk]; decide) hfL F.ns hnew (bl.frames.of_keeps fun b o e _ => ⟨o, F.keep b o e, rfl⟩)⟩
  refine wpAny_call (call_core gr hB1 hrt (frames_ns hfL hm hnf cn.keep) cn.hand cn.room cn.units ho hdat hcd hX ra hbody hclo hgl hbl hbind hps hlen hkind hnd hco hgen hk ?_)
  rintro B s₁ rfl rfl he hA hh₀ rfl hs₀ sat
  have hBf : B.A.frames = some (B.env :: fenv :: outer) := by rw [hA]; exact Around.frames_deeper hl
  have hBe : B.env.frame = some B.env.locals := by obtain ⟨L', e⟩ := he.is; rw [e]; rfl
  have hBk : B.env.scope.kind = .function := by obtain ⟨L', e⟩ := he.is; rw [e]; exact hk
  have F0 : s.heap.FunFrames (TI.gone s.heap (frs (fenv :: outer))) (fenv :: outer) := ff_base hB1.frames fun b hb => TI.gone_none hb
  have no : ∀ b, s.heap.get? b = none → (TI.gone s.heap (frs (fenv :: outer))).get? b = none := fun b hb => by
    cases q : (TI.gone s.heap (frs (fenv :: outer))).get? b with
    | none => rfl
    | some o => rw [gone_le b o q] at hb; cases hb
  have Lnew : ∀ {h : Heap}, Cn B.W B.k B.A B.h₀ B.env.locals h → s.heap.get? B.env.locals = none := fun c => by
    cases q : s.heap.get? B.env.locals with
    | none => rfl
    | some o => exact absurd (Heap.lt_size q) (Nat.not_lt.mpr (hh₀ ▸ c.above))
  have FF : ∀ {h : Heap}, Cn B.W B.k B.A B.h₀ B.env.locals h → h.FunFrames (TI.gone s.heap (frs (fenv :: outer))) (B.env :: fenv :: outer) := fun {h} c => by
    obtain ⟨m, hm⟩ := c.ns
    exact .cons (by rw [hBk]; decide) hBe hm (no _ (Lnew c)) (F0.of_keeps fun b o e _ => ⟨o, c.keep b o (hh₀ ▸ e), rfl⟩)
  refine h B rfl rfl he _ _ s₁ _ _ sat fun e s' rz => ?_
  cases rz with
  | made a h' tk vs' e1 e2 c mx =>
    subst e1
    have L1 : Le s.heap h' := fun b o e => c.keep b o (hh₀ ▸ e)
    refine wpAny_leaves_madeW hBf hBe (fun b o e => L1 b o (gone_le b o e)) (FF c) mx fun h'' t fl _ _ up => hE _ _ ⟨a, _, rfl, ⟨?_, fun b o e n => ?_, ?_⟩, fl⟩
    · exact ⟨h'', tk, by rw [e2, hs₀]⟩
    · exact fl.1 b o ((TI.gone_get n).trans e)
    · exact (Heap.UpToSlots.of_keeps L1).trans ((Heap.UpToSlots.of_keeps mx.keeps).trans up)
  | on s₂ fl sm c =>
    obtain ⟨a, a0, rfl, gx, f2⟩ := fl _ hBf
    have L1 : Le s.heap s₂.heap := fun b o e => c.keep b o (hh₀ ▸ e)
    have lb : Le (TI.gone s.heap (frs (fenv :: outer))) (TI.gone s₂.heap (frs (B.env :: fenv :: outer))) := fun b o e => by
      obtain ⟨n, e⟩ := TI.gone_some e
      rw [TI.gone_get]
      · exact L1 b o e
      · intro hm
        have hm' : b ∈ List.filterMap (·.frame) (B.env :: fenv :: outer) := hm
        rw [List.filterMap_cons, hBe] at hm'
        rcases List.mem_cons.mp hm' with q | q
        · rw [q, Lnew c] at e; cases e
        · exact n q
    refine wpAny_leaves_onW hBf hBe (fly_base f2 lb) fun h'' fl' up => hE _ _ ⟨a, a0, rfl, ⟨?_, fun b o e n => ?_, ?_⟩, fl'⟩
    · obtain ⟨h1, t1, q1⟩ := sm
      obtain ⟨h2, t2, q2⟩ := gx.same
      exact ⟨h'', t2, by rw [q2, q1, hs₀]⟩
    · exact fl'.1 b o ((TI.gone_get n).trans e)
    · exact (Heap.UpToSlots.of_keeps L1).trans (gx.up.trans up)

theorem fnx_def {W : Wd} {k : Nat} {f : Addr} {name : Str} {st : Stmt} {doc pm cdv ct : Value} {an : Option Addr} {ps : List Str} {args : List V} {cls : Value} (hd : W.defs f (fdOf name st doc pm an cdv ct))
    (hbind : ∀ vs, vs.length = ps.length → bindArgs (fdOf name st doc pm an cdv ct) ⟨vs, []⟩ = pure (ps.zip vs)) (hps : ps.Nodup) (hlen : args.length = ps.length)
    (hkind : ∀ n, ∀ x ∈ ps, (fnScope st).names.lookup x = some .local ∨ ((fnScope st).names.lookup x = some .cell ∧ ((cellsFrom n (fnScope st).names []).lookup x).isSome = true))
    (hnd : ((cellsFrom 0 (fnScope st).names []).map (·.1)).Nodup) (hco : (fnScope st).isCoroutine = false) (hgen : (fnScope st).isGenerator = false) (hk : (fnScope st).kind = .function)
    (h : ∀ A h₀ L X₀ s₀, TriX ⟨W, k, A, h₀, callEnvC (fdOf name st doc pm an cdv ct) L f, X₀, s₀⟩ [] (ps.zip (args.map tag)) (fnBody st) cls) : FnX W (k + 1) f args cls :=
  fnx_of hd rfl rfl rfl rfl hbind hps hlen hkind hnd hco hgen hk (by
    rintro ⟨W', k', A, h₀, env, X₀, s₀⟩ rfl rfl ⟨L, rfl⟩
    exact h A h₀ L X₀ s₀)

section
variable {W : Wd} {k : Nat} {A : Around} {h₀ : Heap} {L : Addr} {env : Env} {X Y : List Addr} {h : Heap}
theorem evx_call {fn : Expr} {es : List Expr} {e : Expr} {pos : Pos} {f : Addr} {fd : FuncData} {ds : List V} {cls : Value} (c : Cx W k A h₀ L env X h) (hf : EvV W A env h fn (.ref f)) (ha : EvA W A env [] h pos (e :: es) ds) (hd : W.defs f fd) (hc : FnX W k f ds cls)
    (hs : starEach (e :: es) env = (false, eval e env) :: starEach es env := by rfl)
    (he : eval (.Call fn (e :: es) [] pos) env = (do callWith pos (← eval fn env) [] (backTo pos (starEach (e :: es) env)) (backToKw pos (keywordEach [] env))) := by rfl) : EvX W A env h (.Call fn (e :: es) [] pos) cls := fun s l Q E le hl g => by
  obtain ⟨o, ho, hdat, hcd⟩ := c.cn.here.defs f fd hd
  refine Call_ (hf s _ _ le fun s₁ g₁ => callWith_def hdat (ha s₁ _ _ (le.trans g₁.le) fun vs s₂ g₂ r₂ => ?_) hs) he
  have l₂ : Le h s₂.heap := le.trans (g₁.le.trans g₂.le)
  exact ⟨l₂ _ _ ho, hc A h₀ L X s₂ vs l Q E (c.cn.le l₂) hl (c.le l₂).xs r₂ fun e s' fl => g e s' (fl.before (g₁.trans g₂))⟩
end

/-- the function's own frame has got its slots -/
theorem Sat.gx {B : Bd} {Kp γ μ ρ s s'} (x : Sat B Kp γ μ ρ s) (g : Gx [B.env.locals] s s') : Sat B Kp γ μ ρ s' := by
  obtain ⟨⟨h', tk, rfl⟩, oth, up⟩ := g
  have hk : ∀ b o, b ≠ B.env.locals → s.heap.get? b = some o → h'.get? b = some o := fun b o n e => oth b o e (by simpa using n)
  obtain ⟨m₀, hm₀⟩ := x.cn.ns
  have sq : ∀ b o, s.heap.get? b = some o → IsSq o → h'.get? b = some o := fun b o e q => hk b o (fun z => ns_notSq hm₀ o (z ▸ e) q) e
  have mv : ∀ {X v d}, Rd X s.heap v d → Rd X h' v d := fun r => r.move fun b o e q hx => ⟨sq b o e q, hx⟩
  have mvA : ∀ {X v d}, RdA X s.heap v d → RdA X h' v d := fun r => r.move fun b o e q hx => ⟨sq b o e q, hx⟩
  have vr : ∀ {y v}, Var B.env s.heap y v → Var B.env h' y v := by
    rintro y v (⟨p, m, q, r⟩ | ⟨p, c, q, r⟩)
    · exact .inl ⟨p, m, up.ns q, r⟩
    · obtain ⟨o, e, hd⟩ := r
      exact .inr ⟨p, c, q, o, hk c o (x.wf.cl _ _ (mem_of_lookup q)) e, hd⟩
  refine ⟨x.wf, ⟨x.cn.gr, x.cn.bel, x.cn.above, x.cn.hand, x.cn.room, x.cn.units, fun b o e => ?_, ⟨m₀, up.ns hm₀⟩⟩, ?_, x.h₀kp, fun b o e => ?_, fun y c hm => ?_, fun q hq => mv (x.gam q hq), fun z d hz => ?_, fun q hq => ?_, x.nd⟩
  · exact hk b o (x.kp b o (x.h₀kp b o e)).2.1 (x.cn.keep b o e)
  · obtain ⟨h, t, e⟩ := x.same
    exact ⟨h', tk, by rw [e]⟩
  · have k := x.kp b o e
    exact ⟨hk b o k.2.1 k.1, k.2⟩
  · obtain ⟨v, o, e, hd⟩ := x.cells y c hm
    exact ⟨v, o, hk c o (x.wf.cl y c hm) e, hd⟩
  · obtain ⟨v, h1, h2⟩ := x.vars z d hz
    exact ⟨v, vr h1, h2.move mv mv⟩
  · obtain ⟨h1, h2, vs, n, h3, h4⟩ := x.muts q hq
    exact ⟨vr h1, h2, vs, n, sq _ _ h3 (.seq rfl), mvA h4⟩
end Mine
namespace Mine
open PySem PySem.Calls PySem.Spec PyProof.Rows

section
variable {B : Bd} {μ : Mu} {ρ : Rho} {Post : Fl → Mu → Rho → Prop} {cls : Value}
/-- a try whose body does not raise -/
theorem tri_tryN {body : List Stmt} {h₀ : ExceptHandler} {hs : List ExceptHandler} {pos : Pos} (h : Tri B μ ρ body Post) : Tr1 B μ ρ (.Try body (h₀ :: hs) [] [] pos) Post := fun Kp γ s E y => by
  refine wpAny_Try_except (wpAny_mono (h Kp γ s _ y) (fun fl s' o => ?_) fun _ _ e => e)
  cases fl <;> first | exact wpAny_execs_nil o | exact o

/-- the clauses of a try in the law's own frame -/
noncomputable def HdX (B : Bd) (μ : Mu) (ρ : Rho) (hs : List ExceptHandler) (cls : Value) (Post : Fl → Mu → Rho → Prop) : Prop :=
  ∀ Kp γ s₀ s E a a0, Sat B Kp γ μ ρ s₀ → Gx [B.env.locals] s₀ s → Heap.FlyingW (TI.gone s₀.heap [B.env.locals]) [B.env] a cls a0 s.heap → wpAny (model B.W.prog B.W.w) B.A (handleBy (.ref a) B.env hs) (Out B Kp γ Post) E s

theorem fly_gx {B : Bd} {s₀ s : Shared} {h' : Heap} {a : Addr} {a0 : Value} {L : List Env} (g : Gx [B.env.locals] s₀ s) (st : (TI.gone s₀.heap [B.env.locals]).StaysIn h') (up : s.heap.UpToSlots h') : Gx [B.env.locals] s₀ { s with heap := h' } := by
  obtain ⟨⟨h1, t1, rfl⟩, o, u⟩ := g
  exact ⟨⟨h', t1, rfl⟩, fun b o' e n => st b o' ((TI.gone_get n).trans e), u.trans up⟩

theorem tri_tryX {x : Str} {p apos pos : Pos} {e : Expr} {h₀ : ExceptHandler} {hs : List ExceptHandler} (hfr : B.A.frames = some [B.env]) (hf : B.env.frame = some B.env.locals) (he : ∀ Kp γ s, Sat B Kp γ μ ρ s → EvX B.W B.A B.env s.heap e cls) (hh : HdX B μ ρ (h₀ :: hs) cls Post)
    (hsw : swapsWith e (some (.Name x p)) apos.line B.env = pure false := by rfl) : Tr1 B μ ρ (.Try [.Assign [.Name x p] e apos] (h₀ :: hs) [] [] pos) Post := fun Kp γ s E y => by
  have hfs : frs [B.env] = [B.env.locals] := by show List.filterMap _ _ = _; rw [List.filterMap_cons, hf]; rfl
  refine wpAny_Try_except (wpAny_execs_cons (wpAny_Assign_Name (he Kp γ s y s _ _ _ (Le.refl _) hfr fun e' s₁ fl => ?_) hsw))
  obtain ⟨a, a0, rfl, gx, fw⟩ := fl
  rw [hfs] at gx fw
  refine wpAny_looks_onW hfr hf fw fun h₁ held up => wpAny_landsW held fun h₂ fw' up' => ?_
  exact hh Kp γ s _ E a a0 y (fly_gx (L := []) (a := a) (a0 := a0) (fly_gx (L := []) (a := a) (a0 := a0) gx held.1 up) fw'.1 up') fw'

theorem run_suite {M : Model} {a : Addr} {A : Around} {x : Str} {px apos : Pos} {c : Expr} {d : V} {Kp γ s₀ s} {a0 : Value} {E : Value → Shared → Prop} (y : Sat B Kp γ μ ρ s₀) (gx : Gx [B.env.locals] s₀ s) (fw : Heap.FlyingW (TI.gone s₀.heap [B.env.locals]) [B.env] a cls a0 s.heap)
    (hx : B.env.kindOf x = some .local ∨ (B.env.kindOf x = some .cell ∧ (B.env.cells.lookup x).isSome = true)) (hc : ∀ (s : Shared) (Q E : Value → Shared → Prop), (∀ v s', Gw s s' → Rd (μ.at ++ B.X₀) s'.heap v d → Q v s') → wpAny M A (eval c B.env) Q E s)
    (h : Post .next μ ((x, d) :: ρ)) (hn : μ.names.contains x = false) (hs : swapsWith c (some (.Name x px)) apos.line B.env = pure false) :
    wpAny M A (setFlight (.ref a) none) (fun _ s₂ => wpAny M A (execs [.Assign [.Name x px] c apos] B.env) (Out B Kp γ Post) E s₂) E s := by
  refine lands_againW fw fun h' fw' up => ?_
  have y' := y.gx (fly_gx (L := []) (a := a) (a0 := a0) gx fw'.1 up)
  refine wpAny_execs_cons (wpAny_Assign_Name (hc _ _ _ fun v s' g r => ?_) hs)
  have y₂ := y'.gw g
  exact store_any y₂.wf.ek y₂.wf.apart y₂.wf.cl y₂.cn.ns y₂.cells hx fun h'' tk b st => wpAny_execs_nil ⟨.next, _, _, trivial, y₂.stored st (.of r) (notin hn), h⟩

theorem any_str {M : Model} {env : Env} {X : List Addr} {i : Str} {n : Nat} {pos : Pos} : ∀ (A : Around) (s : Shared) (Q E : Value → Shared → Prop), (∀ v s', Gw s s' → Rd X s'.heap v (.str i) → Q v s') → wpAny M A (eval (.Constant (.str i) n pos) env) Q E s := fun A s Q E f => Constant_str (f _ _ (Gw.toks s _) (.str _ _))
theorem any_none {M : Model} {env : Env} {X : List Addr} {n : Nat} {pos : Pos} : ∀ (A : Around) (s : Shared) (Q E : Value → Shared → Prop), (∀ v s', Gw s s' → Rd X s'.heap v .none → Q v s') → wpAny M A (eval (.Constant .none n pos) env) Q E s := fun A s Q E f => Constant_none (f _ _ (Gw.refl s) .none)
end

section
variable {W : Wd} {k : Nat} {A : Around} {h₀ : Heap} {L : Addr} {env : Env} {X Y : List Addr} {h : Heap}
theorem foldl_app : ∀ (n : Nat) (l : List Value) (a : Array Value), List.foldl (fun x1 x2 => x1 ++ x2) a (List.replicate n l.toArray) = a ++ (List.replicate n l).flatten.toArray
  | 0, l, a => by simp
  | n + 1, l, a => by
    rw [List.replicate_succ, List.foldl_cons, foldl_app n l, List.replicate_succ, List.flatten_cons]
    simp
theorem RdA.rep {vs : List Value} {ds : List V} (r : RdA X h vs ds) : ∀ n : Nat, RdA X h (List.replicate n vs).flatten (List.replicate n ds).flatten
  | 0 => .nil
  | n + 1 => by rw [List.replicate_succ, List.replicate_succ, List.flatten_cons, List.flatten_cons]; exact r.append (RdA.rep r n)
/-- a list of one item, many times -/
theorem evf_mul {l r : Expr} {pos : Pos} {d : V} {x : Int} (c : Cx W k A h₀ L env X h) (hl : Ev W A env X h l (.lst [d])) (hr : Ev W A env [] h r (.int x)) (hlo : -(2 ^ 62) ≤ x) (hz : x ≤ 2 ^ 24) : EvF W A env X h (.BinOp l .Mult r pos) (List.replicate x.toNat d) := fun s Q E le f =>
  wpAny_BinOp (hl s _ _ le fun u s₁ g₁ r₁ => hr s₁ _ _ (le.trans g₁.le) fun v s₂ g₂ r₂ => by
    have r₁' := r₁.le g₂.le
    obtain ⟨tk, rfl⟩ := r₂.int_inv
    obtain ⟨a, vs, n, rfl, ea, _, ra⟩ := r₁'.lst_inv
    have hvl : vs.length = 1 := ra.length
    have hne : vs.toArray.isEmpty = false := by
      obtain ⟨v1, r1, e1, _⟩ := len_cons hvl
      rw [e1]; rfl
    have hsz : vs.toArray.size * x.toNat ≤ 2 ^ 24 := by rw [List.size_toArray, hvl]; lia
    refine wpAny_binaryOp_repeat_ref (T := "list") (U := "int") (by decide) ⟨_, ea, rfl⟩ (fun s' => typeIs_int s' x tk) noFill_list_mul F.fills_int_mul F.slot_int_rmul repeat_list F.slot_int_index.lookup
      (call_meets F.slot_int_rmul (typeIs_int s₂ x tk) F.entry_int_rmul (F.args_int_rmul_2 _ _) (int___rmul___int_list x tk a vs.toArray n)
      ⟨ea, rfl, ⟨_, ea, rfl⟩, call_meets F.slot_list_mul ⟨_, ea, rfl⟩ F.entry_list_mul (F.args_list_mul_2 _ _)
        (AutoListH.list___mul___list_int_3 a vs.toArray n x tk (by simp [Builtin.List.listFitsIndex]; lia) (by lia) (by simp [Builtin.List.listTooLong, sizeLine]; rw [List.size_toArray] at hsz; lia))
        ⟨ea, ?_⟩⟩)
    rw [hne, foldl_app]
    have l2 : Le h s₂.heap := le.trans (g₁.le.trans g₂.le)
    have rr : RdA X s₂.heap (List.replicate x.toNat vs).flatten (List.replicate x.toNat d) := by
      have := ra.rep x.toNat
      rwa [show (List.replicate x.toNat [d]).flatten = List.replicate x.toNat d by simp] at this
    have e : (#[] : Array Value) ++ (List.replicate x.toNat vs).flatten.toArray = (List.replicate x.toNat vs).flatten.toArray := by simp
    simp only [Bool.false_eq_true, if_false]
    rw [e]
    exact f _ (List.replicate x.toNat vs).flatten 0 _ (g₁.trans (g₂.trans (Gw.push s₂ _))) (le_fresh (g := h) (g₁.le.trans g₂.le)) (Heap.get?_push_size _ rfl) (c.fresh l2) (rr.le (Le.push _)) (rr.past _))
end
end Mine
namespace Mine
open PySem PySem.Calls PySem.Spec PyProof.Rows

noncomputable def zints (ns : List Int) : List V := ns.map .int
theorem ints_len (ns : List Int) : (zints ns).length = ns.length := List.length_map ..
theorem ints_get {ns : List Int} {i : Int} (h0 : 0 ≤ i) (h : i < ns.length) : (zints ns)[i.toNat]? = some (.int (ns.getD i.toNat 0)) := by
  unfold zints
  rw [List.getElem?_map, List.getD_eq_getElem?_getD, List.getElem?_eq_getElem (by lia)]; rfl
theorem cat_ints {a b : List Int} : zints a ++ zints b = zints (a ++ b) := (List.map_append ..).symm
theorem flat_ints {a : List Int} : ∀ x ∈ zints a, x.flat = true := fun x hx => by
  obtain ⟨i, _, rfl⟩ := List.mem_map.mp hx
  rfl
section
variable {B : Bd} {μ : Mu} {ρ : Rho} {Kp : Addr → Obj → Prop} {γ : List (Value × V)} {s : Shared}
/-- a call of a def of the program -/
theorem ev_fn {name : Str} {st : Stmt} {es : List Expr} {e : Expr} {p pos : Pos} {ds : List V} {d : V} {X : List Addr} (y : Sat B Kp γ μ ρ s) (H : HasDef B.W name st) (hc : ∀ f doc pm an cdv ct, B.W.defs f (fdOf name st doc pm an cdv ct) → FnC B.W B.k f ds d) (hX : ∀ a ∈ X, a ∈ μ.at ++ B.X₀) (ha : EvA B.W B.A B.env [] s.heap pos (e :: es) ds)
    (hx : B.env.kindOf name = some .globalImplicit := by rfl) (hdb : (name == ("__debug__" : Str)) = false := by decide) (hs : starEach (e :: es) B.env = (false, eval e B.env) :: starEach es B.env := by rfl)
    (hev : eval (.Call (.Name name p) (e :: es) [] pos) B.env = (do callWith pos (← eval (.Name name p) B.env) [] (backTo pos (starEach (e :: es) B.env)) (backToKw pos (keywordEach [] B.env))) := by rfl) :
    Ev B.W B.A B.env X s.heap (.Call (.Name name p) (e :: es) [] pos) d := by
  obtain ⟨f, doc, pm, an, cdv, ct, h1, h2⟩ := H
  have cx := y.cx.sub hX
  exact ev_call cx (evv_glob cx h2 hx hdb) ha h1 (hc f doc pm an cdv ct h1) hs hev
theorem evx_fn {name : Str} {st : Stmt} {es : List Expr} {e : Expr} {p pos : Pos} {ds : List V} {cls : Value} {X : List Addr} (y : Sat B Kp γ μ ρ s) (H : HasDef B.W name st) (hc : ∀ f doc pm an cdv ct, B.W.defs f (fdOf name st doc pm an cdv ct) → FnX B.W B.k f ds cls) (hX : ∀ a ∈ X, a ∈ μ.at ++ B.X₀) (ha : EvA B.W B.A B.env [] s.heap pos (e :: es) ds)
    (hx : B.env.kindOf name = some .globalImplicit := by rfl) (hdb : (name == ("__debug__" : Str)) = false := by decide) (hs : starEach (e :: es) B.env = (false, eval e B.env) :: starEach es B.env := by rfl)
    (hev : eval (.Call (.Name name p) (e :: es) [] pos) B.env = (do callWith pos (← eval (.Name name p) B.env) [] (backTo pos (starEach (e :: es) B.env)) (backToKw pos (keywordEach [] B.env))) := by rfl) :
    EvX B.W B.A B.env s.heap (.Call (.Name name p) (e :: es) [] pos) cls := by
  obtain ⟨f, doc, pm, an, cdv, ct, h1, h2⟩ := H
  have cx := y.cx.sub hX
  exact evx_call cx (evv_glob cx h2 hx hdb) ha h1 (hc f doc pm an cdv ct h1) hs hev
end
theorem sub_nil {X : List Addr} : ∀ a ∈ ([] : List Addr), a ∈ X := fun _ h => (nomatch h)
theorem sub_self {X : List Addr} : ∀ a ∈ X, a ∈ X := fun _ h => h
theorem sub_l {X Y : List Addr} : ∀ a ∈ X, a ∈ X ++ Y := fun _ h => List.mem_append.mpr (.inl h)
theorem sub_r {X Y : List Addr} : ∀ a ∈ Y, a ∈ X ++ Y := fun _ h => List.mem_append.mpr (.inr h)
end Mine
namespace Mine
open PySem PySem.Calls PySem.Spec PyProof.Rows

/-- a comprehension's run, whatever comes of its list -/
noncomputable def CompR (W : Wd) (A : Around) (env : Env) (X : List Addr) (h : Heap) (e iter : Expr) (scope : Scope) (cl : List (Str × Addr)) (ds : List V) : Prop :=
  ∀ (RR : Value → Addr → Result → Shared → Prop) (s : Shared) (E : Value → Shared → Prop), Le h s.heap →
    (∀ D C ys mm m' s', Gw s s' → s.heap.get? D = none → s.heap.get? C = none → C ≠ D → s'.heap.Ns C m' → s'.heap.get? D = some (lstO ys mm) → D ∉ X → RdA (D :: X) s'.heap ys ds → RR (.ref D) C (.ok .next) s') →
    wpAny (model W.prog W.w) A (eval iter env) (fun xv s₁ => wpAny (model W.prog W.w) A (pyIter xv) (fun it s₂ => wpAny (model W.prog W.w) A (newList []) (fun acc s₃ =>
      wpAny (model W.prog W.w) A (newFunctionEnv scope env.globals cl [] env.qual none .none (some env)) (fun cenv s₄ =>
        codeAny (model W.prog W.w) A (.compStart e 0 it acc { cenv with scope := relabel scope env }) (RR acc cenv.locals) s₄) E s₃) E s₂) E s₁) E s

section
variable {W : Wd} {k : Nat} {A : Around} {h₀ : Heap} {L : Addr} {env : Env} {X Y : List Addr} {h : Heap}
theorem comp_r {elt iter : Expr} {x : Str} {px pos : Pos} {ifs : List Expr} {scope : Scope} {cl : List (Str × Addr)} {n : Nat} {it : Nat → V} (b : Nat → Bool) (g : Nat → V) (c : Cx W k A h₀ L env X h)
    (hclos : closureFor scope env = pure cl) (hcell : ∀ y ∈ scope.names, y.2 ≠ .cell) (hkind : scope.kind = .function) (hnames : ∀ y ∈ scope.names, y.2 = .local → scope.names.lookup y.1 = some .local) (hx : scope.names.lookup x = some .local)
    (hsrc : Src W A env X h iter n it) (hn : n ≤ sizeLine)
    (tests : ∀ i C v s E (Q : Bool → Shared → Prop), i < n → Le h s.heap → Cx W k A h₀ L (compEnvC scope cl C env) X s.heap → Var (compEnvC scope cl C env) s.heap x v → Rd X s.heap v (it i) → (∀ s', Gw s s' → Q (b i) s') →
      wpAny (model W.prog W.w) A (forIn ifs true fun c r => if r = true then do let ok ← isTrue c (compEnvC scope cl C env) (eval c (compEnvC scope cl C env)); pure (ForInStep.yield ok) else pure (ForInStep.yield r)) Q E s)
    (helt : ∀ i C v h', i < n → b i = true → Le h h' → Cx W k A h₀ L (compEnvC scope cl C env) X h' → Var (compEnvC scope cl C env) h' x v → Rd X h' v (it i) → Ev W A (compEnvC scope cl C env) X h' elt (g i))
    (hg : ∀ i, i < n → (g i).flat = true) : CompR W A env X h (.ListComp elt [⟨.Name x px, iter, ifs, 0⟩] scope pos) iter scope cl (picked n b g) := fun RR s E l fin =>
  comp_gen b g c hclos hcell hkind hnames hx hsrc hn tests (fun i C D v h' hi hb l _ cx vx r => (helt i C v h' hi hb l (cx.sub fun a ha => .tail _ ha) vx r).flat (hg i hi)) RR l fin
end

section
variable {B : Bd} {μ : Mu} {ρ : Rho} {Post : Fl → Mu → Rho → Prop}
/-- a comprehension's list stored at once into a local name -/
theorem tri_assignC {elt tgt iter : Expr} {ifs : List Expr} {gs : List Comprehension} {scope : Scope} {cl : List (Str × Addr)} {y : Str} {py pos spos : Pos} {ds : List V} (hx : B.env.kindOf y = some .local ∨ (B.env.kindOf y = some .cell ∧ (B.env.cells.lookup y).isSome = true))
    (hsw : swapsWith (.ListComp elt (⟨tgt, iter, ifs, 0⟩ :: gs) scope pos) (some (.Name y py)) spos.line B.env = pure true) (hclos : closureFor scope B.env = pure cl) (hkind : scope.kind = .function) (hnames : ∀ z ∈ scope.names, z.2 = .local → scope.names.lookup z.1 = some .local)
    (he : ∀ Kp γ s, Sat B Kp γ μ ρ s → CompR B.W B.A B.env (μ.at ++ B.X₀) s.heap (.ListComp elt (⟨tgt, iter, ifs, 0⟩ :: gs) scope pos) iter scope cl ds) (h : Post .next μ ((y, .lst ds) :: ρ)) (hn : μ.names.contains y = false := by rfl)
    (hs : ∀ x, foldedSetIterable iter B.env x = pure x := by intro _; rfl) : Tr1 B μ ρ (.Assign [.Name y py] (.ListComp elt (⟨tgt, iter, ifs, 0⟩ :: gs) scope pos) spos) Post := fun Kp γ s E yS => by
  rw [exec_Assign_Name_used _ _ _ _ hsw]
  refine wpAny_bind (wpAny_standAt (wpAny_bind ?_))
  show wpAny _ B.A (do let _ ← comprehension (.ListComp elt (⟨tgt, iter, ifs, 0⟩ :: gs) scope pos) scope B.env _ (newList []) false (eval iter B.env) (some (assign (.Name y py) B.env))) _ _ s
  refine wpAny_bind (wpAny_mono (wpAny_comprehension_free (use := some (assign (.Name y py) B.env)) (Q := fun _ s' => Out B Kp γ Post .next s') rfl hs hclos hkind hnames
    (he Kp γ s yS (fun acc C => compPost (model B.W.prog B.W.w) B.A E (some (assign (.Name y py) B.env)) (fun _ s' => Out B Kp γ Post .next s') acc C) s E (Le.refl _) fun D C ys mm m' s' gw hD hC hCD hn' eD hDX rr => ?_)) (fun _ s' hq => wpAny_pure (wpAny_pure hq)) fun _ _ e => e)
  show wpAny _ B.A (assign (.Name y py) B.env (.ref D)) _ _ s'
  have y₁ := yS.gw gw
  have ap := new_apart yS hC
  refine wpAny_assign_Name (store_sat y₁ hx fun h₂ tk a st => ?_)
  have y₂ := y₁.stored (tk := tk) (d := .lst ds) st (.of (.lst eD hDX (rr.sub fun a ha => .tail _ ha))) (notin hn)
  have aC : C ≠ a := by
    rintro rfl
    rcases st.slot with q | ⟨z, q⟩
    · exact ap.1 q
    · exact ap.2.1 z q
  have hnC : h₂.Ns C m' := hn'.sameBut st.but aC
  refine ⟨m', hnC, fun h₃ hs₃ => ⟨.next, _, _, trivial, ?_, h⟩⟩
  exact y₂.ext (a := C) (h' := h₃) (tk := tk) (fun b o hb e => hs₃.extBut b o hb e) ap.1 ap.2.1 ap.2.2.1 (ns_notSq hnC)

/-- an item of a list of the function's own is stored -/
theorem tri_setitem {x : Str} {a : Addr} {ds : List V} {i e : Expr} {j : Int} {d : V} {px pos' pos : Pos} {μ₁ μ₂ : Mu} (hμ : μ = μ₁ ++ (x, a, ds) :: μ₂) (he : Es B μ ρ (μ.at ++ B.X₀) e d) (hi : Es B μ ρ [] i (.int j)) (h0 : 0 ≤ j) (hj : j < 2 ^ 62) (hjl : j < ds.length) (h : Post .next (μ₁ ++ (x, a, ds.set j.toNat d) :: μ₂) ρ)
    (hd : (x == ("__debug__" : Str)) = false := by decide) (hs : swapsWith e (some (.Subscript (.Name x px) i pos')) pos.line B.env = pure false := by rfl) :
    Tr1 B μ ρ (.Assign [.Subscript (.Name x px) i pos'] e pos) Post := fun Kp γ s E y => by
  subst hμ
  refine wpAny_Assign_Subscript (he Kp γ s y s _ _ (Le.refl _) fun v s₁ g₁ r₁ => ?_) hs
  have y₁ := y.gw g₁
  obtain ⟨hva, hax, vs, n, ea, ra⟩ := y₁.muts (x, a, ds) (by simp)
  have go : wpAny (model B.W.prog B.W.w) B.A (loadName B.env x) (fun ov s₂ => ov = .ref a ∧ s₂ = s₁) E s₁ := by
    rcases hva with ⟨p, m, q, r⟩ | ⟨p | ⟨p, p'⟩, c, q, r⟩
    · exact wpAny_loadName_local y.wf.ek p q r ⟨rfl, rfl⟩
    · exact wpAny_loadName_cell y.wf.ek p q r ⟨rfl, rfl⟩
    · exact wpAny_loadName_free y.wf.ek p q r ⟨rfl, rfl⟩ p'
  refine wpAny_Name (wpAny_mono go (fun ov s₂ q => ?_) fun _ _ e => e) hd
  obtain ⟨rfl, rfl⟩ := q
  refine hi Kp γ s₂ y₁ s₂ _ _ (Le.refl _) fun w s₃ g₃ r₃ => ?_
  obtain ⟨tk, rfl⟩ := r₃.int_inv
  refine PySem.W.ki_setAt (n := n) (g₃.le _ _ ea) h0 (by lia) (by rw [List.size_toArray, ra.length]; exact hjl) ?_
  have e2 : (s₃.heap.update a (Obj.mapSeq (·.setIfInBounds j.toNat v))).get? a = some (lstO (vs.set j.toNat v) n) := by
    rw [PySem.IsL.update (g₃.le _ _ ea) _]
    simp
  exact ⟨.next, _, _, trivial, (y₁.gw g₃).mutate (tk := s₃.toks) (Heap.SameBut.update ..) e2 ((ra.le g₃.le).set (r₁.le g₃.le) _), h⟩
end

section
variable {W : Wd} {k : Nat} {A : Around} {h₀ : Heap} {L : Addr} {env : Env} {X Y : List Addr} {h : Heap}
/-- list(x) -/
theorem evf_copy {fn e : Expr} {pos : Pos} {ds : List V} (c : Cx W k A h₀ L env X h) (hf : EvV W A env h fn (.type "list")) (ha : Ev W A env Y h e (.lst ds)) (hY : ∀ (s' : Heap) vs, RdA Y s' vs ds → RdA X s' vs ds) (hz : ds.length ≤ sizeLine) (hs : starEach [e] env = [(false, eval e env)] := by rfl)
    (he : eval (.Call fn [e] [] pos) env = (do callWith pos (← eval fn env) [] (backTo pos (starEach [e] env)) (backToKw pos (keywordEach [] env))) := by rfl) : EvF W A env X h (.Call fn [e] [] pos) ds := fun s Q E l f =>
  Call_ (hf s _ _ l fun s₁ g₁ => by
    rw [hs]
    refine PySem.callWith_type rfl (Calls.evalArgs_plain (Calls.spliced_cons (ha s₁ _ _ (l.trans g₁.le) fun v s₂ g₂ r₂ => Calls.spliced_nil ?_)))
    obtain ⟨a, vs, n, rfl, ea, _, ra⟩ := r₂.lst_inv
    refine call_list_seq a (.inl rfl) ea rfl rfl (fun h' c' hk hD => ?_) (by rw [List.size_toArray, ra.length]; exact hz)
    have l2 : Le h s₂.heap := l.trans (g₁.le.trans g₂.le)
    have rx := hY _ _ ra
    exact f _ vs c' _ (g₁.trans (g₂.trans ⟨⟨h', s₂.toks, rfl⟩, hk⟩)) (le_fresh (g := h) (g₁.le.trans g₂.le)) hD (c.fresh l2) (rx.le hk) (rx.move fun b o e _ hx => ⟨hk b o e, fun z => (List.mem_cons.mp z).elim (fun q => absurd (Heap.lt_size e) (q ▸ Nat.lt_irrefl _)) hx⟩)) he

/-- a part of a slice: absent or an int -/
noncomputable def EvP (W : Wd) (A : Around) (env : Env) (h : Heap) (p : Option Expr) (x : Option Int) : Prop := match p, x with
  | none, none => True
  | some e, some i => Ev W A env [] h e (.int i)
  | _, _ => False
theorem evp_run {p : Option Expr} {x : Option Int} (hp : EvP W A env h p x) {s : Shared} {Q E : Value → Shared → Prop} (l : Le h s.heap) (f : ∀ v s', Gw s s' → IsPart v x → Q v s') : wpAny (model W.prog W.w) A (evalPart p env) Q E s := by
  match p, x, hp with
  | none, none, _ => exact wpAny_pure (f _ _ (Gw.refl s) .none)
  | some e, some i, hp => exact hp s _ _ l fun v s' g r => by obtain ⟨_, rfl⟩ := r.int_inv; exact f _ _ g (.int _ _)
/-- the part of a list that a slice takes (nothing below nought) -/
noncomputable def cut {α : Type} (ds : List α) (lo hi : Option Int) : List α := (hi.elim ds fun y => ds.take y.toNat).drop (lo.elim 0 Int.toNat)
theorem drop_min {α : Type} {l : List α} {a n : Nat} (h : l.length ≤ n) : l.drop (min a n) = l.drop a := by
  rcases Nat.le_total a n with q | q
  · rw [Nat.min_eq_left q]
  · rw [Nat.min_eq_right q, List.drop_of_length_le h, List.drop_of_length_le (Nat.le_trans h q)]
theorem pick_cut {vs : List Value} {lo hi : Option Int} (h1 : ∀ x, lo = some x → 0 ≤ x) (h2 : ∀ y, hi = some y → 0 ≤ y) : PySem.W.kms_pick vs lo hi = cut vs lo hi := by
  unfold PySem.W.kms_pick
  rw [← List.drop_take]
  have e2 : vs.take (PySem.W.kms_hi hi vs.length) = hi.elim vs fun y => vs.take y.toNat := by
    cases hi with
    | none => exact List.take_length
    | some y =>
      show vs.take (if y < 0 then _ else _) = _
      rw [if_neg (Int.not_lt.mpr (h2 y rfl))]
      exact PySem.W.kmk_take_min vs _
  rw [e2]
  unfold cut
  cases lo with
  | none => rfl
  | some x =>
    show List.drop (if x < 0 then _ else _) _ = List.drop x.toNat _
    rw [if_neg (Int.not_lt.mpr (h1 x rfl))]
    refine drop_min ?_
    cases hi with
    | none => exact Nat.le_refl _
    | some y => exact List.length_take_le' _ _
theorem rda_pick {vs : List Value} {ds : List V} {lo hi : Option Int} (r : RdA X h vs ds) (h1 : ∀ x, lo = some x → 0 ≤ x) (h2 : ∀ y, hi = some y → 0 ≤ y) : ∃ ws, slicePick vs.toArray lo hi none = ws.toArray ∧ RdA X h ws (cut ds lo hi) := by
  refine ⟨_, PySem.W.kms_pick_eq _ lo hi, ?_⟩
  rw [pick_cut h1 h2]
  unfold cut
  cases hi with
  | none => exact r.drop _
  | some y => exact (r.take _).drop _
theorem evf_slice {v : Expr} {lo hi : Option Expr} {sp pos : Pos} {ds : List V} {x y : Option Int} (c : Cx W k A h₀ L env X h) (hv : Ev W A env Y h v (.lst ds)) (hlo : EvP W A env h lo x) (hhi : EvP W A env h hi y) (h1 : ∀ i, x = some i → 0 ≤ i) (h2 : ∀ i, y = some i → 0 ≤ i) (hY : ∀ (s' : Heap) vs, RdA Y s' vs ds → RdA X s' vs ds) (hz : ds.length ≤ sizeLine)
    (hs : ∀ l b, subscripted (.Slice lo hi none sp) false (.ref l) (.ref b) = operate [.ref b, .ref l] (getItem (.ref l) (.ref b)) := by intro _ _; with_unfolding_all rfl) : EvF W A env X h (.Subscript v (.Slice lo hi none sp) pos) (cut ds x y) := fun s Q E l f =>
  Subscript_ (hv s _ _ l fun o s₁ g₁ r₁ => wpAny_Slice (evp_run hlo (l.trans g₁.le) fun vl s₂ g₂ p₂ => evp_run hhi (l.trans (g₁.le.trans g₂.le)) fun vu s₃ g₃ p₃ => by
    rw [evalPart_none]
    refine wpAny_pure ?_
    have g := g₁.trans (g₂.trans g₃)
    have l2 : Le h s₃.heap := l.trans g.le
    have r := r₁.le (g₂.le.trans g₃.le)
    obtain ⟨a, vs, n, rfl, ea, _, ra⟩ := r.lst_inv
    have hl : s₃.heap.IsList a vs.toArray := ⟨_, ea, rfl, n, rfl⟩
    obtain ⟨ws, e1, rw'⟩ := rda_pick (hY _ _ ra) h1 h2
    refine tail_any (Heap.IsList.typeIs (s := { s₃ with heap := s₃.heap.push { cls := .type "slice", data := .fields #[vl, vu, .none] } }) (hl.push _)) list_getitem_lookup (wpAny_getItem_list_slice (hl.push _) (Heap.IsSliceOf.new ..) p₂ p₃ .none (by simp) ?_ (by rw [List.size_toArray, ra.length]; exact hz)) (hs _ _)
    rw [e1]
    have gg := g.trans (Gw.push s₃ { cls := .type "slice", data := .fields #[vl, vu, .none] })
    have rr := rw'.le (Le.push (h := s₃.heap) { cls := .type "slice", data := .fields #[vl, vu, .none] })
    exact f _ ws 0 _ (gg.trans (Gw.push _ _)) (le_fresh (g := h) gg.le) (Heap.get?_push_size _ rfl) (c.fresh (l.trans gg.le)) (rr.le (Le.push _)) (rr.past _)))

theorem str_eq_iff {a b : Str} : (a.cps.toList == b.cps.toList) = decide (a = b) := by
  by_cases h : a = b
  · subst h; simp
  · have : a.cps.toList ≠ b.cps.toList := fun e => h (by cases a; cases b; simpa using e)
    rw [decide_eq_false h]
    exact beq_eq_false_iff_ne.mpr this
theorem bt_eqS {l r : Expr} {pos : Pos} {a b : Str} (ha : Ev W A env [] h l (.str a)) (hb : Ev W A env [] h r (.str b)) (hm : behindInMarks .Eq r = false := by with_unfolding_all rfl) : Bt W A env h (.Compare l [.Eq] [r] pos) (decide (a = b)) :=
  bt_cmp ha hb (fun s u v Q E _ ru rv f => by obtain ⟨_, rfl⟩ := ru.str_inv; obtain ⟨_, rfl⟩ := rv.str_inv; exact PySem.P.eq_str (by rw [str_eq_iff]; exact f _ (Gw.refl s))) hm
/-- a text -/
noncomputable def EvS (W : Wd) (A : Around) (env : Env) (h : Heap) (e : Expr) (n : Nat) : Prop := ∃ x : Str, x.length ≤ n ∧ Ev W A env [] h e (.str x)
theorem evs_const {x : Str} {n : Nat} {pos : Pos} : EvS W A env h (.Constant (.str x) n pos) x.length := ⟨x, Nat.le_refl _, ev_str⟩
theorem evs_add {l r : Expr} {pos : Pos} {n m : Nat} (ha : EvS W A env h l n) (hb : EvS W A env h r m) (hz : n + m ≤ sizeLine) : EvS W A env h (.BinOp l .Add r pos) (n + m) := by
  obtain ⟨x, h1, ha⟩ := ha
  obtain ⟨z, h2, hb⟩ := hb
  have hl : (x ++ z).length = x.length + z.length := by first | exact Str.length_append .. | (show (x.cps ++ z.cps).size = _; simp; rfl)
  refine ⟨if x.length == 0 then z else if z.length == 0 then x else x ++ z, ?_, ev_bin ha hb fun s u v Q E _ ru rv f => ?_⟩
  · split
    · lia
    · split
      · lia
      · rw [hl]; lia
  · obtain ⟨_, rfl⟩ := ru.str_inv; obtain ⟨_, rfl⟩ := rv.str_inv
    refine PySem.P.add_str ?_
    by_cases c1 : (x.length == 0) = true
    · rw [if_pos c1] at f ⊢
      exact f _ _ (Gw.refl s) (.str _ _)
    · rw [if_neg c1] at f ⊢
      by_cases c2 : (z.length == 0) = true
      · rw [if_pos c2] at f ⊢
        exact f _ _ (Gw.refl s) (.str _ _)
      · rw [if_neg c2] at f ⊢
        exact ⟨by rw [hl]; lia, f _ _ (Gw.toks s _) (.str _ _)⟩
theorem evs_int {fn e : Expr} {pos : Pos} {a : Int} (hf : EvV W A env h fn (.type "str")) (ha : Ev W A env [] h e (.int a)) (h1 : a.natAbs < 1000) (hs : starEach [e] env = [(false, eval e env)] := by rfl)
    (he : eval (.Call fn [e] [] pos) env = (do callWith pos (← eval fn env) [] (backTo pos (starEach [e] env)) (backToKw pos (keywordEach [] env))) := by rfl) : EvS W A env h (.Call fn [e] [] pos) 1002 := by
  refine ⟨Str.ofString (toString a), ?_, ?_⟩
  · have := len_str_of_int a
    lia
  · exact ev_t1 hf ha (fun s u Q E l r f => by
      obtain ⟨_, rfl⟩ := r.int_inv
      exact str_of_int_fit (N := 1000) (by split <;> lia) (by decide) fun _ => f _ _ (Gw.toks s _) (.str _ _)) hs he
theorem eva_text {e : Expr} {n : Nat} {pos : Pos} (he : EvS W A env h e n) (hs : starEach [e] env = (false, eval e env) :: starEach [] env := by rfl) : ∃ ds, ds.length ≤ sizeLine ∧ EvA W A env [] h pos [e] ds := by
  obtain ⟨x, _, hx⟩ := he
  exact ⟨[.str x], (by decide : (1 : Nat) ≤ sizeLine), eva_cons hx eva_nil hs⟩
end

/-- the program's own exception class -/
abbrev excB : List Value := [.type "Exception", .type "BaseException", .type "object"]
noncomputable abbrev Oom (W : Wd) (x : Str) (C : Addr) : Prop := OwnCls x C excB "Exception.__new__" W.mg W.root

section
variable {B : Bd} {μ : Mu} {ρ : Rho} {Post : Fl → Mu → Rho → Prop} {x : Str} {C : Addr}
theorem trx_raiseO (O : Oom B.W x C) {np cpos pos : Pos} {e₀ : Expr} {rest : List Expr} {n : Nat}
    (he : ∀ Kp γ s, Sat B Kp γ μ ρ s → ∃ ds, ds.length ≤ sizeLine ∧ EvA B.W B.A B.env [] s.heap cpos (e₀ :: rest) ds)
    (hx : B.env.kindOf x = some .globalImplicit := by rfl) (hdb : (x == ("__debug__" : Str)) = false := by decide)
    (hse : starEach (e₀ :: rest) B.env = (false, eval e₀ B.env) :: starEach rest B.env := by rfl) (hplain : (backTo cpos (starEach rest B.env)).any (·.1) = false := by rfl) :
    TrX1 B μ ρ (.Raise (some (.Call (.Name x np) (e₀ :: rest) [] cpos)) none pos) (.ref C) := fun Kp γ s Q E y hE => by
  obtain ⟨tl, N, nm, q, bs, hdct, sn, sub, ab, col, dd, k0, k1, k2, k3, k5, mN, hC, hN, hni, T⟩ := O.obj
  have FB := PySem.F.excBase_Exception
  obtain ⟨ds, hz, he⟩ := he Kp γ s y
  refine wpAny_Raise_call_subT (C := C) (nm := nm) (q := q) (N := N) (bs := bs) (bm := tl) (hdct := hdct) (sn := sn) (sub := sub) (ab := ab) (col := col) (dd := dd) (k0 := k0) (k1 := k1) (k2 := k2) (k3 := k3) (k5 := k5)
    FB (mN := mN) (T.hasType FB.hasBase) y.cn.hand (by rw [hse]; show (false || (backTo cpos (starEach rest B.env)).any (·.1)) = false; rw [hplain]; rfl) hni (evv_glob y.cx O.bound hx hdb s _ _ (Le.refl _) fun s₁ g₁ => ⟨rfl, ?_⟩)
  have he' := fun Q => he s₁ Q E g₁.le
  rw [hse] at he' ⊢
  refine Calls.evalArgs_plain (he' _ fun vs s₂ g₂ r₂ => ?_)
  have g := g₁.trans g₂
  have rt : Le B.W.root s₂.heap := y.cn.here.root.trans g.le
  refine ⟨rfl, by rw [r₂.length]; exact hz, rt _ _ hC, hN.keeps rt, T.keeps rt, fun h' e m => ?_⟩
  obtain ⟨h₂, t₂, e₂⟩ := (y.gw g).same
  exact hE _ _ (.made e s₂.heap t₂ vs rfl (by rw [e₂]) (y.cn.le g.le) m)

theorem hd_hitO (O : Oom B.W x C) {z : Str} {pt px apos pos : Pos} {c : Expr} {d : V} {rest : List ExceptHandler}
    (hxk : B.env.kindOf z = some .local ∨ (B.env.kindOf z = some .cell ∧ (B.env.cells.lookup z).isSome = true)) (hc : ∀ (A : Around) (s : Shared) (Q E : Value → Shared → Prop), (∀ v s', Gw s s' → Rd (μ.at ++ B.X₀) s'.heap v d → Q v s') → wpAny (model B.W.prog B.W.w) A (eval c B.env) Q E s) (h : Post .next μ ((z, d) :: ρ))
    (hn : μ.names.contains z = false := by rfl) (hs : swapsWith c (some (.Name z px)) apos.line B.env = pure false := by rfl)
    (hx : B.env.kindOf x = some .globalImplicit := by rfl) (hd : (x == ("__debug__" : Str)) = false := by decide) :
    HdX B μ ρ (.ExceptHandler (some (.Name x pt)) none [.Assign [.Name z px] c apos] pos :: rest) (.ref C) Post := fun Kp γ s₀ s E a a0 y gx fw => by
  have y' := y.gx gx
  obtain ⟨tl, N, nm, q, bs, hdct, sn, sub, ab, col, dd, k0, k1, k2, k3, k5, mN, hC, hN, hni, TT⟩ := O.obj
  obtain ⟨oe, he, hcls⟩ := fw.there
  refine wpAny_handleBy_cons (codeAny_handlers_test (Name_function_global y'.wf.ek hx (loadGlobal_global (by rw [y'.wf.eg]; exact y'.cn.here.g) O.bound ?_) hd)) (by intro q; cases q)
  have hC' := y'.cn.here.root _ _ hC
  have hQ := run_suite (M := model B.W.prog B.W.w) (A := B.A.mark (some (.ref a))) (Post := Post) (E := notedBy (model B.W.prog B.W.w) (B.A.mark (some (.ref a))) B.env (cameBackBy (model B.W.prog B.W.w) B.A B.env E)) y gx fw hxk (hc _) h hn hs (px := px) (apos := apos)
  obtain ⟨hp, gg, dr, tk, os⟩ := s
  refine wpAny_excMatches_sub_self hC' he hcls (TT.hasType (by decide)) ?_
  exact codeAny_handlers_suite hQ
end
end Mine
namespace Mine
open PySem PySem.Calls PySem.Spec PyProof.Rows

section
variable {B : Bd} {μ : Mu} {ρ : Rho} {Post : Fl → Mu → Rho → Prop}
/-- a while: the test's value is known at each turn -/
theorem tri_while {test : Expr} {body : List Stmt} {pos : Pos} (N : Nat) (Inv : Nat → Mu → Rho → Prop) (go : Nat → Mu → Rho → Bool) (h0 : Inv 0 μ ρ) (hb : ∀ i μ' ρ', Inv i μ' ρ' → Bs B μ' ρ' test (go i μ' ρ'))
    (turn : ∀ i μ' ρ', Inv i μ' ρ' → go i μ' ρ' = true → i < N ∧ Tri B μ' ρ' body (LoopP Inv Post i))
    (done : ∀ i m r, Inv i m r → go i m r = false → Post .next m r) : Tr1 B μ ρ (.While test body [] pos) Post := fun Kp γ s E y => by
  refine wpAny_While (codeAny_whileLoop (fun k s' => ∃ i μ' ρ', k = N - i ∧ Sat B Kp γ μ' ρ' s' ∧ Inv i μ' ρ') ?_ N ⟨0, μ, ρ, rfl, y, h0⟩)
  rintro k s' ⟨i, μ', ρ', rfl, y', hi⟩
  refine hb i μ' ρ' hi Kp γ s' y' s' _ _ (Le.refl _) fun s₂ g => ?_
  have y₂ := y'.gw g
  cases hg : go i μ' ρ' with
  | true =>
    simp only [if_true]
    obtain ⟨hlt, t⟩ := turn i μ' ρ' hi hg
    refine wpAny_mono (t Kp γ s₂ _ y₂) (fun fl s₃ o => ?_) fun _ _ e => e
    obtain ⟨fd, m, r, fi, y₄, po⟩ := o
    cases fl <;> cases fd <;> first
      | exact fi.elim
      | exact ⟨N - (i + 1), by lia, i + 1, m, r, rfl, y₄, po⟩
      | exact ⟨.next, m, r, trivial, y₄, po⟩
      | exact ⟨_, m, r, fi, y₄, po⟩
  | false =>
    simp only [Bool.false_eq_true, if_false]
    exact wpAny_execs_nil ⟨.next, μ', ρ', trivial, y₂, done i μ' ρ' hi hg⟩

/-- a list that turns no more -/
theorem Sat.freeze {Kp γ s} {x : Str} {a : Addr} {ds : List V} (y : Sat B Kp γ ((x, a, ds) :: μ) ρ s) : Sat B Kp γ μ ((x, .lst ds) :: ρ) s := by
  obtain ⟨hv, hx, vs, n, e, r⟩ := y.muts _ (.head _)
  have sb : ∀ b ∈ μ.at ++ B.X₀, b ∈ Mu.at ((x, a, ds) :: μ) ++ B.X₀ := fun b hb => .tail _ hb
  have nd := List.nodup_cons.mp y.nd
  have sb' : ∀ b ∈ μ.at, b ∈ Mu.at ((x, a, ds) :: μ) := fun b hb => .tail _ hb
  have rd : RdS μ.at B.X₀ s.heap (.ref a) (.lst ds) := .of (.lst e (fun h => (List.mem_append.mp h).elim nd.1 hx) (r.sub sb))
  refine ⟨y.wf, y.cn, y.same, y.h₀kp, fun b o k => ?_, y.cells, fun q hq => (y.gam q hq).sub sb', fun z d hz => ?_, fun q hq => ?_, nd.2⟩
  · have := y.kp b o k
    exact ⟨this.1, this.2.1, this.2.2.1, fun h => this.2.2.2 (.tail _ h)⟩
  · rcases lookup_put hz with ⟨rfl, rfl⟩ | ⟨h1, h2⟩
    · exact ⟨_, hv, rd⟩
    · obtain ⟨v, h3, h4⟩ := y.vars z d h2
      exact ⟨v, h3, h4.move (fun r => r.sub sb') (fun r => r.sub sb)⟩
  · obtain ⟨h1, h2, vs', n', h3, h4⟩ := y.muts q (.tail _ hq)
    exact ⟨h1, h2, vs', n', h3, h4.sub sb⟩
theorem Tri.freeze {body : List Stmt} {x : Str} {a : Addr} {ds : List V} (h : Tri B μ ((x, .lst ds) :: ρ) body Post) : Tri B ((x, a, ds) :: μ) ρ body Post := fun Kp γ s E y => h Kp γ s E y.freeze
end

section
variable {W : Wd} {k : Nat} {A : Around} {h₀ : Heap} {L : Addr} {env : Env} {X Y : List Addr} {h : Heap}
theorem rda_ints {X : List Addr} {h : Heap} : ∀ {vs : List Value} {ns : List Int}, RdA X h vs (zints ns) → IntsAre vs ns := by
  intro vs ns
  induction ns generalizing vs with
  | nil => intro r; obtain rfl := r.nil_inv; exact .nil
  | cons n ns ih =>
    intro r
    obtain ⟨w, ws, rfl, a, r'⟩ := r.cons_inv
    obtain ⟨t, rfl⟩ := a.int_inv
    exact .cons _ _ (ih r')
theorem any_mem {ns : List Int} {k : Int} : ns.any (· == k) = decide (k ∈ ns) := by
  rw [Bool.eq_iff_iff]
  simp only [List.any_eq_true, beq_iff_eq, decide_eq_true_eq]
  exact ⟨fun ⟨x, h1, h2⟩ => h2 ▸ h1, fun h => ⟨k, h, rfl⟩⟩
theorem bt_in {l r : Expr} {pos : Pos} {a : Int} {ns : List Int} (ha : Ev W A env [] h l (.int a)) (hb : Ev W A env [] h r (.lst (zints ns))) (hm : behindInMarks .In r = false := by with_unfolding_all rfl) : Bt W A env h (.Compare l [.In] [r] pos) (decide (a ∈ ns)) :=
  bt_cmp ha hb (fun s u v Q E _ ru rv f => by
    obtain ⟨_, rfl⟩ := ru.int_inv
    obtain ⟨x, vs, n, rfl, ea, _, ra⟩ := rv.lst_inv
    exact in_list_ints ⟨_, ea, rfl, n, rfl⟩ (rda_ints ra) (by rw [any_mem]; exact f _ (Gw.refl s))) hm
theorem bt_notin {l r : Expr} {pos : Pos} {a : Int} {ns : List Int} (ha : Ev W A env [] h l (.int a)) (hb : Ev W A env [] h r (.lst (zints ns))) (hm : behindInMarks .NotIn r = false := by with_unfolding_all rfl) : Bt W A env h (.Compare l [.NotIn] [r] pos) (!decide (a ∈ ns)) :=
  bt_cmp ha hb (fun s u v Q E _ ru rv f => by
    obtain ⟨_, rfl⟩ := ru.int_inv
    obtain ⟨x, vs, n, rfl, ea, _, ra⟩ := rv.lst_inv
    exact notin_list_ints ⟨_, ea, rfl, n, rfl⟩ (rda_ints ra) (by rw [any_mem]; exact f _ (Gw.refl s))) hm
end
end Mine
namespace Mine
open PySem PySem.Calls PySem.Spec PyProof.Rows
section
variable {B : Bd} {μ : Mu} {ρ ρ' : Rho} {Post : Fl → Mu → Rho → Prop}
theorem new_list {Kp γ s s'} {x : Str} {l : Addr} {vs : List Value} {n : Nat} {ds : List V} {h' : Heap} {tk : Nat} {a : Addr} (y : Sat B Kp γ μ ρ s) (g : Gw s s') (st : Stored B.env x (.ref l) s'.heap h' a) (e0 : s.heap.get? l = none) (e1 : s'.heap.get? l = some (lstO vs n)) (hl : l ∉ μ.at ++ B.X₀) (r : RdA (μ.at ++ B.X₀) s'.heap vs ds) (r' : RdA (l :: (μ.at ++ B.X₀)) s'.heap vs ds) (hρx : ρ.lookup x = none) :
    Sat B Kp γ ((x, l, ds) :: μ.off x) ρ { s' with heap := h', toks := tk } := by
  have old : ∀ {b o}, s.heap.get? b = some o → b ≠ l := fun {b o} e z => by rw [z, e0] at e; cases e
  have mv : ∀ {v d}, Rd μ.at s.heap v d → Rd (l :: μ.at) s'.heap v d := fun r => r.move fun b o e _ hx => ⟨g.le b o e, fun z => (List.mem_cons.mp z).elim (old e) hx⟩
  have mv2 : ∀ {v d}, Rd (μ.at ++ B.X₀) s.heap v d → Rd (l :: μ.at ++ B.X₀) s'.heap v d := fun r => r.move fun b o e _ hx => ⟨g.le b o e, fun z => (List.mem_cons.mp z).elim (old e) hx⟩
  have mvA : ∀ {v d}, RdA (μ.at ++ B.X₀) s.heap v d → RdA (l :: (μ.at ++ B.X₀)) s'.heap v d := fun r => r.move fun b o e _ hx => ⟨g.le b o e, fun z => (List.mem_cons.mp z).elim (old e) hx⟩
  refine (y.gw g).storedM st r e1 ?_ ?_ ?_ ?_ hρx ?_ r' ?_
  · intro o ko
    exact old (y.kp l o ko).1 rfl
  · exact fun z => hl (List.mem_append.mpr (.inr z))
  · exact fun z => hl (List.mem_append.mpr (.inl z))
  · exact fun q hq => mv (y.gam q hq)
  · intro z d hz
    obtain ⟨v, h1, h2⟩ := y.vars z d hz
    exact ⟨v, h1.le g.le, h2.move mv mv2⟩
  · intro q hq hne
    obtain ⟨_, _, vs', n', h5, h6⟩ := y.muts q hq
    exact ⟨vs', n', g.le _ _ h5, mvA h6⟩
/-- a new list for a name that held something else -/
theorem tri_assignR {x : Str} {p pos : Pos} {e : Expr} {ds : List V} (hx : B.env.kindOf x = some .local ∨ (B.env.kindOf x = some .cell ∧ (B.env.cells.lookup x).isSome = true)) (he : Ef B μ ρ (μ.at ++ B.X₀) e ds) (hs' : Sub ρ' ρ)
    (h : ∀ l, Post .next ((x, l, ds) :: μ.off x) ρ') (hρx : ρ'.lookup x = none := by rfl) (hs : swapsWith e (some (.Name x p)) pos.line B.env = pure false := by rfl) : Tr1 B μ ρ (.Assign [.Name x p] e pos) Post := fun Kp γ s E y =>
  wpAny_Assign_Name (he Kp γ s y s _ _ (Le.refl _) fun l vs n s' g e0 e1 hl r r' => store_sat (y.gw g) hx fun h' tk a st => ⟨.next, _, _, trivial, new_list (y.forget hs'.look) g st e0 e1 hl r r' hρx, h l⟩) hs

theorem load_var {M : Model} {A : Around} {env : Env} {s : Shared} {x : Str} {v : Value} {pos : Pos} {Q E : Value → Shared → Prop} (ek : env.scope.kind = .function) (hv : Var env s.heap x v) (q : Q v s) (hd : (x == ("__debug__" : Str)) = false := by decide) : wpAny M A (eval (.Name x pos) env) Q E s := by
  refine wpAny_Name ?_ hd
  rcases hv with ⟨p, m, b, r⟩ | ⟨p | ⟨p, p'⟩, c, b, r⟩
  · exact wpAny_loadName_local ek p b r q
  · exact wpAny_loadName_cell ek p b r q
  · exact wpAny_loadName_free ek p b r q p'

theorem at_inj : ∀ {μ : Mu}, μ.at.Nodup → ∀ {x z : Str} {a : Addr} {xs ys : List V}, (x, a, xs) ∈ μ → (z, a, ys) ∈ μ → x = z
  | [], _, _, _, _, _, _, h, _ => (nomatch h)
  | q :: r, nd, x, z, a, xs, ys, h1, h2 => by
    obtain ⟨n1, n2⟩ := List.nodup_cons.mp nd
    rcases List.mem_cons.mp h1 with e1 | h1 <;> rcases List.mem_cons.mp h2 with e2 | h2
    · rw [← e1] at e2; injection e2 with e; exact e.symm
    · exact absurd (List.mem_map.mpr ⟨_, h2, by rw [← e1]⟩) n1
    · exact absurd (List.mem_map.mpr ⟨_, h1, by rw [← e2]⟩) n1
    · exact at_inj n2 h1 h2
/-- a tuple that opens with two turning lists -/
theorem es_two {x z : Str} {a b : Addr} {xs ys ds : List V} {p1 p2 pos : Pos} {n : Nat} {es : List Expr} (h1 : (x, a, xs) ∈ μ) (h2 : (z, b, ys) ∈ μ) (hxz : x ≠ z) (he : ∀ Kp γ s, Sat B Kp γ μ ρ s → EvA B.W B.A B.env B.X₀ s.heap pos es ds) (hz : ds.length + 2 ≤ sizeLine)
    (hd1 : (x == ("__debug__" : Str)) = false := by decide) (hd2 : (z == ("__debug__" : Str)) = false := by decide)
    (hs1 : starEach (.Name x p1 :: .Name z p2 :: es) B.env = (false, eval (.Name x p1) B.env) :: starEach (.Name z p2 :: es) B.env := by rfl) (hs2 : starEach (.Name z p2 :: es) B.env = (false, eval (.Name z p2) B.env) :: starEach es B.env := by rfl) :
    Es B μ ρ B.X₀ (.Tuple (.Name x p1 :: .Name z p2 :: es) n pos) (.two xs ys ds) := fun Kp γ s y s₁ Q E l f => by
  have hne : a ≠ b := fun q => hxz (at_inj y.nd h1 (q ▸ h2))
  obtain ⟨v1, x1, va, na, e1, r1⟩ := y.muts _ h1
  obtain ⟨v2, x2, vb, nb, e2, r2⟩ := y.muts _ h2
  have sb : ∀ a ∈ B.X₀, a ∈ μ.at ++ B.X₀ := fun a ha => List.mem_append.mpr (.inr ha)
  refine Tuple_ (args_cons (load_var y.wf.ek (v1.le l) (args_cons (load_var y.wf.ek (v2.le l) (he Kp γ s y s₁ _ _ l fun vs s₂ g₂ r₂ => ?_) hd2) hs2) hd1) hs1)
  have l2 := l.trans g₂.le
  refine wpAny_newObj_type (f _ _ (g₂.trans (Gw.push s₂ _)) ?_) (by show (Value.ref a :: Value.ref b :: vs).toArray.size ≤ sizeLine; rw [List.size_toArray, List.length_cons, List.length_cons, r₂.length]; lia)
  refine .two (n := 0) (Heap.get?_push_size _ rfl) (y.cx.sub sb |>.fresh l2) (Heap.get?_push_of_some _ (l2 _ _ e1)) x1 ((r1.sub sb).le (l2.trans (Le.push _))) (Heap.get?_push_of_some _ (l2 _ _ e2)) x2 ((r2.sub sb).le (l2.trans (Le.push _))) hne (r₂.le (Le.push _))

/-- x = z[0] where z holds a new tuple: the list may turn -/
theorem tri_unpack {x z : Str} {p0 p1 p2 p3 p4 pos0 pos1 : Pos} {c0 : Nat} {e : Expr} {xs ys rest : List V} {body : List Stmt} (hx : B.env.kindOf x = some .local ∨ (B.env.kindOf x = some .cell ∧ (B.env.cells.lookup x).isSome = true)) (hz : B.env.kindOf z = some .local ∨ (B.env.kindOf z = some .cell ∧ (B.env.cells.lookup z).isSome = true)) (hxz : x ≠ z)
    (he : ∀ Kp γ s, Sat B Kp γ μ ρ s → ∀ (s₁ : Shared) (Q E : Value → Shared → Prop), Gw s s₁ → (∀ v s', Gw s₁ s' → (∀ X, (∀ a ∈ X, ∃ o, s₁.heap.get? a = some o) → Rd X s'.heap v (.two xs ys rest)) → Q v s') → wpAny (model B.W.prog B.W.w) B.A (eval e B.env) Q E s₁)
    (hρ : Sub ρ' ρ) (hρx : ρ'.lookup x = none) (hμz : μ.names.contains z = false) (hf1 : ∀ d ∈ xs, d.flat = true) (hf2 : ∀ d ∈ ys, d.flat = true) (hf3 : ∀ d ∈ rest, d.flat = true)
    (h : ∀ l, Tri B ((x, l, xs) :: μ.off x) ((z, .tup (.any :: .lst ys :: rest)) :: ρ') body Post)
    (hd : (z == ("__debug__" : Str)) = false := by decide) (hs0 : swapsWith e (some (.Name z p0)) pos0.line B.env = pure false := by rfl) (hs1 : swapsWith (.Subscript (.Name z p2) (.Constant (.int 0) c0 p3) p4) (some (.Name x p1)) pos1.line B.env = pure false := by rfl) :
    Tri B μ ρ (.Assign [.Name z p0] e pos0 :: .Assign [.Name x p1] (.Subscript (.Name z p2) (.Constant (.int 0) c0 p3) p4) pos1 :: body) Post := fun Kp γ s E y => by
  refine wpAny_execs_cons (wpAny_Assign_Name (he Kp γ s y s _ _ (Gw.refl s) fun v s₁ g₁ r₁ => ?_) hs0)
  have rr := r₁ ((List.range s.heap.objs.size).filter fun a => (s.heap.get? a).isSome) (fun a ha => Option.isSome_iff_exists.mp (by simpa using (List.mem_filter.mp ha).2))
  have out : ∀ a, a ∉ ((List.range s.heap.objs.size).filter fun a => (s.heap.get? a).isSome) → s.heap.get? a = none := fun a ha => by
    cases q : s.heap.get? a with
    | none => rfl
    | some o => exact absurd (List.mem_filter.mpr ⟨List.mem_range.mpr (Heap.lt_size q), by rw [q]; rfl⟩) ha
  cases rr with
  | @two t a b vs va vb n na nb _ _ _ et xt ea xa ra eb xb rb hab rv =>
  have ht0 := out t xt
  have ha0 := out a xa
  have hb0 := out b xb
  have hat : a ≠ t := by
    rintro rfl
    rw [ea] at et
    injection et with q
    injection q with q1
    injection q1 with q2
    exact absurd q2 (by decide)
  have y0 := y.forget hρ.look
  have apa := new_apart y0 ha0
  have nx : ∀ c, s.heap.get? c = none → c ∉ μ.at ++ B.X₀ := fun c hc hm => by
    obtain ⟨o, e⟩ := y.cx.xs c hm
    rw [hc] at e; cases e
  have rz : Rd (μ.at ++ B.X₀) s₁.heap (.ref t) (.tup (.any :: .lst ys :: rest)) := .tup et (nx t ht0) (.cons (.any _) (.cons (.lst eb (nx b hb0) (rb.flat hf2)) (rv.flat hf3)))
  refine store_sat (y0.gw g₁) hz fun h₁ tk₁ a₁ st1 => ?_
  have y1 := (y0.gw g₁).stored (tk := tk₁) st1 (.of rz) (notin hμz)
  have sq1 : ∀ c o, s₁.heap.get? c = some o → IsSq o → h₁.get? c = some o := fun c o e q => (st1.but.2 c fun zz => st1.sq o (zz ▸ e) q).trans e
  have key : ∀ {X v d}, Rd X s.heap v d → Rd (a :: X) h₁ v d := fun r => r.move fun c o e q hx => ⟨sq1 c o (g₁.le c o e) q, fun zz => (List.mem_cons.mp zz).elim (fun q => by rw [q, ha0] at e; cases e) hx⟩
  have keyA : ∀ {X v d}, RdA X s.heap v d → RdA (a :: X) h₁ v d := fun r => r.move fun c o e q hx => ⟨sq1 c o (g₁.le c o e) q, fun zz => (List.mem_cons.mp zz).elim (fun q => by rw [q, ha0] at e; cases e) hx⟩
  refine wpAny_execs_cons (wpAny_Assign_Name (Subscript_ (load_var y.wf.ek st1.here (wpAny_Constant_int ?_) hd)) hs1)
  have et1 := sq1 _ _ et (.seq rfl)
  have ea1 := sq1 _ _ ea (.seq rfl)
  have eb1 := sq1 _ _ eb (.seq rfl)
  refine tail_any (T := "tuple") ⟨_, et1, rfl⟩ slot_tuple_getitem.lookup (PySem.P.getItem_tuple et1 (by decide) (by decide) (k := 0) (seqIndex_of (by decide) (by rw [List.size_toArray, List.length_cons]; lia)) (show (Value.ref a :: Value.ref b :: vs).toArray[0]? = some (Value.ref a) by simp) ?_) (by with_unfolding_all rfl)
  have y1' : Sat B Kp γ μ ((z, .tup (.any :: .lst ys :: rest)) :: ρ') { s₁ with heap := h₁, toks := tk₁ + 1 } := y1.le (tk := tk₁ + 1) (Le.refl _)
  refine store_sat y1' hx fun h₂ tk₂ a₂ st2 => ?_
  have nsz : ((z, V.tup (.any :: .lst ys :: rest)) :: ρ').lookup x = none := by
    rw [List.lookup_cons]
    have : (x == z) = false := by simpa using hxz
    rw [this]; exact hρx
  refine h a Kp γ _ E (y1'.storedM (tk := tk₂) (vs := va) (n := na) (ds := xs) st2 ((ra.flat hf1)) ea1 ?_ ?_ ?_ ?_ nsz ?_ (ra.flat hf1) ?_)
  · exact apa.2.2.1
  · exact fun hm => nx a ha0 (List.mem_append.mpr (.inr hm))
  · exact apa.2.2.2
  · exact fun q hq => key (y.gam q hq)
  · intro w d hw
    rcases lookup_put hw with ⟨rfl, rfl⟩ | ⟨h1, h2⟩
    · refine ⟨_, st1.here, .of ?_⟩
      have off : ∀ c, s.heap.get? c = none → c ≠ a → c ∉ a :: μ.at ++ B.X₀ := fun c hc hne hm => by
        rcases List.mem_cons.mp hm with q | q
        · exact hne q
        · exact nx c hc q
      exact .tup et1 (off t ht0 (Ne.symm hat)) (.cons (.any _) (.cons (.lst eb1 (off b hb0 (Ne.symm hab)) (rb.flat hf2)) (rv.flat hf3)))
    · obtain ⟨u, h3, h4⟩ := y0.vars w d h2
      exact ⟨u, st1.others _ _ h1 (h3.le g₁.le), h4.move key key⟩
  · intro q hq hne
    obtain ⟨_, _, vs', n', h5, h6⟩ := y0.muts q hq
    exact ⟨vs', n', sq1 _ _ (g₁.le _ _ h5) (.seq rfl), keyA h6⟩

/-- a call's result is new: it reads off all that stood -/
theorem evt_fn {Kp γ s} {name : Str} {st : Stmt} {es : List Expr} {e : Expr} {p pos : Pos} {ds : List V} {d : V} (y : Sat B Kp γ μ ρ s) (H : HasDef B.W name st) (hc : ∀ f doc pm an cdv ct, B.W.defs f (fdOf name st doc pm an cdv ct) → FnC B.W B.k f ds d) (ha : EvA B.W B.A B.env [] s.heap pos (e :: es) ds)
    (hx : B.env.kindOf name = some .globalImplicit := by rfl) (hdb : (name == ("__debug__" : Str)) = false := by decide) (hs : starEach (e :: es) B.env = (false, eval e B.env) :: starEach es B.env := by rfl)
    (hev : eval (.Call (.Name name p) (e :: es) [] pos) B.env = (do callWith pos (← eval (.Name name p) B.env) [] (backTo pos (starEach (e :: es) B.env)) (backToKw pos (keywordEach [] B.env))) := by rfl) :
    ∀ (s₁ : Shared) (Q E : Value → Shared → Prop), Gw s s₁ → (∀ v s', Gw s₁ s' → (∀ X, (∀ a ∈ X, ∃ o, s₁.heap.get? a = some o) → Rd X s'.heap v d) → Q v s') → wpAny (model B.W.prog B.W.w) B.A (eval (.Call (.Name name p) (e :: es) [] pos) B.env) Q E s₁ := by
  intro s₁ Q E g f
  obtain ⟨fa, doc, pm, an, cdv, ct, h1, h2⟩ := H
  obtain ⟨o, ho, hdat, hcd⟩ := y.cx.cn.here.defs fa _ h1
  refine Call_ ((show EvV _ _ _ _ _ _ from evv_glob y.cx h2 hx hdb) s₁ _ _ g.le fun s₂ g₂ => callWith_def hdat (ha s₂ _ _ (g.le.trans g₂.le) fun vs s₃ g₃ r₃ => ?_) hs) hev
  have l3 : Le s.heap s₃.heap := g.le.trans (g₂.le.trans g₃.le)
  refine ⟨l3 _ _ ho, hc fa doc pm an cdv ct h1 B.A B.h₀ B.env.locals ((List.range s₃.heap.objs.size).filter fun a => (s₃.heap.get? a).isSome) s₃ vs Q E (y.cn.le l3) (fun a ha => Option.isSome_iff_exists.mp (by simpa using (List.mem_filter.mp ha).2)) r₃ fun v s' g₄ r => ?_⟩
  refine f v s' (g₂.trans (g₃.trans g₄)) fun X hX => r.sub fun a ha => ?_
  obtain ⟨o', e'⟩ := hX a ha
  have e3 := g₃.le _ _ (g₂.le _ _ e')
  exact List.mem_filter.mpr ⟨List.mem_range.mpr (Heap.lt_size e3), by rw [e3]; rfl⟩
end
end Mine
namespace Mine
open PySem PySem.Calls PySem.Spec PyProof.Rows

section
variable {W : Wd} {k : Nat} {A : Around} {h₀ : Heap} {L : Addr} {env : Env} {X Y : List Addr} {h : Heap}

/-- an item counted from the end -/
theorem ev_itemN {v i : Expr} {pos : Pos} {ds : List V} {j : Int} {d : V} (hv : Ev W A env X h v (.lst ds)) (hi : Ev W A env [] h i (.int j)) (h0 : j < 0) (h1 : -(ds.length : Int) ≤ j) (hd : ds[(j + ds.length).toNat]? = some d) (hj : -(2 ^ 63) ≤ j)
    (hs : ∀ l u, subscripted i false (.ref l) (.int j u) = operate [.ref l, .int j u] (getItem (.ref l) (.int j u)) := by intro _ _; with_unfolding_all rfl) : Ev W A env X h (.Subscript v i pos) d := fun s Q E l f =>
  Subscript_ (hv s _ _ l fun o s₁ g₁ r₁ => hi s₁ _ _ (l.trans g₁.le) fun w s₂ g₂ r₂ => by
    obtain ⟨_, rfl⟩ := r₂.int_inv
    have r := r₁.le g₂.le
    obtain ⟨a, vs, n, rfl, ea, _, ra⟩ := r.lst_inv
    obtain ⟨x, hx, rx⟩ := ra.get hd
    have hl : s₂.heap.IsList a vs.toArray := ⟨_, ea, rfl, n, rfl⟩
    have hsz : (vs.toArray.size : Int) = ds.length := by rw [List.size_toArray, ra.length]
    exact tail_any hl.typeIs slot_list_getitem.lookup (wpAny_getItem_list_neg hl h0 (by rw [hsz]; exact h1) hj (by rw [hsz]; simpa using hx) (f _ _ (g₁.trans g₂) rx)) (hs _ _))

/-- an entry of a table -/
theorem ev_itemD {v i : Expr} {pos : Pos} {l : List (Int × Int)} {j x : Int} (hv : Ev W A env Y h v (.dct l)) (hi : Ev W A env [] h i (.int j)) (hd : l.lookup j = some x)
    (hs : ∀ l u, subscripted i false (.ref l) (.int j u) = operate [.ref l, .int j u] (getItem (.ref l) (.int j u)) := by intro _ _; with_unfolding_all rfl) : Ev W A env X h (.Subscript v i pos) (.int x) := fun s Q E le f =>
  Subscript_ (hv s _ _ le fun o s₁ g₁ r₁ => hi s₁ _ _ (le.trans g₁.le) fun w s₂ g₂ r₂ => by
    obtain ⟨_, rfl⟩ := r₂.int_inv
    have r := r₁.le g₂.le
    obtain ⟨a, o, rfl, ea, _, D⟩ := r.dct_inv
    obtain ⟨es, ep, h1, h2, h3, h4⟩ := D.tab
    obtain ⟨t, h5⟩ := h4 _ _ hd
    have hm : s₂.heap.MapOf (intKind W.prog W.w) a (findBy Value.isInt es) := Heap.IntMap.mapOf ⟨o, es, ep, ea, D.ex.1, h1, h2, fun _ => rfl⟩ (fun o' e' => by rw [ea] at e'; cases e'; exact D.ex.2)
    exact tail_any hm.typeIs slot_dict_getitem.lookup (wpAny_getItem_of (intKind_is W.prog W.w j _) hm h5 (f _ _ (g₁.trans (g₂.trans (Gw.toks s₂ _))) (.int _ _))) (hs _ _))

theorem ev_sum {fn e : Expr} {pos : Pos} {ns : List Int} (hh : A.handled = none) (hf : EvV W A env h fn (.builtin "sum")) (ha : Ev W A env [] h e (.lst (zints ns))) (hs : starEach [e] env = [(false, eval e env)] := by rfl)
    (he : eval (.Call fn [e] [] pos) env = (do callWith pos (← eval fn env) [] (backTo pos (starEach [e] env)) (backToKw pos (keywordEach [] env))) := by rfl) : Ev W A env X h (.Call fn [e] [] pos) (.int ns.sum) :=
  ev_b1 hf ha (fun s u Q E l r f => by
    obtain ⟨a, vs, n, rfl, ea, _, ra⟩ := r.lst_inv
    have hi := rda_ints ra
    have hl : s.heap.IsList a vs.toArray := ⟨_, ea, rfl, n, rfl⟩
    obtain ⟨xs, e⟩ := hi.allInts.items
    have hn : numsOf vs.toArray.toList = ns := hi.numsOf
    rw [e] at hl
    rw [e, nums_intItems] at hn
    have hsum : preSum (numAt xs) xs.size = ns.sum := by rw [preSum_eq, hn, List.take_of_length_le (by rw [← hn]; simp)]
    refine sum_intListG hh hl fun h' tk t' hk => ?_
    rw [hsum]
    exact f _ _ ⟨⟨h', tk, rfl⟩, hk⟩ (.int _ _)) hs he

theorem ev_boolB {fn e : Expr} {pos : Pos} {b : Bool} (hf : EvV W A env h fn (.type "bool")) (ha : Ev W A env [] h e (.bool b)) (hs : starEach [e] env = [(false, eval e env)] := by rfl)
    (he : eval (.Call fn [e] [] pos) env = (do callWith pos (← eval fn env) [] (backTo pos (starEach [e] env)) (backToKw pos (keywordEach [] env))) := by rfl) : Ev W A env X h (.Call fn [e] [] pos) (.bool b) :=
  ev_t1 hf ha (fun s u Q E l r f => by obtain rfl := r.bool_inv; exact call_bool_bool (f _ _ (Gw.refl s) (.bool _))) hs he

/-- a call whose result may hold old things -/
theorem ev_callO {fn : Expr} {es : List Expr} {e : Expr} {pos : Pos} {f : Addr} {fd : FuncData} {ds : List V} {d : V} (c : Cx W k A h₀ L env X h) (hf : EvV W A env h fn (.ref f)) (ha : EvA W A env [] h pos (e :: es) ds) (hd : W.defs f fd) (hc : FnO W k f ds d)
    (hs : starEach (e :: es) env = (false, eval e env) :: starEach es env := by rfl)
    (he : eval (.Call fn (e :: es) [] pos) env = (do callWith pos (← eval fn env) [] (backTo pos (starEach (e :: es) env)) (backToKw pos (keywordEach [] env))) := by rfl) : Ev W A env [] h (.Call fn (e :: es) [] pos) d := fun s Q E l g => by
  obtain ⟨o, ho, hdat, hcd⟩ := c.cn.here.defs f fd hd
  refine Call_ (hf s _ _ l fun s₁ g₁ => callWith_def hdat (ha s₁ _ _ (l.trans g₁.le) fun vs s₂ g₂ r₂ => ?_) hs) he
  have l₂ : Le h s₂.heap := l.trans (g₁.le.trans g₂.le)
  exact ⟨l₂ _ _ ho, hc A h₀ L s₂ vs Q E (c.cn.le l₂) r₂ fun v s' g₃ r => g v s' (g₁.trans (g₂.trans g₃)) r⟩
end

theorem fno_of {W : Wd} {k : Nat} {f : Addr} {fd : FuncData} {body : List Stmt} {ps : List Str} {args : List V} {d : V} (hd : W.defs f fd) (hbody : fd.body = .stmts body) (hclo : fd.closure = []) (hgl : fd.globals = mainGlobals) (hbl : fd.builtins = builtinsNs)
    (hbind : ∀ vs, vs.length = ps.length → bindArgs fd ⟨vs, []⟩ = pure (ps.zip vs)) (hps : ps.Nodup) (hlen : args.length = ps.length)
    (hkind : ∀ n, ∀ x ∈ ps, fd.scope.names.lookup x = some .local ∨ (fd.scope.names.lookup x = some .cell ∧ ((cellsFrom n fd.scope.names []).lookup x).isSome = true))
    (hnd : ((cellsFrom 0 fd.scope.names []).map (·.1)).Nodup) (hco : fd.scope.isCoroutine = false) (hgen : fd.scope.isGenerator = false) (hk : fd.scope.kind = .function)
    (h : ∀ B : Bd, B.W = W → B.k = k → EnvIs fd f B.env → B.X₀ = [] → Tri B [] (ps.zip (args.map tag)) body fun fl _ _ => fl = .ret d) : FnO W (k + 1) f args d := by
  intro A h₀ L s vs Q E cn ra hQ
  have gr := cn.here
  obtain ⟨o, ho, hdat, hcd⟩ := gr.defs f fd hd
  obtain ⟨A₀, base, outer, fenv, bl, hfr, hfL, hfk, hrt, hnf⟩ := cn.bel
  obtain ⟨m, hm⟩ := cn.ns
  have F : Fr h₀ L s.heap m := ⟨hm, cn.keep, cn.above⟩
  have hB1 : Below A base (fenv :: outer) s.heap := by
    have hnew : base.get? L = none := by
      cases hq : base.get? L with
      | none => rfl
      | some o => exact absurd (Nat.lt_of_lt_of_le (Heap.lt_size (bl.stays L o hq)) F.above) (Nat.lt_irrefl _)
    exact ⟨hfr, fun b o e => F.keep b o (bl.stays b o e), .cons (by rw [hfk]; decide) hfL F.ns hnew (bl.frames.of_keeps fun b o e _ => ⟨o, F.keep b o e, rfl⟩)⟩
  refine wpAny_call (call_core (X := []) gr hB1 hrt (frames_ns hfL hm hnf cn.keep) cn.hand cn.room cn.units ho hdat hcd (fun _ h => (nomatch h)) ra hbody hclo hgl hbl hbind hps hlen hkind hnd hco hgen hk ?_)
  rintro B s₁ rfl rfl he hA hh₀ hX hs₀ sat
  refine wpAny_mono (h B rfl rfl he hX _ _ s₁ _ sat) (fun fl s' ou => ?_) fun _ _ e => e
  obtain ⟨fd', μ', ρ', fi, y, rfl⟩ := ou
  have gw : Gw s s' := ⟨hs₀ ▸ y.same, fun a o e => (y.kp a o e).1⟩
  rw [hX] at fi
  cases fl <;> first | exact fi.elim | exact hQ _ s' gw fi
theorem fno_def {W : Wd} {k : Nat} {f : Addr} {name : Str} {st : Stmt} {doc pm cdv ct : Value} {an : Option Addr} {ps : List Str} {args : List V} {d : V} (hd : W.defs f (fdOf name st doc pm an cdv ct))
    (hbind : ∀ vs, vs.length = ps.length → bindArgs (fdOf name st doc pm an cdv ct) ⟨vs, []⟩ = pure (ps.zip vs)) (hps : ps.Nodup) (hlen : args.length = ps.length)
    (hkind : ∀ n, ∀ x ∈ ps, (fnScope st).names.lookup x = some .local ∨ ((fnScope st).names.lookup x = some .cell ∧ ((cellsFrom n (fnScope st).names []).lookup x).isSome = true))
    (hnd : ((cellsFrom 0 (fnScope st).names []).map (·.1)).Nodup) (hco : (fnScope st).isCoroutine = false) (hgen : (fnScope st).isGenerator = false) (hk : (fnScope st).kind = .function)
    (h : ∀ A h₀ L s₀, Tri ⟨W, k, A, h₀, callEnvC (fdOf name st doc pm an cdv ct) L f, [], s₀⟩ [] (ps.zip (args.map tag)) (fnBody st) fun fl _ _ => fl = .ret d) : FnO W (k + 1) f args d :=
  fno_of hd rfl rfl rfl rfl hbind hps hlen hkind hnd hco hgen hk (by
    rintro ⟨W', k', A, h₀, env, X₀, s₀⟩ rfl rfl ⟨L, rfl⟩ hX
    dsimp only at hX
    subst hX
    exact h A h₀ L s₀)
section
variable {B : Bd} {μ : Mu} {ρ : Rho} {Kp : Addr → Obj → Prop} {γ : List (Value × V)} {s : Shared}
theorem ev_fnO {name : Str} {st : Stmt} {es : List Expr} {e : Expr} {p pos : Pos} {ds : List V} {d : V} (y : Sat B Kp γ μ ρ s) (H : HasDef B.W name st) (hc : ∀ f doc pm an cdv ct, B.W.defs f (fdOf name st doc pm an cdv ct) → FnO B.W B.k f ds d) (ha : EvA B.W B.A B.env [] s.heap pos (e :: es) ds)
    (hx : B.env.kindOf name = some .globalImplicit := by rfl) (hdb : (name == ("__debug__" : Str)) = false := by decide) (hs : starEach (e :: es) B.env = (false, eval e B.env) :: starEach es B.env := by rfl)
    (hev : eval (.Call (.Name name p) (e :: es) [] pos) B.env = (do callWith pos (← eval (.Name name p) B.env) [] (backTo pos (starEach (e :: es) B.env)) (backToKw pos (keywordEach [] B.env))) := by rfl) :
    Ev B.W B.A B.env [] s.heap (.Call (.Name name p) (e :: es) [] pos) d := by
  obtain ⟨f, doc, pm, an, cdv, ct, h1, h2⟩ := H
  exact ev_callO (y.cx.sub (Y := []) fun _ h => (nomatch h)) (evv_glob y.cx h2 hx hdb) ha h1 (hc _ _ _ _ _ _ h1) hs hev
end
end Mine
namespace Mine
open PySem PySem.Calls PySem.Spec PyProof.Rows

theorem compTurn_two0 (elt t1 i1 t2 i2 : Expr) (scope : Scope) (pos : Pos) (it acc : Value) (env : Env) :
    compTurn (.ListComp elt [⟨t1, i1, [], 0⟩, ⟨t2, i2, [], 0⟩] scope pos) 0 it acc env = (do
      standAt i1.pos
      match ← pyNext it with
      | none => pure (.done .next)
      | some v =>
        letOwnedTupleGo t1 it v
        assign t1 env v
        let x ← eval i2 env
        standAt i2.pos
        let x ← foldedSetIterable i2 env x
        let _ ← runOwn (.compStart (.ListComp elt [⟨t1, i1, [], 0⟩, ⟨t2, i2, [], 0⟩] scope pos) 1 (← holding [x] (pyIter x)) acc env) env
        again (.compLoop (.ListComp elt [⟨t1, i1, [], 0⟩, ⟨t2, i2, [], 0⟩] scope pos) 0 it acc env)) := by rfl
theorem compTurn_two1 (elt t1 i1 t2 i2 : Expr) (scope : Scope) (pos : Pos) (it acc : Value) (env : Env) :
    compTurn (.ListComp elt [⟨t1, i1, [], 0⟩, ⟨t2, i2, [], 0⟩] scope pos) 1 it acc env = (do
      standAt i2.pos
      match ← pyNext it with
      | none => pure (.done .next)
      | some v =>
        letOwnedTupleGo t2 it v
        assign t2 env v
        (do let _ ← call (.builtin "list.append") [acc, ← eval elt env])
        again (.compLoop (.ListComp elt [⟨t1, i1, [], 0⟩, ⟨t2, i2, [], 0⟩] scope pos) 1 it acc env)) := by rfl
theorem compStart_two1 {prog : Program} {w : World} {A : Around} {R : Result → Shared → Prop} {s : Shared} {elt t1 i1 t2 i2 : Expr} {scope : Scope} {pos : Pos} {it acc : Value} {env : Env}
    (h0 : codeAny (model prog w) A (.compLoop (.ListComp elt [⟨t1, i1, [], 0⟩, ⟨t2, i2, [], 0⟩] scope pos) 1 it acc env) R s)
    (h : wpAny (model prog w) A (pyIter it) (fun it' s' => codeAny (model prog w) A (.compLoop (.ListComp elt [⟨t1, i1, [], 0⟩, ⟨t2, i2, [], 0⟩] scope pos) 1 it' acc env) R s')
      (notedBy (model prog w) A env fun x s' => R (.error x) s') s) :
    codeAny (model prog w) A (.compStart (.ListComp elt [⟨t1, i1, [], 0⟩, ⟨t2, i2, [], 0⟩] scope pos) 1 it acc env) R s := by
  refine codeAny_of_tree ?_
  show wpAny _ _ ((compStart (.ListComp elt [⟨t1, i1, [], 0⟩, ⟨t2, i2, [], 0⟩] scope pos) 1 it acc env).onRaise (fun x => do noteFrame x env; standAt theWindowsPlace)) _ _ s
  refine wpAny_notedAt ?_
  unfold compStart
  show wpAny _ _ (ask >>= _) _ _ s
  refine wpAny_bind (wpAny_askSetting (wpAny_ite ?_))
  split
  · first
      | exact wpAny_bind (wpAny_pure (wpAny_pure (And.intro rfl h0)))
      | exact wpAny_pure (And.intro rfl h0)
  · first
      | exact wpAny_bind (wpAny_rule (wpAny_bind (wpAny_standAt (wpAny_bind (wpAny_mono h (fun it' s' h' => wpAny_pure (And.intro rfl h')) fun _ _ x => x)))))
      | (refine wpAny_bind (wpAny_rule ?_); show wpAny _ _ (standAt i2.pos >>= _) _ _ s; exact wpAny_bind (wpAny_standAt (wpAny_bind (wpAny_mono h (fun it' s' h' => wpAny_pure (And.intro rfl h')) fun _ _ x => x))))

theorem take_succ_getD {l : List Int} {j : Nat} (h : j < l.length) : l.take (j + 1) = l.take j ++ [l.getD j 0] := by
  rw [List.take_succ_eq_append_getElem h]
  congr 2
  rw [List.getD_eq_getElem?_getD, List.getElem?_eq_getElem h]; rfl
/-- the inner loop: the words of one piece are laid at the list's end -/
theorem two_inner {prog : Program} {w : World} {A : Around} {e : Expr} {x : Str} {px px2 p1 : Pos} {ce : Env} {C D a : Addr} {nn : Nat} {h₃ : Heap} {s₂ s₄ : Shared} {base q : List Int} {ys vs : List Value} {mm tk₄ : Nat} {m₃ : Str → Option Value} {R : Result → Shared → Prop}
    (eq1 : ∀ it acc env, compTurn e 1 it acc env = (do
      standAt p1
      match ← pyNext it with
      | none => pure (.done .next)
      | some v =>
        letOwnedTupleGo (.Name x px) it v
        assign (.Name x px) env v
        (do let _ ← call (.builtin "list.append") [acc, ← eval (.Name x px2) env])
        again (.compLoop e 1 it acc env)))
    (hden : ∀ it acc env (Q : Fin → Shared → Prop) (E : Value → Shared → Prop) s, wpAny (model prog w) A ((compTurn e 1 it acc env).onRaise (fun x => do noteFrame x env; theTreesLotGoes x)) Q E s → wpAny (model prog w) (A.under (.compLoop e 1 it acc env)) ((model prog w).den (.compLoop e 1 it acc env)) Q E s)
    (hh : A.handled = none) (hek : ce.scope.kind = .function) (hkl : ce.kindOf x = some .local) (hnm : (ce.scope.kind == .class || (ce.scope.kind == .module && ce.locals != ce.globals)) = false) (hloc : ce.locals = C) (hd2 : (x == ("__debug__" : Str)) = false)
    (ea : h₃.get? a = some (lstO vs nn)) (rai : RdA [] h₃ vs (zints q)) (hn₃ : h₃.Ns C m₃) (hD₃ : h₃.get? D = some (lstO ys mm)) (hys : RdA [] h₃ ys (zints base)) (haC : a ≠ C) (haD : a ≠ D) (hDC : D ≠ C) (hz : ∀ j, (base ++ q.take j).length ≤ sizeLine)
    (hs₄ : s₄ = { s₂ with heap := h₃.push { cls := .type "list_iterator", data := .fields #[.ref a, .int 0 0] }, toks := tk₄ })
    (hR : ∀ h' tk ys' m' m'', h'.Ns C m'' → h'.get? D = some (lstO ys' m') → RdA [] h' ys' (zints (base ++ q)) → (∀ b o, b ≠ C → b ≠ D → h₃.get? b = some o → h'.get? b = some o) → R (.ok .next) { s₂ with heap := h', toks := tk }) :
    codeAny (model prog w) A (.compLoop e 1 (.ref h₃.objs.size) (.ref D) ce) R s₄ := by
  have haJ : a ≠ h₃.objs.size := Nat.ne_of_lt (Heap.lt_size ea)
  have Wj := Walks.list (prog := prog) (w := w) (A := A) hh h₃.objs.size a haJ vs.toArray
  have hqn : vs.toArray.size = q.length := by rw [List.size_toArray, rai.length, ints_len]
  rw [hqn] at Wj
  have hCJ : C ≠ h₃.objs.size := Nat.ne_of_lt hn₃.lt
  have hDJ : D ≠ h₃.objs.size := Nat.ne_of_lt (Heap.lt_size hD₃)
  have keep : ∀ {h' h'' : Heap}, (∀ b o, b ≠ h₃.objs.size → h'.get? b = some o → h''.get? b = some o) → (∀ b o, b ≠ C → b ≠ D → h₃.get? b = some o → h'.get? b = some o) → ∀ b o, b ≠ C → b ≠ D → h₃.get? b = some o → h''.get? b = some o := fun k1 k2 b o h1 h2 e => k1 b o (Nat.ne_of_lt (Heap.lt_size e)) (k2 b o h1 h2 e)
  refine codeAny_loop rfl (CI (fun j h' => (h'.IsListIter h₃.objs.size a j ∧ h'.IsList a vs.toArray) ∧ ∀ b o, b ≠ C → b ≠ D → h₃.get? b = some o → h'.get? b = some o) { objs := #[] } s₂ C D q.length [] fun j => zints (base ++ q.take j)) (fun m s' inv => ?_) (q.length + 1)
    (.mk _ tk₄ 0 ys mm _ hs₄ (Nat.zero_le _) rfl ⟨⟨⟨_, Heap.get?_push_size _ rfl, rfl, rfl⟩, ⟨_, Heap.get?_push_of_some _ ea, rfl, nn, rfl⟩⟩, fun b o _ _ e => Heap.get?_push_of_some _ e⟩ (hn₃.push _) (Heap.get?_push_of_some _ hD₃) (by rw [List.take_zero, List.append_nil]; exact hys.flat flat_ints) fun b o e => by cases b <;> cases e)
  refine hden _ _ _ _ _ _ (wpAny_noted ?_)
  rw [eq1]
  refine wpAny_bind (wpAny_standAt (wpAny_bind ?_))
  cases inv with
  | mk h' tk j ys' m' m'' es hj eq hst hnj hDj hysj _ =>
  obtain ⟨hstj, hkj⟩ := hst
  subst es eq
  by_cases hjl : j < q.length
  · refine Wj.item j _ _ _ hjl hstj fun v h₅ tk₅ hx hst₅ hk₅ => ?_
    have hk₅' : ∀ b o, b ≠ h₃.objs.size → h'.get? b = some o → h₅.get? b = some o := fun b o hb e => hk₅ b o (by simpa using hb) e
    refine wpAny_bind (wpAny_of_eq (rfl : letOwnedTupleGo (.Name x px) (.ref h₃.objs.size) v = pure ()) ?_)
    refine wpAny_bind (wpAny_assign_Name (wpAny_storeName_local hkl (by rw [hloc]; exact hnj.at' fun o e => hk₅' _ o hCJ e) (fun h₆ hn₆ hs₆ => ?_) hnm))
    rw [hloc] at hn₆ hs₆
    refine wpAny_bind (wpAny_bind (wpAny_Name (wpAny_loadName_local hek hkl (by rw [hloc]; exact hn₆) (show (if x = x then some v else m'' x) = some v from if_pos rfl) ?_) hd2))
    have hD₆ : h₆.get? D = some (lstO ys' m') := hs₆.extBut _ _ hDC (hk₅' _ _ hDJ hDj)
    obtain ⟨dx, hdx, rdx⟩ := rai.getV (show vs[j]? = some v by simpa using hx)
    have edx : dx = .int (q.getD j 0) := by
      have e1 : (zints q)[j]? = some (.int (q.getD j 0)) := by
        have := ints_get (ns := q) (i := (j : Int)) (by lia) (by lia)
        simpa using this
      rw [e1] at hdx; exact (Option.some.inj hdx).symm
    refine wpAny_bind (append_at hD₆ (fun h₇ hs₇ hD₇ => ?_) (by rw [List.size_toArray, hysj.length, ints_len]; exact hz j))
    refine wpAny_pure (wpAny_pure ⟨rfl, q.length + 1 - (j + 1), by lia, .mk h₇ _ (j + 1) (ys' ++ [v]) (m' + 1) _ rfl hjl rfl ⟨⟨(hst₅.1.at fun o e => hs₆.extBut _ o (Ne.symm hCJ) e).at fun o e => hs₇.extBut _ o (Ne.symm hDJ) e, (hst₅.2.at fun o e => hs₆.extBut _ o haC e).at fun o e => hs₇.extBut _ o haD e⟩, fun b o h1 h2 e => hs₇.extBut b o h2 (hs₆.extBut b o h1 (keep hk₅' hkj b o h1 h2 e))⟩ (hn₆.sameBut hs₇ (Ne.symm hDC)) (by rw [hD₇, List.push_toArray]) ?_ fun b o e => by cases b <;> cases e⟩)
    show RdA _ _ _ (zints (base ++ q.take (j + 1)))
    rw [take_succ_getD hjl, ← List.append_assoc, ← cat_ints]
    refine RdA.append (hysj.flat flat_ints) (.cons ?_ .nil)
    rw [edx] at rdx
    exact rdx.flat rfl
  · obtain rfl : j = q.length := by lia
    refine Wj.done _ _ _ hstj fun h₅ tk₅ hk₅ => ?_
    have hk₅' : ∀ b o, b ≠ h₃.objs.size → h'.get? b = some o → h₅.get? b = some o := fun b o hb e => hk₅ b o (by simpa using hb) e
    rw [List.take_length] at hysj
    exact wpAny_pure (hR h₅ tk₅ ys' m' _ (hnj.at' fun o e => hk₅' _ o hCJ e) (hk₅' _ _ hDJ hDj) (hysj.flat flat_ints) (keep hk₅' hkj))

section
variable {W : Wd} {k : Nat} {A : Around} {h₀ : Heap} {L : Addr} {env : Env} {X Y : List Addr} {h : Heap}
/-- the words of all pieces, one after the other -/
theorem comp_two {iter : Expr} {p w : Str} {pp pw pw2 pp2 pos : Pos} {scope : Scope} {cl : List (Str × Addr)} {P : List (List Int)} {n : Nat} {it : Nat → V} (c : Cx W k A h₀ L env X h)
    (hcell : ∀ y ∈ scope.names, y.2 ≠ .cell) (hkind : scope.kind = .function) (hxp : scope.names.lookup p = some .local) (hxw : scope.names.lookup w = some .local)
    (hsrc : Src W A env X h iter n it) (hPn : P.length = n) (hitP : ∀ i, i < n → it i = .lst (zints (P.getD i []))) (hn : P.flatten.length ≤ sizeLine)
    (hd1 : (p == ("__debug__" : Str)) = false := by decide) (hd2 : (w == ("__debug__" : Str)) = false := by decide)
    (hfs : ∀ env x, foldedSetIterable (.Name p pp2) env x = pure x := by intro _ _; rfl) :
    CompR W A env X h (.ListComp (.Name w pw2) [⟨.Name p pp, iter, [], 0⟩, ⟨.Name w pw, .Name p pp2, [], 0⟩] scope pos) iter scope cl (zints P.flatten) := fun RR s E l fin => by
  refine hsrc s _ _ l fun I fp Pv St s₂ g₂ hIn Wk hst hfp hIs hit => ?_
  have l₂ : Le h s₂.heap := l.trans g₂.le
  refine wpAny_newObj_type (wpAny_newFunctionEnv hcell (by intro y hy; simp at hy) (fun h₁ hns₁ hsb₁ => ?_) hkind)
  dsimp only at hns₁ hsb₁ ⊢
  generalize hH2 : s₂.heap.push { cls := .type "list", dict := none, data := .seq ([] : List Value).toArray } = H2 at hns₁ hsb₁ ⊢
  have hCs : H2.objs.size = s₂.heap.objs.size + 1 := by rw [← hH2, Heap.size_push]
  have hDC : s₂.heap.objs.size ≠ H2.objs.size := by rw [hCs]; exact Nat.ne_of_lt (Nat.lt_succ_self _)
  have below : ∀ b, b < s₂.heap.objs.size → b ≠ H2.objs.size ∧ b ≠ s₂.heap.objs.size := fun b hb => ⟨by rw [hCs]; exact Nat.ne_of_lt (Nat.lt_succ_of_lt hb), Nat.ne_of_lt hb⟩
  have old : ∀ b o, s₂.heap.get? b = some o → h₁.get? b = some o := fun b o e => hsb₁.extBut b o (below b (Heap.lt_size e)).1 (Heap.get?_push_of_some _ (hH2 ▸ Heap.get?_push_of_some _ e))
  have hacc : h₁.get? s₂.heap.objs.size = some (lstO [] 0) := hsb₁.extBut _ _ hDC (Heap.get?_push_of_some _ (hH2 ▸ Heap.get?_push_size _ rfl))
  have hst₁ : St 0 h₁ := Wk.frame _ _ _ hst fun b _ o e => old b o e
  have hIlt : I < s₂.heap.objs.size := hfp I (Wk.sub I (List.mem_singleton.mpr rfl))
  have hDX : s₂.heap.objs.size ∉ X := c.fresh l₂
  have hkl : ∀ {x}, scope.names.lookup x = some .local → (compEnvC scope cl H2.objs.size env).kindOf x = some .local := fun hx => lookup_relabel_local hx
  have hek : (compEnvC scope cl H2.objs.size env).scope.kind = .function := hkind
  have hnm : ((compEnvC scope cl H2.objs.size env).scope.kind == .class || ((compEnvC scope cl H2.objs.size env).scope.kind == .module && (compEnvC scope cl H2.objs.size env).locals != (compEnvC scope cl H2.objs.size env).globals)) = false := by simp [compEnvC, relabel, hkind]
  have hloc : (compEnvC scope cl H2.objs.size env).locals = H2.objs.size := rfl
  have fresh : ∀ a, s₂.heap.objs.size ≤ a → (TI.gone s₂.heap [I]).get? a = none := fun a ha => by
    cases e : (TI.gone s₂.heap [I]).get? a with
    | none => rfl
    | some o' => exact absurd (Heap.lt_size (TI.gone_some e).2) (Nat.not_lt.mpr ha)
  have hfin : ∀ h' tk ys m m', h'.Ns H2.objs.size m' → h'.get? s₂.heap.objs.size = some (lstO ys m) → RdA [] h' ys (zints P.flatten) → (∀ b o, (TI.gone s₂.heap [I]).get? b = some o → h'.get? b = some o) → RR (.ref s₂.heap.objs.size) H2.objs.size (.ok .next) { s₂ with heap := h', toks := tk } := fun h' tk ys m m' hns hD hys hk => by
    have sI : ∀ b o, s.heap.get? b = some o → (TI.gone s₂.heap [I]).get? b = some o := fun b o e => by rw [TI.gone_get (fun hm => by rw [List.mem_singleton.mp hm, hIn] at e; cases e)]; exact g₂.le b o e
    have nos : ∀ b, s₂.heap.objs.size ≤ b → s.heap.get? b = none := fun b hb => by
      cases q : s.heap.get? b with
      | none => rfl
      | some o => have := sI b o q; rw [fresh b hb] at this; cases this
    exact fin _ _ ys m m' _ (g₂.same.elim fun hh q => q.elim fun tt e => ⟨⟨h', tk, by rw [e]⟩, fun b o q => hk b o (sI b o q)⟩) (nos _ (Nat.le_refl _)) (nos _ (by rw [hCs]; exact Nat.le_succ _)) (Ne.symm hDC) hns hD hDX (hys.flat flat_ints)
  clear fin
  show codeAny (model W.prog W.w) A (.compStart (.ListComp (.Name w pw2) [⟨.Name p pp, iter, [], 0⟩, ⟨.Name w pw, .Name p pp2, [], 0⟩] scope pos) 0 (.ref I) (.ref s₂.heap.objs.size) (compEnvC scope cl H2.objs.size env)) (RR (.ref s₂.heap.objs.size) H2.objs.size) { s₂ with heap := h₁, toks := s₂.toks + ([] : List (Str × Value)).length }
  generalize RR (.ref s₂.heap.objs.size) H2.objs.size = R at hfin ⊢
  have eq0 := fun it acc env => compTurn_two0 (.Name w pw2) (.Name p pp) iter (.Name w pw) (.Name p pp2) scope pos it acc env
  have eq1 := fun it acc env => compTurn_two1 (.Name w pw2) (.Name p pp) iter (.Name w pw) (.Name p pp2) scope pos it acc env
  have es1 := fun (R : Result → Shared → Prop) s it acc env => compStart_two1 (prog := W.prog) (w := W.w) (A := A) (R := R) (s := s) (elt := .Name w pw2) (t1 := .Name p pp) (i1 := iter) (t2 := .Name w pw) (i2 := .Name p pp2) (scope := scope) (pos := pos) (it := it) (acc := acc) (env := env)
  have hd0 : ∀ it acc env (Q : Fin → Shared → Prop) (E : Value → Shared → Prop) s, wpAny (model W.prog W.w) A ((compTurn (.ListComp (.Name w pw2) [⟨.Name p pp, iter, [], 0⟩, ⟨.Name w pw, .Name p pp2, [], 0⟩] scope pos) 0 it acc env).onRaise (fun x => do noteFrame x env; theTreesLotGoes x)) Q E s → wpAny (model W.prog W.w) (A.under (.compLoop (.ListComp (.Name w pw2) [⟨.Name p pp, iter, [], 0⟩, ⟨.Name w pw, .Name p pp2, [], 0⟩] scope pos) 0 it acc env)) ((model W.prog W.w).den (.compLoop (.ListComp (.Name w pw2) [⟨.Name p pp, iter, [], 0⟩, ⟨.Name w pw, .Name p pp2, [], 0⟩] scope pos) 0 it acc env)) Q E s := fun _ _ _ _ _ _ h => h
  have hd1' : ∀ it acc env (Q : Fin → Shared → Prop) (E : Value → Shared → Prop) s, wpAny (model W.prog W.w) A ((compTurn (.ListComp (.Name w pw2) [⟨.Name p pp, iter, [], 0⟩, ⟨.Name w pw, .Name p pp2, [], 0⟩] scope pos) 1 it acc env).onRaise (fun x => do noteFrame x env; theTreesLotGoes x)) Q E s → wpAny (model W.prog W.w) (A.under (.compLoop (.ListComp (.Name w pw2) [⟨.Name p pp, iter, [], 0⟩, ⟨.Name w pw, .Name p pp2, [], 0⟩] scope pos) 1 it acc env)) ((model W.prog W.w).den (.compLoop (.ListComp (.Name w pw2) [⟨.Name p pp, iter, [], 0⟩, ⟨.Name w pw, .Name p pp2, [], 0⟩] scope pos) 1 it acc env)) Q E s := fun _ _ _ _ _ _ h => h
  have start : ∀ {s₃ : Shared}, codeAny (model W.prog W.w) A (.compLoop (.ListComp (.Name w pw2) [⟨.Name p pp, iter, [], 0⟩, ⟨.Name w pw, .Name p pp2, [], 0⟩] scope pos) 0 (.ref I) (.ref s₂.heap.objs.size) (compEnvC scope cl H2.objs.size env)) R s₃ → St 0 s₃.heap → codeAny (model W.prog W.w) A (.compStart (.ListComp (.Name w pw2) [⟨.Name p pp, iter, [], 0⟩, ⟨.Name w pw, .Name p pp2, [], 0⟩] scope pos) 0 (.ref I) (.ref s₂.heap.objs.size) (compEnvC scope cl H2.objs.size env)) R s₃ := fun hl hs => codeAny_compStart_list hl (Wk.self 0 _ _ _ hs hl)
  refine start (s₃ := { s₂ with heap := h₁, toks := s₂.toks + ([] : List (Str × Value)).length }) ?_ hst₁
  clear start
  generalize (PySem.Expr.ListComp (.Name w pw2) [⟨.Name p pp, iter, [], 0⟩, ⟨.Name w pw, .Name p pp2, [], 0⟩] scope pos) = e at eq0 eq1 es1 hd0 hd1' ⊢
  generalize compEnvC scope cl H2.objs.size env = ce at hkl hek hnm hloc ⊢
  refine codeAny_loop rfl (CI St (TI.gone s₂.heap [I]) s₂ H2.objs.size s₂.heap.objs.size n [] fun i => zints (P.take i).flatten) (fun q s' inv => ?_) (n + 1) (.mk h₁ _ 0 [] 0 _ rfl (Nat.zero_le _) rfl hst₁ hns₁ hacc .nil fun b o e => old b o (TI.gone_some e).2)
  refine hd0 _ _ _ _ _ _ (wpAny_noted ?_)
  rw [eq0]
  refine wpAny_bind (wpAny_standAt (wpAny_bind ?_))
  cases inv with
  | mk h' tk i ys mm m' es hi eq hst' hn' hD' hys hk' =>
  subst es eq
  have offI : ∀ b o, (TI.gone s₂.heap [I]).get? b = some o → b ≠ I := fun b o e z => (TI.gone_some e).1 (by rw [z]; exact .head _)
  by_cases hlt : i < n
  · refine Wk.item i _ _ _ hlt hst' fun v h₂ tk₂ hPv hst₂ hk₂ => ?_
    have hk₂' : ∀ b o, b ≠ I → h'.get? b = some o → h₂.get? b = some o := fun b o hb e => hk₂ b o (by simpa using hb) e
    refine wpAny_bind (wpAny_of_eq (rfl : letOwnedTupleGo (.Name p pp) (.ref I) v = pure ()) ?_)
    refine wpAny_bind (wpAny_assign_Name (wpAny_storeName_local (hkl hxp) (by rw [hloc]; exact hn'.at' fun o e => hk₂' _ o (Ne.symm (below I hIlt).1) e) (fun h₃ hn₃ hs₃ => ?_) hnm))
    rw [hloc] at hn₃ hs₃
    have k3 : ∀ b o, (TI.gone s₂.heap [I]).get? b = some o → h₃.get? b = some o := fun b o e => hs₃.extBut b o (fun z => by rw [z, fresh _ (by rw [hCs]; exact Nat.le_succ _)] at e; cases e) (hk₂' b o (offI b o e) (hk' b o e))
    have hD₃ : h₃.get? s₂.heap.objs.size = some (lstO ys mm) := hs₃.extBut _ _ hDC (hk₂' _ _ (Ne.symm (below I hIlt).2) hD')
    have hst₃ : St (i + 1) h₃ := Wk.frame _ _ _ hst₂ fun b hb o e => hs₃.extBut b o (fun z => (below b (hfp b hb)).1 z) e
    have rdv : Rd X s₂.heap v (it i) := hit i v s₂.heap hlt hPv fun b o _ e => e
    rw [hitP i hlt] at rdv
    obtain ⟨a, vs, nn, rfl, ea₂, hax, ra₂⟩ := rdv.lst_inv
    obtain ⟨oI0, heI0, hnI0⟩ := hIs _ _ hst
    have haI : a ≠ I := fun z => hnI0 (by rw [z, heI0] at ea₂; cases ea₂; exact .seq rfl)
    have ea : h₃.get? a = some (lstO vs nn) := k3 a _ (by rw [TI.gone_get (by simpa using haI)]; exact ea₂)
    refine wpAny_bind (wpAny_Name (wpAny_loadName_local hek (hkl hxp) (by rw [hloc]; exact hn₃) (show (if p = p then some (Value.ref a) else m' p) = some (Value.ref a) from if_pos rfl) ?_) hd1)
    refine wpAny_bind (wpAny_standAt (wpAny_bind (wpAny_of_eq (hfs _ _) (wpAny_bind (wpAny_holding (wpAny_pyIter_list ⟨_, ea, rfl, nn, rfl⟩ ?_))))))
    have hlP : i < P.length := by lia
    have hgi : P.getD i [] = P[i] := by rw [List.getD_eq_getElem?_getD, List.getElem?_eq_getElem hlP]; rfl
    have hPi : (P.take (i + 1)).flatten = (P.take i).flatten ++ P.getD i [] := by rw [List.take_succ_eq_append_getElem hlP, flat_snoc, ← hgi]
    have hPlen : ∀ j, ((P.take i).flatten ++ (P.getD i []).take j).length ≤ sizeLine := fun j => by
      refine Nat.le_trans ?_ hn
      have e2 : (P.take (i + 1)).flatten.length ≤ P.flatten.length := by
        conv => rhs; rw [← List.take_append_drop (i + 1) P, List.flatten_append, List.length_append]
        exact Nat.le_add_right _ _
      rw [hPi, List.length_append] at e2
      rw [List.length_append, List.length_take]
      exact Nat.le_trans (Nat.add_le_add_left (Nat.min_le_right _ _) _) e2
    refine wpAny_bind (wpAny_runOwn ?_)
    have inner : ∀ {s₄ : Shared} {tk₄ : Nat}, s₄ = { s₂ with heap := h₃.push { cls := .type "list_iterator", data := .fields #[.ref a, .int 0 0] }, toks := tk₄ } → codeAny (model W.prog W.w) A (.compLoop e 1 (.ref h₃.objs.size) (.ref s₂.heap.objs.size) ce) (fun r s' => match r with
        | .ok f => ∃ m, m < n + 1 - i ∧ CI St (TI.gone s₂.heap [I]) s₂ H2.objs.size s₂.heap.objs.size n [] (fun i => zints (P.take i).flatten) m s'
        | .error e => False) s₄ := fun {s₄ tk₄} es => by
      refine two_inner eq1 hd1' c.cn.hand hek (hkl hxw) hnm hloc hd2 ea (ra₂.flat flat_ints) hn₃ hD₃ (hys.flat flat_ints) (below a (Heap.lt_size ea₂)).1 (below a (Heap.lt_size ea₂)).2 hDC hPlen es fun h₅ tk₅ ys' m₅ m₆ hn₅ hD₅ hys₅ hk₅ => ⟨n + 1 - (i + 1), by lia, .mk h₅ tk₅ (i + 1) ys' m₅ m₆ rfl hlt rfl ?_ hn₅ hD₅ ?_ fun b o e => ?_⟩
      · exact Wk.frame _ _ _ hst₃ fun b hb o e => hk₅ b o (below b (hfp b hb)).1 (below b (hfp b hb)).2 e
      · show RdA _ _ _ (zints (P.take (i + 1)).flatten)
        rw [hPi]; exact hys₅
      · exact hk₅ b o (below b (Heap.lt_size (TI.gone_some e).2)).1 (below b (Heap.lt_size (TI.gone_some e).2)).2 (k3 b o e)
    refine codeAny_mono (es1 _ _ _ _ _ (inner rfl) (wpAny_pyIter_listiter (i := 0) (l := a) ⟨_, Heap.get?_push_size _ rfl, rfl, rfl⟩ (inner rfl))) fun r s' hr => ?_
    cases r with
    | error e => exact hr.elim
    | ok f => exact wpAny_pure ⟨rfl, hr⟩
  · obtain rfl : i = n := by lia
    refine Wk.done _ _ _ hst' fun h₂ tk₂ hk₂ => ?_
    have hk₂' : ∀ b o, b ≠ I → h'.get? b = some o → h₂.get? b = some o := fun b o hb e => hk₂ b o (by simpa using hb) e
    rw [List.take_of_length_le (by lia)] at hys
    exact wpAny_pure (hfin h₂ tk₂ ys mm m' (hn'.at' fun o e => hk₂' _ o (Ne.symm (below I hIlt).1) e) (hk₂' _ _ (Ne.symm (below I hIlt).2) hD') (hys.flat flat_ints) fun b o e => hk₂' b o (offI b o e) (hk' b o e))

theorem va_cons {q : Int × Value} {r : List (Int × Value)} {k' : Int} : valueAt (q :: r) k' = if q.1 = k' then some q.2 else valueAt r k' := by
  unfold valueAt
  rw [List.find?_cons]
  by_cases h : q.1 = k' <;> simp [h]
theorem va_map {k k' : Int} {v : Value} : ∀ {kvs : List (Int × Value)}, valueAt (kvs.map fun kv => if kv.1 = k then (kv.1, v) else kv) k' = if k' = k then (valueAt kvs k).map (fun _ => v) else valueAt kvs k'
  | [] => by simp [valueAt]
  | q :: r => by
    have ih := va_map (k := k) (k' := k') (v := v) (kvs := r)
    rw [List.map_cons, va_cons, va_cons, va_cons, ih]
    by_cases h1 : q.1 = k
    · by_cases h2 : q.1 = k'
      · have : k' = k := h2.symm.trans h1
        simp [h1, this]
      · have : ¬ k' = k := fun e => h2 (h1.trans e.symm)
        have h3 : ¬ k = k' := fun e => this e.symm
        simp [h1, this, h3]
    · by_cases h2 : q.1 = k'
      · have : ¬ k' = k := fun e => h1 (h2.trans e)
        simp [h1, h2, this]
      · simp [h1, h2]
theorem va_app {k k' : Int} {v : Value} : ∀ {kvs : List (Int × Value)}, valueAt (kvs ++ [(k, v)]) k' = (valueAt kvs k').or (if k = k' then some v else none)
  | [] => by rw [List.nil_append, va_cons]; simp [valueAt]
  | q :: r => by
    rw [List.cons_append, va_cons, va_cons, va_app]
    by_cases h : q.1 = k' <;> simp [h]
theorem va_any {k : Int} : ∀ {kvs : List (Int × Value)}, kvs.any (fun kv => kv.1 = k) = (valueAt kvs k).isSome
  | [] => by simp [valueAt]
  | q :: r => by
    rw [List.any_cons, va_cons, va_any]
    by_cases h : q.1 = k <;> simp [h]
theorem valueAt_stored {kvs : List (Int × Value)} {k k' : Int} {v : Value} : valueAt (stored kvs k v) k' = if k' = k then some v else valueAt kvs k' := by
  unfold stored
  rw [va_any]
  split
  · rename_i h
    rw [va_map]
    by_cases hk : k' = k
    · rw [if_pos hk, if_pos hk]
      obtain ⟨x, hx⟩ := Option.isSome_iff_exists.mp h
      rw [hx]; rfl
    · rw [if_neg hk, if_neg hk]
  · rename_i h
    rw [va_app]
    have hno : valueAt kvs k = none := by simpa using h
    by_cases hk : k' = k
    · subst hk; rw [hno]; simp
    · rw [if_neg hk, if_neg fun e => hk e.symm]; simp

theorem lookup_mem : ∀ {l : List (Int × Int)} {a b : Int}, l.lookup a = some b → (a, b) ∈ l
  | (k, v) :: l, a, b, h => by
    rw [List.lookup_cons] at h
    split at h
    · rename_i q
      have := eq_of_beq q
      subst this
      cases h
      exact .head _
    · exact .tail _ (lookup_mem h)
/-- what the loop of a table's comprehension has stored -/
theorem stored_all {kf vf : Nat → Int} {N : Nat} (hinj : ∀ i j, i < N → j < N → kf i = kf j → i = j) {l : List Value} {kvs : List (Int × Value)} (h : StoredAll (fun v k => ∃ i t, v = .int ((i : Nat) : Int) t ∧ k = kf i) (fun v y => ∃ i t t', v = .int ((i : Nat) : Int) t ∧ y = .int (vf i) t') l kvs)
    (hl : ∀ j v, l[j]? = some v → j < N ∧ ∃ t, v = .int ((j : Nat) : Int) t) : ∀ j, j < l.length → ∃ t, valueAt kvs (kf j) = some (.int (vf j) t) := by
  induction h with
  | nil => intro j hj; simp at hj
  | @snoc l kvs v k y _ hk hv ih =>
    intro j hj
    have ih := ih fun j v e => hl j v (by rw [List.getElem?_append_left (List.getElem?_eq_some_iff.mp e).1]; exact e)
    obtain ⟨hN, t0, e0⟩ := hl l.length v (by simp)
    obtain ⟨i1, t1, e1, rfl⟩ := hk
    obtain ⟨i2, t2, t3, e2, rfl⟩ := hv
    have q1 : i1 = l.length := by rw [e0] at e1; injection e1 with e1; lia
    have q2 : i2 = l.length := by rw [e0] at e2; injection e2 with e2; lia
    subst q1
    subst q2
    rw [valueAt_stored]
    by_cases hjl : j < l.length
    · rw [if_neg fun e => by have := hinj _ _ (by lia) hN e; lia]
      exact ih j hjl
    · rw [List.length_append, List.length_singleton] at hj
      obtain rfl : j = l.length := by lia
      rw [if_pos rfl]; exact ⟨_, rfl⟩

/-- a table made by a comprehension over a range -/
theorem ev_dictc {kx vx e : Expr} {rg x : Str} {pr px rp pos : Pos} {scope : Scope} {cl : List (Str × Addr)} {N : Nat} {kf vf : Nat → Int} (c : Cx W k A h₀ L env X h)
    (hclos : closureFor scope env = pure cl) (hcell : ∀ y ∈ scope.names, y.2 ≠ .cell) (hkind : scope.kind = .function) (hnames : ∀ y ∈ scope.names, y.2 = .local → scope.names.lookup y.1 = some .local) (hx : scope.names.lookup x = some .local)
    (hr : EvV W A env h (.Name rg pr) (.type "range")) (he : Ev W A env [] h e (.int (N : Nat))) (hN : N ≤ 1000) (hinj : ∀ i j, i < N → j < N → kf i = kf j → i = j)
    (hkey : ∀ i C v h', i < N → Le h h' → Cx W k A h₀ L (compEnvC scope cl C env) X h' → Var (compEnvC scope cl C env) h' x v → Rd X h' v (.int (i : Nat)) → Ev W A (compEnvC scope cl C env) [] h' kx (.int (kf i)))
    (hval : ∀ i C v h', i < N → Le h h' → Cx W k A h₀ L (compEnvC scope cl C env) X h' → Var (compEnvC scope cl C env) h' x v → Rd X h' v (.int (i : Nat)) → Ev W A (compEnvC scope cl C env) [] h' vx (.int (vf i)))
    (hse : starEach [e] env = [(false, eval e env)] := by rfl) (hs : ∀ x, foldedSetIterable (.Call (.Name rg pr) [e] [] rp) env x = pure x := by intro _; rfl) :
    Ev W A env X h (.DictComp kx vx [⟨.Name x px, .Call (.Name rg pr) [e] [] rp, [], 0⟩] scope pos) (if 0 < N then .dct ((List.range N).map fun i => (kf i, vf i)) else .any) := fun s Q E l f => by
  refine wpAny_DictComp_free (intKind W.prog W.w) (fun _ => true) (fun v k => ∃ i t, v = .int ((i : Nat) : Int) t ∧ k = kf i) (fun v y => ∃ i t t', v = .int ((i : Nat) : Int) t ∧ y = .int (vf i) t') hclos hcell hkind hnames hx (evr hr he l (by lia) (by lia) (fun I s₂ g₂ hIn hI => ?_) hse) hs
  have hNN : ((N : Int)).toNat = N := by lia
  rw [hNN] at hI
  have hhI : h.get? I = none := by
    cases e : h.get? I with
    | none => rfl
    | some o => have := l _ _ e; rw [hIn] at this; cases this
  have l₂ : Le h s₂.heap := l.trans g₂.le
  have W0 := Walks.range (prog := W.prog) (w := W.w) (A := A) c.cn.hand I 0 1 N
  have W1 : Walks W.prog W.w A I [I] [I] N (fun i v => i < N ∧ ∃ t, v = .int ((i : Nat) : Int) t) (fun i h => IsRangeIter h I (0 + (i : Nat) * 1) ((N : Int) - (i : Nat)) 1) :=
    { sub := W0.sub, frame := W0.frame, done := W0.done, self := W0.self
      item := fun i s Q E hi st hQ => W0.item i s Q E hi st fun v h' tk hP st' hk => hQ v h' tk ⟨hi, by obtain ⟨t, rfl⟩ := hP; exact ⟨t, by rw [Int.zero_add, Int.mul_one]⟩⟩ st' hk }
  have cx : ∀ {C : Addr} {v : Value} {s₃ : Shared} {m₃ : Str → Option Value}, s₃.heap.Ns C m₃ → m₃ x = some v → (∀ b o, b ∉ [I] → s₂.heap.get? b = some o → s₃.heap.get? b = some o) → Le h s₃.heap ∧ Cx W k A h₀ L (compEnvC scope cl C env) X s₃.heap ∧ Var (compEnvC scope cl C env) s₃.heap x v := fun hns hm hk => by
    have lh : Le h _ := fun b o e => hk b o (fun hb => by rw [List.mem_singleton.mp hb, hhI] at e; cases e) (l₂ b o e)
    exact ⟨lh, ⟨c.cn.le lh, hkind, c.eg, c.eb, (c.le lh).xs⟩, .inl ⟨lookup_relabel_local hx, _, hns, hm⟩⟩
  refine ⟨I, [I], [I], N, _, _, rfl, W1, by unfold sizeLine; lia, by simpa using hI, ?_, ⟨?_, ?_, ?_⟩, ?_⟩
  · intro b hb; rw [List.mem_singleton.mp hb]; exact Heap.lt_size hI
  · intro C i v s₃ m₃ E' _ _ _ _
    exact wpAny_tests_nil ⟨rfl, _, _, rfl, fun _ _ e => e⟩
  · rintro C i v s₃ m₃ E' ⟨hi, t, rfl⟩ _ hns hm hk
    obtain ⟨lh, cx', vx'⟩ := cx hns hm hk
    refine hkey i C _ _ hi lh cx' vx' (.int _ _) s₃ _ _ (Le.refl _) fun v s₄ g₄ r₄ => ?_
    obtain ⟨_, rfl⟩ := r₄.int_inv
    obtain ⟨⟨h4, t4, e4⟩, le4⟩ := g₄
    exact ⟨⟨kf i, intKind_is _ _ _ _, i, t, rfl, rfl⟩, h4, t4, e4, by rw [e4] at le4; exact le4⟩
  · rintro C i v s₃ m₃ E' ⟨hi, t, rfl⟩ _ hns hm hk
    obtain ⟨lh, cx', vx'⟩ := cx hns hm hk
    refine hval i C _ _ hi lh cx' vx' (.int _ _) s₃ _ _ (Le.refl _) fun v s₄ g₄ r₄ => ?_
    obtain ⟨_, rfl⟩ := r₄.int_inv
    obtain ⟨⟨h4, t4, e4⟩, le4⟩ := g₄
    exact ⟨⟨i, t, _, rfl, rfl⟩, h4, t4, e4, by rw [e4] at le4; exact le4⟩
  · intro D h' tk kvs vs hD hdict hvl hP hst hk
    have hft : vs.filter (fun _ => true) = vs := List.filter_eq_self.mpr fun _ _ => rfl
    rw [hft] at hst
    have hv := stored_all hinj hst hP
    have hgw : Gw s { s₂ with heap := h', toks := tk } := by
      obtain ⟨⟨h2, t2, e2⟩, le2⟩ := g₂
      exact ⟨⟨h', tk, by rw [e2]⟩, fun b o e => hk b o (fun hb => by rw [List.mem_singleton.mp hb, hIn] at e; cases e) (le2 b o e)⟩
    refine f _ _ hgw ?_
    by_cases hN0 : 0 < N
    case neg => rw [if_neg hN0]; exact .any _
    rw [if_pos hN0]
    have hmo := hdict.mapOf
    obtain ⟨o, es, ep, ho, hex, hdat, hkeys, hfind⟩ := hmo
    have hik : IntKeys es := fun e he => by
      obtain ⟨k0, h1, h2⟩ := hkeys e he
      have h1' : Value.isInt k0 e.key = true := h1
      cases hkk : e.key with
      | int i t =>
        rw [hkk] at h1'
        have : i = k0 := by simpa [Value.isInt] using h1'
        subst this
        exact ⟨i, t, rfl, h2⟩
      | _ => rw [hkk] at h1'; simp [Value.isInt] at h1'
    have hfd : ∀ j, j < N → ∃ t, findBy Value.isInt es (kf j) = some (.int (vf j) t) := fun j hj => by
      obtain ⟨t, ht⟩ := hv j (by rw [hvl]; exact hj)
      exact ⟨t, (hfind (kf j)).trans ht⟩
    refine .dct ho (fun hm => ?_) ⟨hex, es, ep, hdat, hik, ?_, fun kk ii hlk => ?_⟩
    · obtain ⟨ox, ex⟩ := c.xs D hm
      have := l₂ _ _ ex
      rw [hD] at this; cases this
    · obtain ⟨t, ht⟩ := hfd 0 hN0
      cases hz : es.size with
      | zero =>
        have : es = #[] := Array.size_eq_zero_iff.mp hz
        subst this
        simp [findBy] at ht
      | succ n => exact Nat.succ_pos n
    · have hm := lookup_mem hlk
      obtain ⟨j, hj, ej⟩ := List.mem_map.mp hm
      have e1 : kf j = kk := congrArg Prod.fst ej
      have e2 : vf j = ii := congrArg Prod.snd ej
      rw [← e1, ← e2]
      exact hfd j (List.mem_range.mp hj)
end
end Mine
namespace Mine
open PySem PySem.Calls PySem.Spec PyProof.Rows
/-- zip of two lists, gone over -/
theorem zip_src {prog : Program} {w : World} {A : Around} {sC : Shared} {l1 l2 : Addr} {us vs : List Value} {n1 n2 n : Nat} {elts : List Expr} {kk : Nat} {tp : Pos} {Q E : Value → Shared → Prop} (hh : A.handled = none) (eu : sC.heap.get? l1 = some (lstO us n1)) (ev : sC.heap.get? l2 = some (lstO vs n2)) (hun : us.length = n) (hvn : vs.length = n)
    (hQ : ∀ (z : Addr) (fp wr : List Addr) (Md : Nat → Value → Heap → Prop) (St : Nat → Heap → Prop) (hZ : Heap), PySem.W.KTurns prog w A (.Tuple elts kk tp) z fp wr n (fun i v h => ∃ T vals, v = .ref T ∧ (∃ x y, us[i]? = some x ∧ vs[i]? = some y ∧ vals = #[x, y]) ∧ h.IsTuple T vals) Md St → (∀ (s : Shared) (Q E : Value → Shared → Prop), St 0 s.heap → Q (.ref z) s → wpAny (model prog w) A (pyIter (.ref z)) Q E s) → St 0 hZ → (∀ b ∈ fp, b < hZ.objs.size) → Le sC.heap hZ → (∀ q ∈ wr, sC.heap.get? q = none) → (∀ i h', St i h' → ∀ q ∈ wr, ∃ o, h'.get? q = some o) → Q (.ref z) { sC with heap := hZ }) :
    wpAny (model prog w) A (call (.type "zip") [.ref l1, .ref l2]) (fun xv s₁ => wpAny (model prog w) A (pyIter xv) Q E s₁) E sC := by
  have hl1 : sC.heap.IsList l1 us.toArray := ⟨_, eu, rfl, n1, rfl⟩
  have hl2 : sC.heap.IsList l2 vs.toArray := ⟨_, ev, rfl, n2, rfl⟩
  refine call_zip_2 hl1 hl2 fun hZ iz iTI iTO ii1 ii2 hZs hZk => wpAny_pyIter_zip (s := { sC with heap := hZ }) iz ?_
  have D := zipApart_new (Heap.lt_size eu) (Heap.lt_size ev)
  have Wk := (WalksT.zip2 (prog := prog) (w := w) (A := A) hh _ _ _ _ _ l1 l2 D us.toArray vs.toArray).toU
  rw [show min us.toArray.size vs.toArray.size = n by rw [List.size_toArray, List.size_toArray, hun, hvn, Nat.min_self]] at Wk
  have a1 := Heap.lt_size eu
  have a2 := Heap.lt_size ev
  have K := PySem.W.KTurns.ofWalksU (elts := elts) (k := kk) (pos := tp) Wk
  simp only [List.getElem?_toArray] at K
  refine hQ _ _ _ _ _ hZ K (fun s Q E => Wk.self 0 s Q E) ⟨iz, iTI, ⟨_, _, iTO⟩, ii1, ii2, Heap.IsList.at hl1 (fun o e => hZk _ o e), Heap.IsList.at hl2 (fun o e => hZk _ o e)⟩ ?_ hZk ?_ ?_
  · intro b hb
    have lt : ∀ k, k < 5 → sC.heap.objs.size + k < hZ.objs.size := fun k hk => by rw [hZs]; exact Nat.add_lt_add_left hk _
    have lt0 : ∀ b, b < sC.heap.objs.size → b < hZ.objs.size := fun b hb => Nat.lt_of_lt_of_le hb (by rw [hZs]; exact Nat.le_add_right _ _)
    simp only [List.mem_cons, List.not_mem_nil, or_false] at hb
    rcases hb with e | e | e | e | e | e | e
    · exact e ▸ lt 4 (by decide)
    · exact e ▸ lt 2 (by decide)
    · exact e ▸ lt 3 (by decide)
    · exact e ▸ lt 0 (by decide)
    · exact e ▸ lt 1 (by decide)
    · exact e ▸ lt0 _ a1
    · exact e ▸ lt0 _ a2
  · intro q hq
    have nn : ∀ q, sC.heap.objs.size ≤ q → sC.heap.get? q = none := fun q hq => by
      cases e : sC.heap.get? q with
      | none => rfl
      | some o' => exact absurd (Heap.lt_size e) (Nat.not_lt.mpr hq)
    simp only [List.mem_cons, List.not_mem_nil, or_false] at hq
    rcases hq with e | e | e | e
    · exact nn _ (e ▸ Nat.le_add_right _ _)
    · exact nn _ (e ▸ Nat.le_add_right _ _)
    · exact nn _ (e ▸ Nat.le_refl _)
    · exact nn _ (e ▸ Nat.le_add_right _ _)
  · rintro i h' ⟨q1, q2, ⟨_, _, q3⟩, ⟨o4, q4, _⟩, ⟨o5, q5, _⟩, _⟩ q hq
    simp only [List.mem_cons, List.not_mem_nil, or_false] at hq
    rcases hq with e | e | e | e
    · exact ⟨_, e ▸ q1⟩
    · exact ⟨_, e ▸ q3⟩
    · exact ⟨_, e ▸ q4⟩
    · exact ⟨_, e ▸ q5⟩

section
variable {W : Wd} {k : Nat} {A : Around} {h₀ : Heap} {L : Addr} {env : Env} {X Y : List Addr} {h : Heap}
/-- a list comprehension over zip of two lists -/
theorem comp_genZ {elt e1 e2 : Expr} {zn a b : Str} {pz pa pb tp zp pos : Pos} {kk : Nat} {ifs : List Expr} {scope : Scope} {cl : List (Str × Addr)} {xs zs : List V} {n : Nat} (bt : Nat → Bool) (g : Nat → V) (c : Cx W k A h₀ L env X h)
    (hcell : ∀ y ∈ scope.names, y.2 ≠ .cell) (hkind : scope.kind = .function) (hxa : scope.names.lookup a = some .local) (hxb : scope.names.lookup b = some .local) (hab : a ≠ b)
    (hz : EvV W A env h (.Name zn pz) (.type "zip")) (h1 : Ev W A env X h e1 (.lst xs)) (h2 : Ev W A env X h e2 (.lst zs)) (hn1 : xs.length = n) (hn2 : zs.length = n) (hn : n ≤ sizeLine)
    (tests : ∀ i C u v s E (Q : Bool → Shared → Prop), i < n → Le h s.heap → Cx W k A h₀ L (compEnvC scope cl C env) X s.heap → Var (compEnvC scope cl C env) s.heap a u → Var (compEnvC scope cl C env) s.heap b v → Rd X s.heap u (xs.getD i .none) → Rd X s.heap v (zs.getD i .none) → (∀ s', Gw s s' → Q (bt i) s') →
      wpAny (model W.prog W.w) A (forIn ifs true fun c r => if r = true then do let ok ← isTrue c (compEnvC scope cl C env) (eval c (compEnvC scope cl C env)); pure (ForInStep.yield ok) else pure (ForInStep.yield r)) Q E s)
    (helt : ∀ i C Z u v h', i < n → bt i = true → Le h h' → (∀ z ∈ Z, h.get? z = none) → Cx W k A h₀ L (compEnvC scope cl C env) (Z ++ X) h' → Var (compEnvC scope cl C env) h' a u → Var (compEnvC scope cl C env) h' b v → Rd (Z ++ X) h' u (xs.getD i .none) → Rd (Z ++ X) h' v (zs.getD i .none) → Ev W A (compEnvC scope cl C env) (Z ++ X) h' elt (g i))
    (RR : Value → Addr → Result → Shared → Prop) {s : Shared} {E : Value → Shared → Prop} (l : Le h s.heap)
    (fin : ∀ D C ys mm m' s', Gw s s' → s.heap.get? D = none → s.heap.get? C = none → C ≠ D → s'.heap.Ns C m' → s'.heap.get? D = some (lstO ys mm) → D ∉ X → RdA (D :: X) s'.heap ys (picked n bt g) → RR (.ref D) C (.ok .next) s')
    (hse : starEach [e1, e2] env = [(false, eval e1 env), (false, eval e2 env)] := by rfl)
    (hev : eval (.Call (.Name zn pz) [e1, e2] [] zp) env = (do callWith zp (← eval (.Name zn pz) env) [] (backTo zp (starEach [e1, e2] env)) (backToKw zp (keywordEach [] env))) := by rfl) :
    wpAny (model W.prog W.w) A (eval (.Call (.Name zn pz) [e1, e2] [] zp) env) (fun xv s₁ => wpAny (model W.prog W.w) A (pyIter xv) (fun it s₂ => wpAny (model W.prog W.w) A (newList []) (fun acc s₃ =>
      wpAny (model W.prog W.w) A (newFunctionEnv scope env.globals cl [] env.qual none .none (some env)) (fun cenv s₄ =>
        codeAny (model W.prog W.w) A (.compStart (.ListComp elt [⟨.Tuple [.Name a pa, .Name b pb] kk tp, .Call (.Name zn pz) [e1, e2] [] zp, ifs, 0⟩] scope pos) 0 it acc { cenv with scope := relabel scope env }) (RR acc cenv.locals) s₄) E s₃) E s₂) E s₁) E s := by
  refine Call_ (hz s _ _ l fun sA gA => ?_) hev
  rw [hse]
  refine PySem.callWith_type rfl (Calls.evalArgs_plain (Calls.spliced_cons (h1 sA _ _ (l.trans gA.le) fun u sB gB rB => Calls.spliced_cons (h2 sB _ _ (l.trans (gA.le.trans gB.le)) fun v sC gC rC => Calls.spliced_nil ?_))))
  have gs : Gw s sC := gA.trans (gB.trans gC)
  have lC : Le h sC.heap := l.trans gs.le
  obtain ⟨l1, us, n1, rfl, eu, _, ru⟩ := (rB.le gC.le).lst_inv
  obtain ⟨l2, vs, n2, rfl, ev, _, rv⟩ := rC.lst_inv
  refine zip_src (elts := [.Name a pa, .Name b pb]) (kk := kk) (tp := tp) c.cn.hand eu ev (by rw [ru.length, hn1]) (by rw [rv.length, hn2]) fun z fp wr Md St hZ Wk self hst hfp hZk hwr hSx => ?_
  refine comp_core (s := s) (s₂ := { sC with heap := hZ }) (hC := sC.heap) (fun C i h' => ∃ u v, Var (compEnvC scope cl C env) h' a u ∧ Var (compEnvC scope cl C env) h' b v ∧ (∀ Z, (∀ q ∈ Z, sC.heap.get? q = none) → Rd (Z ++ X) h' u (xs.getD i .none)) ∧ ∀ Z, (∀ q ∈ Z, sC.heap.get? q = none) → Rd (Z ++ X) h' v (zs.getD i .none)) c lC gs.le hZk (gs.same.elim fun hh q => q.elim fun tt e => ⟨hZ, sC.toks, by rw [e]⟩) hcell hkind hn Wk self hst hfp hwr hSx ?_ ?_ ?_ ?_ RR fin
  · rintro C i w m s' Q E hC hi ⟨T, vals, rfl, ⟨x, y, hx, hy, rfl⟩, hT⟩ hns hk hQ
    refine PySem.W.kcp_assign (env := compEnvC scope cl C env) c.cn.hand hT (lookup_relabel_local hxa) (lookup_relabel_local hxb) (by simp [compEnvC, relabel, hkind]) hns fun h₄ tk₄ hn₄ hs₄ => ?_
    have k4 : ∀ b o, sC.heap.get? b = some o → h₄.get? b = some o := fun b o e => hs₄ b o (fun q => by rw [show b = C from q, hC] at e; cases e) (hk b o e)
    obtain ⟨du, hdu, rdu⟩ := ru.getV hx
    obtain ⟨dv, hdv, rdv⟩ := rv.getV hy
    have mvZ : ∀ {w d}, Rd X sC.heap w d → ∀ Z, (∀ q ∈ Z, sC.heap.get? q = none) → Rd (Z ++ X) h₄ w d := fun r Z hZ => r.move fun b o e _ hx => ⟨k4 b o e, fun hm => (List.mem_append.mp hm).elim (fun hm => by rw [hZ b hm] at e; cases e) hx⟩
    refine hQ h₄ tk₄ _ hn₄ hs₄ ⟨x, y, .inl ⟨lookup_relabel_local hxa, _, hn₄, by rw [if_neg hab, if_pos rfl]⟩, .inl ⟨lookup_relabel_local hxb, _, hn₄, by rw [if_pos rfl]⟩, ?_, ?_⟩
    · rw [show xs.getD i .none = du by rw [List.getD_eq_getElem?_getD, hdu]; rfl]; exact mvZ rdu
    · rw [show zs.getD i .none = dv by rw [List.getD_eq_getElem?_getD, hdv]; rfl]; exact mvZ rdv
  · rintro C i h' h'' ⟨u, v, h1, h2, h3, h4⟩ le
    exact ⟨u, v, h1.le le, h2.le le, fun Z hZ => (h3 Z hZ).le le, fun Z hZ => (h4 Z hZ).le le⟩
  · rintro C i s' E Q hi le cx ⟨u, v, h1, h2, h3, h4⟩ hQ
    exact tests i C u v s' E Q hi le cx h1 h2 (h3 [] fun _ h => (nomatch h)) (h4 [] fun _ h => (nomatch h)) hQ
  · rintro C D i h' hD hi hb st le cx hk ⟨u, v, h1, h2, h3, h4⟩
    have hZn : ∀ q ∈ D :: wr, sC.heap.get? q = none := fun q hq => by
      rcases List.mem_cons.mp hq with e | hq
      · exact e ▸ hD
      · exact hwr q hq
    exact helt i C (D :: wr) u v h' hi hb le (fun q hq => by
      cases e : h.get? q with
      | none => rfl
      | some o => have := lC _ _ e; rw [hZn q hq] at this; cases this) cx h1 h2 (h3 _ hZn) (h4 _ hZn)
end
end Mine
namespace Mine
open PySem PySem.Calls PySem.Spec PyProof.Rows

section
variable {W : Wd} {k : Nat} {A : Around} {h₀ : Heap} {L : Addr} {env : Env} {X Y : List Addr} {h : Heap}
/-- a comprehension's list, not stored at once -/
theorem evf_of {elt tgt iter : Expr} {ifs : List Expr} {gs : List Comprehension} {scope : Scope} {cl : List (Str × Addr)} {pos : Pos} {ds : List V} (hclos : closureFor scope env = pure cl) (hkind : scope.kind = .function) (hnames : ∀ y ∈ scope.names, y.2 = .local → scope.names.lookup y.1 = some .local)
    (x : CompR W A env X h (.ListComp elt (⟨tgt, iter, ifs, 0⟩ :: gs) scope pos) iter scope cl ds) (hs : ∀ x, foldedSetIterable iter env x = pure x := by intro _; rfl) : EvF W A env X h (.ListComp elt (⟨tgt, iter, ifs, 0⟩ :: gs) scope pos) ds := fun s Q E l f => by
  rw [eval_ListComp]
  refine wpAny_comprehension_free (use := none) rfl hs hclos hkind hnames (x (fun acc C => compPost (model W.prog W.w) A E none Q acc C) s E l fun D C ys mm m' s' gw hD hC hCD hn' eD hDX rr => ?_)
  refine ⟨m', hn', fun h₃ hs₃ => ?_⟩
  have mvA : RdA (D :: X) h₃ ys ds := rr.move fun b o e sq hx => ⟨hs₃.extBut b o (fun z => by rw [z] at e; exact ns_notSq hn' _ e sq) e, hx⟩
  have les : Le s.heap h₃ := fun b o e => hs₃.extBut b o (fun z => by rw [z, hC] at e; cases e) (gw.le b o e)
  exact f D ys mm _ (gw.same.elim fun hh q => q.elim fun tt e => ⟨⟨h₃, tt, by rw [e]⟩, les⟩) hD (hs₃.extBut _ _ (Ne.symm hCD) eD) hDX (mvA.sub fun a ha => .tail _ ha) mvA
end

section
variable {B : Bd} {μ μ₁ μ₂ : Mu} {ρ ρ' : Rho} {Post Post' : Fl → Mu → Rho → Prop}
theorem Stored.keepSq {x : Str} {v : Value} {h h' : Heap} {a : Addr} {env : Env} (st : Stored env x v h h' a) : ∀ b o, h.get? b = some o → IsSq o → h'.get? b = some o := fun b o e q => (st.but.2 b fun z => st.sq o (z ▸ e) q).trans e

/-- x, z = e : both halves are stored -/
theorem tri_assign2 {x z : Str} {p1 p2 tp pos : Pos} {kk : Nat} {e : Expr} {d1 d2 : V} (hx : B.env.kindOf x = some .local ∨ (B.env.kindOf x = some .cell ∧ (B.env.cells.lookup x).isSome = true)) (hz : B.env.kindOf z = some .local ∨ (B.env.kindOf z = some .cell ∧ (B.env.cells.lookup z).isSome = true)) (he : Es B μ ρ (μ.at ++ B.X₀) e (.tup [d1, d2]))
    (h : Post .next μ ((z, d2) :: (x, d1) :: ρ)) (hn1 : μ.names.contains x = false := by rfl) (hn2 : μ.names.contains z = false := by rfl)
    (hs : swapsWithSole [.Tuple [.Name x p1, .Name z p2] kk tp] e pos.line B.env = pure false := by rfl) (hw : swappedStores [.Tuple [.Name x p1, .Name z p2] kk tp] e B.env = pure none := by rfl) :
    Tr1 B μ ρ (.Assign [.Tuple [.Name x p1, .Name z p2] kk tp] e pos) Post := fun Kp γ s E y =>
  Assign_Tuple (he Kp γ s y s _ _ (Le.refl _) fun v s₁ g₁ r₁ => by
    obtain ⟨t, vs, n, rfl, et, htx, ra⟩ := r₁.tup_inv
    obtain ⟨v1, _, rfl, r1, ra⟩ := ra.cons_inv
    obtain ⟨v2, _, rfl, r2, ra⟩ := ra.cons_inv
    obtain rfl := ra.nil_inv
    have ht : s₁.heap.IsTuple t #[v1, v2] := ⟨_, et, rfl, n, rfl⟩
    refine wpAny_assign_Tuple y.cn.hand ht rfl rfl fun h₁ he₁ => ?_
    have le₁ : Le s₁.heap h₁ := fun b o e => he₁ b o (Nat.ne_of_lt (Heap.lt_size e)) e
    have y₁ := (y.gw g₁).le (h' := h₁) (tk := s₁.toks) le₁
    show wpAny _ _ (assignInOrder [assign (.Name x p1) B.env, assign (.Name z p2) B.env] [v1, v2]) _ _ _
    refine assignInOrder_cons (wpAny_assign_Name (store_sat y₁ hx fun h₂ tk₂ a₂ st₂ => ?_))
    have y₂ := y₁.stored (tk := tk₂) st₂ (.of (r1.le le₁)) (notin hn1)
    have r2' : Rd (μ.at ++ B.X₀) h₂ v2 d2 := (r2.le le₁).move fun b o e q hx => ⟨st₂.keepSq b o e q, hx⟩
    refine assignInOrder_cons (wpAny_assign_Name (store_sat y₂ hz fun h₃ tk₃ a₃ st₃ => assignInOrder_nil ?_))
    exact ⟨.next, _, _, trivial, y₂.stored (tk := tk₃) st₃ (.of r2') (notin hn2), h⟩) hs hw
/-- the same, the stores swapped -/
theorem tri_assign2S {x z : Str} {p1 p2 tp pos : Pos} {kk : Nat} {e : Expr} {d1 d2 : V} (hx : B.env.kindOf x = some .local ∨ (B.env.kindOf x = some .cell ∧ (B.env.cells.lookup x).isSome = true)) (hz : B.env.kindOf z = some .local ∨ (B.env.kindOf z = some .cell ∧ (B.env.cells.lookup z).isSome = true)) (he : Es B μ ρ (μ.at ++ B.X₀) e (.tup [d1, d2]))
    (h : Post .next μ ((x, d1) :: (z, d2) :: ρ)) (hn1 : μ.names.contains x = false := by rfl) (hn2 : μ.names.contains z = false := by rfl)
    (hs : swapsWithSole [.Tuple [.Name x p1, .Name z p2] kk tp] e pos.line B.env = pure false := by rfl) (hw : swappedStores [.Tuple [.Name x p1, .Name z p2] kk tp] e B.env = pure (some [x, z]) := by rfl) :
    Tr1 B μ ρ (.Assign [.Tuple [.Name x p1, .Name z p2] kk tp] e pos) Post := fun Kp γ s E y =>
  Assign_Tuple_swapped (names := [x, z]) (he Kp γ s y s _ _ (Le.refl _) fun v s₁ g₁ r₁ => by
    obtain ⟨t, vs, n, rfl, et, htx, ra⟩ := r₁.tup_inv
    obtain ⟨v1, _, rfl, r1, ra⟩ := ra.cons_inv
    obtain ⟨v2, _, rfl, r2, ra⟩ := ra.cons_inv
    obtain rfl := ra.nil_inv
    have ht : s₁.heap.IsTuple t #[v1, v2] := ⟨_, et, rfl, n, rfl⟩
    refine wpAny_unpackItems_tuple (items := #[v1, v2]) y.cn.hand ht fun h₁ he₁ => ?_
    have le₁ : Le s₁.heap h₁ := fun b o e => he₁ b o (Nat.ne_of_lt (Heap.lt_size e)) e
    have y₁ := (y.gw g₁).le (h' := h₁) (tk := s₁.toks) le₁
    show wpAny _ _ (assignInOrder [bindName B.env z, bindName B.env x] [v2, v1]) _ _ _
    refine assignInOrder_cons (bindName_ (store_sat y₁ hz fun h₂ tk₂ a₂ st₂ => ?_))
    have y₂ := y₁.stored (tk := tk₂) st₂ (.of (r2.le le₁)) (notin hn2)
    have r1' : Rd (μ.at ++ B.X₀) h₂ v1 d1 := (r1.le le₁).move fun b o e q hx => ⟨st₂.keepSq b o e q, hx⟩
    refine assignInOrder_cons (bindName_ (store_sat y₂ hx fun h₃ tk₃ a₃ st₃ => assignInOrder_nil ?_))
    exact ⟨.next, _, _, trivial, y₂.stored (tk := tk₃) st₃ (.of r1') (notin hn1), h⟩) hs hw

/-- order, queue = [], e : two new lists that may turn -/
theorem tri_assign2M {x z : Str} {p1 p2 tp lp vp pos : Pos} {kk k2 : Nat} {e : Expr} {ds : List V} (hx : B.env.kindOf x = some .local ∨ (B.env.kindOf x = some .cell ∧ (B.env.cells.lookup x).isSome = true)) (hz : B.env.kindOf z = some .local ∨ (B.env.kindOf z = some .cell ∧ (B.env.cells.lookup z).isSome = true)) (hxz : x ≠ z)
    (he : Ef B μ ρ (μ.at ++ B.X₀) e ds) (hf : ∀ d ∈ ds, d.flat = true) (h : ∀ l1 l2, Post .next ((z, l2, ds) :: (x, l1, []) :: μ) ρ) (hρx : ρ.lookup x = none := by rfl) (hρz : ρ.lookup z = none := by rfl) (hn1 : μ.names.contains x = false := by rfl) (hn2 : μ.names.contains z = false := by rfl)
    (hs : swapsWithSole [.Tuple [.Name x p1, .Name z p2] kk tp] (.Tuple [.List [] lp, e] k2 vp) pos.line B.env = pure false := by rfl) (hw : swappedStores [.Tuple [.Name x p1, .Name z p2] kk tp] (.Tuple [.List [] lp, e] k2 vp) B.env = pure none := by rfl)
    (hse1 : starEach [.List [] lp, e] B.env = (false, eval (.List [] lp) B.env) :: starEach [e] B.env := by rfl) (hse2 : starEach [e] B.env = (false, eval e B.env) :: starEach [] B.env := by rfl) :
    Tr1 B μ ρ (.Assign [.Tuple [.Name x p1, .Name z p2] kk tp] (.Tuple [.List [] lp, e] k2 vp) pos) Post := fun Kp γ s E y => by
  have hl0 : EvF B.W B.A B.env (μ.at ++ B.X₀) s.heap (.List [] lp) [] := evf_list y.cx eva_nil
  refine Assign_Tuple ?_ hs hw
  refine Tuple_ (args_cons (hl0 s _ _ (Le.refl _) fun l1 vs1 n1 s₁ g₁ e01 e11 hl1 r1 r1' => args_cons (he Kp γ s y s₁ _ _ g₁.le fun l2 vs2 n2 s₂ g₂ e02 e22 hl2 r2 r2' => args_nil ?_) hse2) hse1)
  refine wpAny_newObj_type ?_ (by show ([Value.ref l1, Value.ref l2]).toArray.size ≤ sizeLine; exact Nat.le_of_ble_eq_true rfl)
  have ht : (s₂.heap.push (tupO [.ref l1, .ref l2] 0)).IsTuple s₂.heap.objs.size #[.ref l1, .ref l2] := ⟨_, Heap.get?_push_size _ rfl, rfl, 0, rfl⟩
  refine wpAny_assign_Tuple (s := { s₂ with heap := s₂.heap.push (tupO [.ref l1, .ref l2] 0) }) y.cn.hand ht rfl rfl fun h₁ he₁ => ?_
  have le₁ : Le s₂.heap h₁ := fun b o e => he₁ b o (by
    show b ≠ (s₂.heap.push _).objs.size
    rw [Heap.size_push]; exact Nat.ne_of_lt (Nat.lt_succ_of_lt (Heap.lt_size e))) (Heap.get?_push_of_some _ e)
  have gt : Gw s { s₂ with heap := h₁ } := (g₁.trans g₂).trans ⟨⟨h₁, s₂.toks, rfl⟩, le₁⟩
  have hv1 : vs1 = [] := r1.nil_inv
  subst hv1
  have e02' : s.heap.get? l2 = none := by
    cases q : s.heap.get? l2 with
    | none => rfl
    | some o => rw [g₁.le _ _ q] at e02; cases e02
  have hne : l2 ≠ l1 := fun q => by rw [q, e11] at e02; cases e02
  have old : ∀ {b o}, s.heap.get? b = some o → b ≠ l1 ∧ b ≠ l2 := fun e => ⟨fun q => (by rw [q, e01] at e; cases e), fun q => (by rw [q, e02'] at e; cases e)⟩
  have y₀ := y.gw gt
  have ea1 : h₁.get? l1 = some (lstO [] n1) := le₁ _ _ (g₂.le _ _ e11)
  have ea2 : h₁.get? l2 = some (lstO vs2 n2) := le₁ _ _ e22
  show wpAny _ _ (assignInOrder [assign (.Name x p1) B.env, assign (.Name z p2) B.env] [.ref l1, .ref l2]) _ _ _
  refine assignInOrder_cons (wpAny_assign_Name (store_sat y₀ hx fun h₂ tk₂ a₂ st₂ => ?_))
  have y₁ := new_list (s' := { s₂ with heap := h₁ }) (tk := tk₂) y gt st₂ e01 ea1 hl1 .nil .nil hρx
  rw [Mu.off_none (notin hn1)] at y₁
  have kq := st₂.keepSq
  have ea2' : h₂.get? l2 = some (lstO vs2 n2) := kq _ _ ea2 (.seq rfl)
  refine assignInOrder_cons (wpAny_assign_Name (store_sat y₁ hz fun h₃ tk₃ a₃ st₃ => assignInOrder_nil ?_))
  have hnz : z ∉ Mu.names ((x, l1, []) :: μ) := fun q => (List.mem_cons.mp q).elim (fun q => hxz q.symm) (notin hn2)
  have fl : ∀ {Y : List Addr} {hh : Heap}, RdA Y hh vs2 ds := fun {Y hh} => r2.flat hf
  have big : ∀ {M M' : List Addr} {v d}, (∀ b, b ∈ M' → b ∈ M ∨ b = l1 ∨ b = l2) → Rd M s.heap v d → Rd M' h₂ v d := fun hM r => r.move fun b o e q hx => ⟨kq b o (gt.le b o e) q, fun hm => (hM b hm).elim hx fun h => h.elim (old e).1 (old e).2⟩
  have bigA : ∀ {M M' : List Addr} {v d}, (∀ b, b ∈ M' → b ∈ M ∨ b = l1 ∨ b = l2) → RdA M s.heap v d → RdA M' h₂ v d := fun hM r => r.move fun b o e q hx => ⟨kq b o (gt.le b o e) q, fun hm => (hM b hm).elim hx fun h => h.elim (old e).1 (old e).2⟩
  have cov1 : ∀ b, b ∈ l2 :: Mu.at ((x, l1, []) :: μ) → b ∈ μ.at ∨ b = l1 ∨ b = l2 := fun b hb => by
    rcases List.mem_cons.mp hb with q | hb
    · exact .inr (.inr q)
    · rcases List.mem_cons.mp hb with q | hb
      · exact .inr (.inl q)
      · exact .inl hb
  have cov2 : ∀ b, b ∈ l2 :: (Mu.at ((x, l1, []) :: μ) ++ B.X₀) → b ∈ μ.at ++ B.X₀ ∨ b = l1 ∨ b = l2 := fun b hb => by
    rcases List.mem_cons.mp hb with q | hb
    · exact .inr (.inr q)
    · rcases List.mem_append.mp hb with hb | hb
      · rcases List.mem_cons.mp hb with q | hb
        · exact .inr (.inl q)
        · exact .inl (List.mem_append.mpr (.inl hb))
      · exact .inl (List.mem_append.mpr (.inr hb))
  have cov3 : ∀ b, b ∈ l2 :: Mu.at ((x, l1, []) :: μ) ++ B.X₀ → b ∈ μ.at ++ B.X₀ ∨ b = l1 ∨ b = l2 := fun b hb => cov2 b hb
  have res := y₁.storedM (tk := tk₃) (x := z) (l := l2) (vs := vs2) (n := n2) (ds := ds) st₃ fl ea2' (fun o ko => (old (y.kp l2 o ko).1).2 rfl) (fun q => hl2 (List.mem_append.mpr (.inr q)))
    (fun q => (List.mem_cons.mp q).elim hne fun q => hl2 (List.mem_append.mpr (.inl q))) (fun q hq => big cov1 (y.gam q hq)) hρz (fun w d hw => ?_) fl (fun q hq hqz => ?_)
  · rw [Mu.off_none hnz] at res
    exact ⟨.next, _, _, trivial, res, h l1 l2⟩
  · obtain ⟨v, h1, h2⟩ := y.vars w d hw
    have hwx : w ≠ x := fun q => by rw [q, hρx] at hw; cases hw
    exact ⟨v, st₂.others _ _ hwx (h1.le gt.le), h2.move (big cov1) (big cov3)⟩
  · rcases List.mem_cons.mp hq with rfl | hq
    · exact ⟨[], n1, kq _ _ ea1 (.seq rfl), .nil⟩
    · obtain ⟨h1, h2, vs', n', h3, h4⟩ := y.muts q hq
      exact ⟨vs', n', kq _ _ (gt.le _ _ h3) (.seq rfl), bigA cov2 h4⟩

/-- a for over a list of ints that grows while it is gone over -/
theorem tri_forQ {x q : Str} {px pq pos : Pos} {body : List Stmt} {l : Addr} (N : Nat) (Inv : Nat → Mu → Rho → Prop) (hx : B.env.kindOf x = some .local ∨ (B.env.kindOf x = some .cell ∧ (B.env.cells.lookup x).isSome = true))
    (hq : ∀ i μ' ρ', Inv i μ' ρ' → ∃ ds, (q, l, zints ds) ∈ μ' ∧ i ≤ ds.length ∧ ds.length ≤ N) (h0 : Inv 0 μ ρ) (hxm : ∀ i μ' ρ', Inv i μ' ρ' → μ'.names.contains x = false)
    (turn : ∀ i d μ' ρ' ds, Inv i μ' ρ' → (q, l, zints ds) ∈ μ' → ds[i]? = some d → Tri B μ' ((x, .int d) :: ρ') body (LoopP Inv Post i))
    (done : ∀ m r ds, Inv ds.length m r → (q, l, zints ds) ∈ m → Post .next m r) (hd : (q == ("__debug__" : Str)) = false := by decide) (hs : ∀ x, foldedSetIterable (.Name q pq) B.env x = pure x := by intro _; rfl) : Tr1 B μ ρ (.For (.Name x px) (.Name q pq) body [] pos) Post := fun Kp γ s E y => by
  obtain ⟨ds0, hm0, _, _⟩ := hq _ _ _ h0
  obtain ⟨hva, hlx, vs0, n0, ea0, ra0⟩ := y.muts _ hm0
  dsimp only at hva hlx ea0 ra0
  refine wpAny_For (load_var y.wf.ek hva ?_ hd) hs
  have hl0 : s.heap.IsList l vs0.toArray := ⟨_, ea0, rfl, n0, rfl⟩
  refine wpAny_pyIter_list hl0 ?_
  have y₁ : Sat B Kp γ μ ρ { s with heap := s.heap.push { cls := .type "list_iterator", data := .fields #[.ref l, .int 0 0] } } := y.le (tk := s.toks) (Le.push _)
  have ap := new_apart y (size_none s.heap)
  have itSq : ∀ {h' : Heap} {i : Nat}, h'.IsListIter s.heap.objs.size l i → ∀ o, h'.get? s.heap.objs.size = some o → ¬ IsSq o := by
    rintro h' i ⟨o, e, hc, hd'⟩ o' e' (⟨_, _, q⟩ | ⟨_, _, q, _⟩) <;> (rw [e] at e'; cases e'; rw [hd'] at q; cases q)
  refine codeAny_forLoop (fun k s' => ∃ i μ' ρ', k = N + 1 - i ∧ s'.heap.IsListIter s.heap.objs.size l i ∧ Sat B Kp γ μ' ρ' s' ∧ s.heap.objs.size ∉ μ'.at ∧ Inv i μ' ρ') ?_ (N + 1) ⟨0, μ, ρ, rfl, ⟨_, Heap.get?_push_size _ rfl, rfl, rfl⟩, y₁, ap.2.2.2, h0⟩
  rintro k s' ⟨i, μ', ρ', rfl, hit, y', hIm, hinv⟩
  obtain ⟨ds, hm, hi, hN⟩ := hq _ _ _ hinv
  obtain ⟨hva', hlx', vs, n, ea, ra⟩ := y'.muts _ hm
  dsimp only at hva' hlx' ea ra
  have hl : s'.heap.IsList l vs.toArray := ⟨_, ea, rfl, n, rfl⟩
  by_cases hlt : i < ds.length
  · have hdi : ds[i]? = some ds[i] := List.getElem?_eq_getElem hlt
    have hzi : (zints ds)[i]? = some (.int ds[i]) := by unfold zints; rw [List.getElem?_map, hdi]; rfl
    obtain ⟨v, hv, rv⟩ := ra.get hzi
    refine wpAny_pyNext_list_item hit hl (by simpa using hv) fun h₁ hit₁ hs₁ => ?_
    have y₁ : Sat B Kp γ μ' ρ' { s' with heap := h₁ } := y'.ext (a := s.heap.objs.size) (h' := h₁) (tk := s'.toks) (fun b o hb e => hs₁.extBut b o hb e) ap.1 ap.2.1 ap.2.2.1 (itSq hit)
    refine wpAny_assign_Name (store_sat y₁ hx fun h₂ tk₂ a sd => ?_)
    have y₂ := y₁.stored (tk := tk₂) (d := .int ds[i]) sd (.of (rv.flat rfl)) (notin (hxm _ _ _ hinv))
    have aI : s.heap.objs.size ≠ a := by
      rintro rfl
      rcases sd.slot with q | ⟨z, q⟩
      · exact ap.1 q
      · exact ap.2.1 z q
    obtain ⟨oI, hoI, hcI, hdI⟩ := hit₁
    have hoI₂ : h₂.get? s.heap.objs.size = some oI := (sd.but.2 _ aI).trans hoI
    have y₃ : Sat B (fun a o => Kp a o ∨ (a = s.heap.objs.size ∧ o = oI)) γ μ' ((x, .int ds[i]) :: ρ') { s' with heap := h₂, toks := tk₂ } := y₂.more (fun a o e => .inl (y₂.h₀kp a o e)) (by
      rintro a o (e | ⟨rfl, rfl⟩)
      · exact y₂.kp a o e
      · exact ⟨hoI₂, ap.1, ap.2.1, hIm⟩)
    refine wpAny_mono (turn i _ μ' ρ' ds hinv hm hdi _ γ _ _ y₃) (fun fl s₃ o => ?_) fun _ _ e => e
    obtain ⟨fd, m, r, fi, y₄, po⟩ := o
    have kI := y₄.kp s.heap.objs.size oI (.inr ⟨rfl, rfl⟩)
    have y₅ : Sat B Kp γ m r s₃ := y₄.less y.h₀kp fun a o e => .inl e
    have it₃ : s₃.heap.IsListIter s.heap.objs.size l (i + 1) := ⟨oI, kI.1, hcI, hdI⟩
    cases fl <;> cases fd <;> first
      | exact fi.elim
      | exact ⟨N + 1 - (i + 1), by lia, i + 1, m, r, rfl, it₃, y₅, kI.2.2.2, po⟩
      | exact ⟨.next, m, r, trivial, y₅, po⟩
      | exact ⟨_, m, r, fi, y₅, po⟩
  · obtain rfl : i = ds.length := by lia
    have hx : vs.toArray[ds.length]? = none := by
      have : vs.length = ds.length := by rw [ra.length, ints_len]
      simp [← this]
    refine wpAny_pyNext_list_end y.cn.hand hit hl hx fun h₁ hs₁ => ?_
    have y₁ : Sat B Kp γ μ' ρ' { s' with heap := h₁ } := y'.ext (a := s.heap.objs.size) (h' := h₁) (tk := s'.toks) (fun b o hb e => hs₁ b o hb e) ap.1 ap.2.1 ap.2.2.1 (itSq hit)
    exact wpAny_execs_nil ⟨.next, μ', ρ', trivial, y₁, done _ _ _ hinv hm⟩

/-- a list's extend by a list of plain things -/
theorem tri_extend {x : Str} {a : Addr} {ds ds2 : List V} {e : Expr} {px apos cpos pos : Pos} (hμ : μ = μ₁ ++ (x, a, ds) :: μ₂) (he : Es B μ ρ [] e (.lst ds2)) (hf : ∀ d ∈ ds2, d.flat = true) (hz : ds.length + ds2.length ≤ 1000) (h : Post .next (μ₁ ++ (x, a, ds ++ ds2) :: μ₂) ρ)
    (hline : (apos.endLine == cpos.line) = true := by rfl) (hse : backTo cpos (starEach [e] B.env) = [(false, eval e B.env)] := by rfl) (hi : interactive B.env = false := by rfl) (hd : (x == ("__debug__" : Str)) = false := by decide)
    (hbase : attributeBase (.Name x px) "extend" B.env (eval (.Name x px) B.env) = eval (.Name x px) B.env := by rfl) (hsw : swapsWith (.Call (.Attribute (.Name x px) "extend" apos) [e] [] cpos) none pos.line B.env = pure false := by rfl) :
    Tr1 B μ ρ (.Expr (.Call (.Attribute (.Name x px) "extend" apos) [e] [] cpos) pos) Post := fun Kp γ s E y => by
  subst hμ
  obtain ⟨hva, hax, vs, n, ea, ra⟩ := y.muts (x, a, ds) (by simp)
  dsimp only at hva hax ea ra
  refine wpAny_Expr (wpAny_Call_method1_late hbase hline hse (load_var y.wf.ek hva ?_ hd)) hi hsw
  refine ⟨"list", "list.extend", PySem.F.plainAttrs_list, PySem.F.slot_list_extend, PySem.F.type_list_extend, ⟨_, ea, rfl⟩, fun b e => by cases e; exact ⟨_, ea, rfl⟩, ?_⟩
  refine PySem.P.extend_list (he Kp γ s y s _ _ (Le.refl _) fun v s₂ g₂ r₂ => ?_)
  obtain ⟨b, ws, n2, rfl, eb, _, rb⟩ := r₂.lst_inv
  have l1 : vs.toArray.size = ds.length := by rw [List.size_toArray, ra.length]
  have l2 : ws.toArray.size = ds2.length := by rw [List.size_toArray, rb.length]
  have ea2 : PySem.IsL s₂.heap a vs.toArray n := g₂.le _ _ ea
  refine ⟨b, vs.toArray, ws.toArray, n, n2, by rw [l1]; unfold sizeLine; lia, by rw [l1, l2]; unfold sizeLine; lia, ?_, rfl, ea2, eb, ?_⟩
  · exact extend_door (by rw [l1, l2]; unfold sizeLine; lia)
  · have e2 := ea2.update fun xs => xs ++ ws.toArray
    rw [show vs.toArray ++ ws.toArray = (vs ++ ws).toArray by simp] at e2
    exact ⟨.next, _, _, trivial, (y.gw g₂).mutate (tk := s₂.toks) (Heap.SameBut.update ..) e2 ((ra.le g₂.le).append (rb.flat hf)), h⟩

/-- p = free(len(out.pop() + p)) -/
theorem tri_popfree {o p fr ln : Str} {a : Addr} {ds : List V} {u v w : List Int} {st : Stmt} {pp po pa pc pb pl pc2 pf pc3 pq pos : Pos} (hx : B.env.kindOf p = some .local ∨ (B.env.kindOf p = some .cell ∧ (B.env.cells.lookup p).isSome = true)) (hμ : μ = [(o, a, ds ++ [.lst (zints u)])]) (hpo : p ≠ o) (hp : ρ.lookup p = some (.old (.lst (zints v))))
    (hln : B.W.mg ln = none ∧ B.W.mb ln = some (.builtin "len")) (H : HasDef B.W fr st) (hc : ∀ f doc pm an cdv ct, B.W.defs f (fdOf fr st doc pm an cdv ct) → FnC B.W B.k f [.int ((u.length + v.length : Nat) : Int)] (.lst (zints w))) (hz : u.length + v.length ≤ 1000) (hz2 : ds.length ≤ 1000)
    (h : Post .next [(o, a, ds)] ((p, .old (.lst (zints w))) :: ρ))
    (hkl : B.env.kindOf ln = some .globalImplicit := by rfl) (hkf : B.env.kindOf fr = some .globalImplicit := by rfl) (hdl : (ln == ("__debug__" : Str)) = false := by decide) (hdf : (fr == ("__debug__" : Str)) = false := by decide) (hdp : (p == ("__debug__" : Str)) = false := by decide) (hdo : (o == ("__debug__" : Str)) = false := by decide)
    (hline : (pa.endLine == pc.line) = true := by rfl) (hbase : attributeBase (.Name o po) "pop" B.env (eval (.Name o po) B.env) = eval (.Name o po) B.env := by rfl)
    (hse1 : starEach [.Call (.Name ln pl) [.BinOp (.Call (.Attribute (.Name o po) "pop" pa) [] [] pc) .Add (.Name p pp) pb] [] pc2] B.env = (false, eval (.Call (.Name ln pl) [.BinOp (.Call (.Attribute (.Name o po) "pop" pa) [] [] pc) .Add (.Name p pp) pb] [] pc2) B.env) :: starEach [] B.env := by rfl)
    (hse2 : starEach [.BinOp (.Call (.Attribute (.Name o po) "pop" pa) [] [] pc) .Add (.Name p pp) pb] B.env = (false, eval (.BinOp (.Call (.Attribute (.Name o po) "pop" pa) [] [] pc) .Add (.Name p pp) pb) B.env) :: starEach [] B.env := by rfl)
    (hs : swapsWith (.Call (.Name fr pf) [.Call (.Name ln pl) [.BinOp (.Call (.Attribute (.Name o po) "pop" pa) [] [] pc) .Add (.Name p pp) pb] [] pc2] [] pc3) (some (.Name p pq)) pos.line B.env = pure false := by rfl) :
    Tr1 B μ ρ (.Assign [.Name p pq] (.Call (.Name fr pf) [.Call (.Name ln pl) [.BinOp (.Call (.Attribute (.Name o po) "pop" pa) [] [] pc) .Add (.Name p pp) pb] [] pc2] [] pc3) pos) Post := fun Kp γ s E y => by
  subst hμ
  obtain ⟨f, doc, pm, an, cdv, ct, h1, h2⟩ := H
  obtain ⟨of, hof, hdat, hcd⟩ := y.cn.gr.defs f _ h1
  refine wpAny_Assign_Name (Call_ ((show EvV _ _ _ _ _ _ from evv_glob y.cx h2 hkf hdf) s _ _ (Le.refl _) fun s₁ g₁ => callWith_def hdat (args_cons ?_ hse1) hse1) rfl) hs
  have y₁ := y.gw g₁
  refine Call_ ((show EvV _ _ _ _ _ _ from evv_built y₁.cx hln.1 hln.2 hkl hdl) s₁ _ _ (Le.refl _) fun s₂ g₂ => callWith_builtin1 (args_cons ?_ hse2) hse2 rfl) rfl
  have y₂ := y₁.gw g₂
  obtain ⟨hva, hax, vs, n, ea, ra⟩ := y₂.muts _ (.head _)
  dsimp only at hva hax ea ra
  refine wpAny_BinOp (wpAny_Call_method0_late hbase hline (load_var y₂.wf.ek hva ?_ hdo))
  refine ⟨"list", "list.pop", PySem.F.plainAttrs_list, PySem.F.slot_list_pop, PySem.F.type_list_pop, ⟨_, ea, rfl⟩, fun b e => by cases e; exact ⟨_, ea, rfl⟩, ?_⟩
  have hvl : vs.length = ds.length + 1 := by rw [ra.length]; simp
  obtain ⟨vu, hvu, ru⟩ := ra.get (i := ds.length) (d := .lst (zints u)) (by simp)
  have hlast : vs.toArray[vs.toArray.size - 1]? = some vu := by rw [List.size_toArray, hvl]; simpa using hvu
  refine PySem.P.pop_list (n := n) ea hlast ?_ (by rw [List.size_toArray, hvl]; unfold sizeLine; lia)
  have e3 : (s₂.heap.update a (Obj.mapSeq fun xs => xs.eraseIdxIfInBounds (vs.toArray.size - 1))).get? a = some (lstO (vs.take ds.length) (n + 1)) := by
    have := PySem.IsL.update (h := s₂.heap) (l := a) (items := vs.toArray) (n := n) ea fun xs => xs.eraseIdxIfInBounds (vs.toArray.size - 1)
    have e4 : vs.toArray.eraseIdxIfInBounds (vs.toArray.size - 1) = (vs.take ds.length).toArray := by
      rw [List.size_toArray, hvl, show ds.length + 1 - 1 = ds.length from rfl]
      unfold Array.eraseIdxIfInBounds
      rw [dif_pos (by rw [List.size_toArray, hvl]; exact Nat.lt_succ_self _)]
      apply Array.toList_inj.mp
      rw [Array.toList_eraseIdx]
      show vs.eraseIdx ds.length = vs.take ds.length
      rw [List.eraseIdx_eq_take_drop_succ, List.drop_of_length_le (by rw [hvl]; exact Nat.le_refl _), List.append_nil]
    rw [e4] at this
    have hne : ((vs.take ds.length).toArray.size == vs.toArray.size) = false := by
      rw [List.size_toArray, List.size_toArray, List.length_take, hvl]
      simp
    rw [hne] at this
    exact this
  have sb : Heap.SameBut a s₂.heap (s₂.heap.update a (Obj.mapSeq fun xs => xs.eraseIdxIfInBounds (vs.toArray.size - 1))) := Heap.SameBut.update ..
  generalize (s₂.heap.update a (Obj.mapSeq fun xs => xs.eraseIdxIfInBounds (vs.toArray.size - 1))) = hp₃ at e3 sb ⊢
  have y₃ : Sat B Kp γ [(o, a, ds)] ρ { s₂ with heap := hp₃ } := y₂.mutate (μ₁ := []) (μ₂ := []) (tk := s₂.toks) (ds' := ds) sb e3 (by
    have := ra.take ds.length
    simpa using this)
  have ru3 : Rd [a] hp₃ vu (.lst (zints u)) := (ru.sub (Y := [a]) fun q hq => List.mem_append.mpr (.inl hq)).move fun b o e q hx => ⟨(sb.2 b fun z => hx (z ▸ .head _)).trans e, hx⟩
  refine (show Ev _ _ _ _ _ _ _ from ev_old y₃ hp hdp) { s₂ with heap := hp₃ } _ _ (Le.refl _) fun vv s₄ g₄ r₄ => ?_
  have ru4 := ru3.le g₄.le
  obtain ⟨au, us, nu, rfl, eu, _, rus⟩ := ru4.lst_inv
  obtain ⟨av, ws, nv, rfl, ev, _, rvs⟩ := r₄.lst_inv
  have lu : us.toArray.size = u.length := by rw [List.size_toArray, rus.length, ints_len]
  have lv : ws.toArray.size = v.length := by rw [List.size_toArray, rvs.length, ints_len]
  refine PySem.P.add_list eu ev ?_ (by rw [lu, lv]; unfold sizeLine; lia)
  refine args_nil ?_
  have hln2 : (us.toArray ++ ws.toArray).size = u.length + v.length := by rw [Array.size_append, lu, lv]
  have hL : ({ s₄ with heap := s₄.heap.push { cls := .type "list", data := .seq (us.toArray ++ ws.toArray) } } : Shared).heap.IsList s₄.heap.objs.size (us.toArray ++ ws.toArray) := ⟨_, Heap.get?_push_size _ rfl, rfl, 0, rfl⟩
  refine PyProof.Rows.len_list hL (by rw [hln2]; lia) ?_
  have g5 : Gw { s₂ with heap := hp₃ } { s₄ with heap := s₄.heap.push { cls := .type "list", data := .seq (us.toArray ++ ws.toArray) }, toks := s₄.toks + 1 + 1 } := g₄.trans ⟨⟨_, _, rfl⟩, Le.push _⟩
  have y₅ := y₃.gw g5
  refine args_nil ⟨?_, ?_⟩
  · exact y₅.cn.keep _ _ hof
  · refine hc f doc pm an cdv ct h1 B.A B.h₀ B.env.locals ([a] ++ B.X₀) _ _ _ _ y₅.cn y₅.cx.xs (.cons (by rw [hln2]; exact .int _ _) .nil) fun r s₆ g₆ rr => ?_
    exact store_sat (y₅.gw g₆) hx fun h' tk aa st => ⟨.next, _, _, trivial, (y₅.gw g₆).stored st (.tag (rr.sub fun q hq => List.mem_append.mpr (.inl hq))) (by simp [Mu.names, hpo]), h⟩
end
end Mine
namespace Mine
open PySem PySem.Calls PySem.Spec PyProof.Rows PySem.W

/-- the base heap has got the frames' slots -/
noncomputable abbrev Bd.re (B : Bd) (h₀' : Heap) : Bd := { B with h₀ := h₀', s₀ := { B.s₀ with heap := h₀' } }

theorem frs_cons {env : Env} {l : List Env} {L : Addr} (h : env.frame = some L) : frs (env :: l) = L :: frs l := by show List.filterMap _ _ = _; rw [List.filterMap_cons, h]

/-- after an exception has come and gone -/
theorem Sat.rebase {B : Bd} {Kp γ ρ s s'} {l : List Env} (y : Sat B Kp γ [] ρ s) (G0 : Gr B.W B.W.root) (hfr : B.A.frames = some (B.env :: l)) (hf : B.env.frame = some B.env.locals) (hs₀ : B.s₀.heap = B.h₀) (g : Gx (frs (B.env :: l)) s s') :
    ∃ h₀', KtsTurn (frs l) B.h₀ h₀' ∧ Gx (frs l) B.s₀ { B.s₀ with heap := h₀' } ∧ Sat (B.re h₀') (fun a o => h₀'.get? a = some o) [] [] ρ s' := by
  obtain ⟨A₀, base, outer, fenv, bl, hfr', hfL, hfk, hrt, hnf⟩ := y.cn.bel
  rw [hfr] at hfr'
  injection hfr' with hfr'
  injection hfr' with e1 e2
  subst e1 e2
  obtain ⟨m₀, hm₀⟩ := y.cn.ns
  rw [frs_cons hf] at g
  have ffm : ∀ b ∈ frs l, base.get? b = none ∧ ∃ o, B.h₀.get? b = some o ∧ ∀ vs, o.data ≠ .fields vs := fun b hb => bl.frames.mem hb
  have below : ∀ b o, B.h₀.get? b = some o → b ≠ B.env.locals := fun b o e => Nat.ne_of_lt (Nat.lt_of_lt_of_le (Heap.lt_size e) y.cn.above)
  have hoth : ∀ b o, B.h₀.get? b = some o → b ∉ frs l → s'.heap.get? b = some o := fun b o e hb => g.other b o (y.cn.keep b o e) fun hm => (List.mem_cons.mp hm).elim (below b o e) hb
  obtain ⟨T, sub⟩ := kts_turn_at (fs := frs l) (g := B.h₀) (h := s'.heap) (fun b hb => let ⟨o, e, _⟩ := (ffm b hb).2; ⟨o, e⟩) hoth (fun b o e hb => by
    obtain ⟨o', e', hd⟩ := (ffm b hb).2
    rw [e] at e'; cases e'
    exact g.up b o (y.cn.keep b o e) hd)
  generalize ktsHeap s'.heap (frs l) B.h₀ = h₀' at T sub
  have offb : ∀ b o, base.get? b = some o → b ∉ frs l := fun b o e hb => by rw [(ffm b hb).1] at e; cases e
  have stays : ∀ b o, base.get? b = some o → h₀'.get? b = some o := fun b o e => T.other b o (bl.stays b o e) (offb b o e)
  have rt : Le B.W.root h₀' := fun b o e => stays b o (hrt b o e)
  have some' : ∀ b o, h₀'.get? b = some o → ∃ o', B.h₀.get? b = some o' := fun b o e => by
    cases q : B.h₀.get? b with
    | none => rw [T.none_ b q] at e; cases e
    | some o' => exact ⟨o', rfl⟩
  have nsT : ∀ {b m}, B.h₀.Ns b m → h₀'.Ns b m := fun {b m} ⟨o, es, ep, e, r⟩ => by
    obtain ⟨sl, h1⟩ := T.up e
    exact ⟨_, es, ep, h1, r⟩
  have frNs : ∀ b ∈ frs l, ∃ m, s.heap.Ns b m := fun b hb => let ⟨m, q⟩ := hnf b hb; ⟨m, q.keeps y.cn.keep⟩
  have notfr : ∀ b o, s.heap.get? b = some o → (IsSq o ∨ ∃ v, s.heap.IsCell b v) → b ≠ B.env.locals → b ∉ B.env.locals :: frs l := fun b o e hq hL hm => by
    rcases List.mem_cons.mp hm with q | hm
    · exact hL q
    · obtain ⟨m, hm⟩ := frNs b hm
      rcases hq with hq | ⟨v, oc, ec, hc⟩
      · exact ns_notSq hm _ e hq
      · obtain ⟨o2, es, ep, e2, hd, _⟩ := hm
        rw [ec] at e2; cases e2
        rw [hc] at hd; cases hd
  have sqk : ∀ b o, s.heap.get? b = some o → IsSq o → s'.heap.get? b = some o := fun b o e q => g.other b o e (notfr b o e (.inl q) fun z => ns_notSq hm₀ _ (z ▸ e) q)
  have clk : ∀ {x c v}, (x, c) ∈ B.env.cells → s.heap.IsCell c v → s'.heap.IsCell c v := fun {x c v} hx hc => by
    obtain ⟨o, e, hd⟩ := hc
    exact ⟨o, g.other c o e (notfr c o e (.inr ⟨v, o, e, hd⟩) (y.wf.cl x c hx)), hd⟩
  have sm : ∃ h tk, s' = { B.s₀ with heap := h, toks := tk } := by
    obtain ⟨h1, t1, q1⟩ := y.same
    obtain ⟨h2, t2, q2⟩ := g.same
    exact ⟨h2, t2, by rw [q2, q1]⟩
  refine ⟨h₀', T, ⟨⟨h₀', B.s₀.toks, rfl⟩, fun b o e hb => T.other b o (hs₀ ▸ e) hb, fun b o e _ => T.up (hs₀ ▸ e)⟩, ?_⟩
  refine ⟨⟨y.wf.ek, y.wf.eg, y.wf.eb, y.wf.apart, y.wf.cl, fun a ha => ?_⟩, ⟨G0.le rt, ⟨A₀, base, l, B.env, ⟨bl.stack, stays, bl.frames.of_keeps fun b o e _ => ?_⟩, hfr, hf, hfk, hrt, fun b hb => let ⟨m, q⟩ := hnf b hb; ⟨m, nsT q⟩⟩, ?_, y.cn.hand, y.cn.room, y.cn.units, sub, ⟨m₀, g.up.ns hm₀⟩⟩, sm, fun a o e => e, fun a o e => ?_, fun x c hx => ?_, fun q hq => (nomatch hq), fun z d hz => ?_, fun q hq => (nomatch hq), List.nodup_nil⟩
  · obtain ⟨o, e⟩ := y.wf.xs a ha
    obtain ⟨sl, h1⟩ := T.up e
    exact ⟨_, h1⟩
  · obtain ⟨sl, h1⟩ := T.up e
    exact ⟨_, h1, rfl⟩
  · show h₀'.objs.size ≤ B.env.locals
    rw [T.size]; exact y.cn.above
  · obtain ⟨o', e'⟩ := some' a o e
    have k := y.kp a o' (y.h₀kp a o' e')
    exact ⟨sub a o e, k.2.1, k.2.2.1, fun h => (nomatch h)⟩
  · obtain ⟨v, hv⟩ := y.cells x c hx
    exact ⟨v, clk hx hv⟩
  · obtain ⟨v, h1, h2⟩ := y.vars z d hz
    refine ⟨v, ?_, h2.move (fun r => r.move fun b o e q hx => ⟨sqk b o e q, hx⟩) fun r => r.move fun b o e q hx => ⟨sqk b o e q, hx⟩⟩
    rcases h1 with ⟨p, m, q, r⟩ | ⟨p, c, q, r⟩
    · exact .inl ⟨p, m, g.up.ns q, r⟩
    · exact .inr ⟨p, c, q, clk (mem_of_lookup q) r⟩

theorem gx_on {fs : List Addr} {s₀ s : Shared} {h' : Heap} (g : Gx fs s₀ s) (st : (TI.gone s₀.heap fs).StaysIn h') (up : s.heap.UpToSlots h') : Gx fs s₀ { s with heap := h' } := by
  obtain ⟨⟨h1, t1, rfl⟩, o, u⟩ := g
  exact ⟨⟨h', t1, rfl⟩, fun b o' e n => st b o' ((TI.gone_get n).trans e), u.trans up⟩

/-- a try in a def: the call raises, the clause stores a constant, the rest goes on -/
theorem deep_try {B : Bd} {Kp γ ρ s} {l : List Env} {x y0 z : Str} {C : Addr} {p apos pt px apos2 pos2 pos : Pos} {e c : Expr} {d : V} {rest : List Stmt} {R : Flow → Shared → Prop} {E : Value → Shared → Prop} (y : Sat B Kp γ [] ρ s) (G0 : Gr B.W B.W.root) (O : Oom B.W x C) (hfr : B.A.frames = some (B.env :: l)) (hf : B.env.frame = some B.env.locals) (hs₀ : B.s₀.heap = B.h₀)
    (he : ∀ Kp γ s, Sat B Kp γ [] ρ s → EvX B.W B.A B.env s.heap e (.ref C))
    (hxk : B.env.kindOf z = some .local ∨ (B.env.kindOf z = some .cell ∧ (B.env.cells.lookup z).isSome = true)) (hc : ∀ (A : Around) (s : Shared) (Q E : Value → Shared → Prop), (∀ v s', Gw s s' → Rd B.X₀ s'.heap v d → Q v s') → wpAny (model B.W.prog B.W.w) A (eval c B.env) Q E s)
    (hrest : ∀ h₀' s', KtsTurn (frs l) B.h₀ h₀' → Gx (frs l) B.s₀ { B.s₀ with heap := h₀' } → Sat (B.re h₀') (fun a o => h₀'.get? a = some o) [] [] ((z, d) :: ρ) s' → wpAny (model B.W.prog B.W.w) B.A (execs rest B.env) R E s')
    (hsw : swapsWith e (some (.Name y0 p)) apos.line B.env = pure false := by rfl) (hs : swapsWith c (some (.Name z px)) apos2.line B.env = pure false := by rfl)
    (hx : B.env.kindOf x = some .globalImplicit := by rfl) (hd : (x == ("__debug__" : Str)) = false := by decide) :
    wpAny (model B.W.prog B.W.w) B.A (execs (.Try [.Assign [.Name y0 p] e apos] [.ExceptHandler (some (.Name x pt)) none [.Assign [.Name z px] c apos2] pos2] [] [] pos :: rest) B.env) R E s := by
  refine wpAny_execs_cons (wpAny_Try_except (wpAny_execs_cons (wpAny_Assign_Name (he Kp γ s y s _ _ _ (Le.refl _) hfr fun e' s₁ fl => ?_) hsw)))
  obtain ⟨a, a0, rfl, gx, fw⟩ := fl
  refine wpAny_looks_onW hfr hf fw fun h₁ held up => wpAny_landsW held fun h₂ fw' up' => ?_
  have gx2 := gx_on (gx_on gx held.1 up) fw'.1 up'
  obtain ⟨hA, TA, gA, yA⟩ := y.rebase G0 hfr hf hs₀ gx2
  obtain ⟨tl, N, nm, q, bs, hdct, sn, sub, ab, col, dd, k0, k1, k2, k3, k5, mN, hC, hN, hni, TT⟩ := O.obj
  obtain ⟨oe, hoe, hcls⟩ := fw'.there
  refine wpAny_handleBy_cons (codeAny_handlers_test (Name_function_global y.wf.ek hx (loadGlobal_global (by rw [y.wf.eg]; exact yA.cn.here.g) O.bound ?_) hd)) (by intro q; cases q)
  have hC' := yA.cn.here.root _ _ hC
  have hQ : wpAny (model B.W.prog B.W.w) (B.A.mark (some (.ref a))) (setFlight (.ref a) none) (fun _ s₂ => wpAny (model B.W.prog B.W.w) (B.A.mark (some (.ref a))) (execs [.Assign [.Name z px] c apos2] B.env) (fun f s' => match f with | .next => wpAny (model B.W.prog B.W.w) B.A (execs rest B.env) R E s' | f => R f s') (notedBy (model B.W.prog B.W.w) (B.A.mark (some (.ref a))) B.env (cameBackBy (model B.W.prog B.W.w) B.A B.env E)) s₂) (notedBy (model B.W.prog B.W.w) (B.A.mark (some (.ref a))) B.env (cameBackBy (model B.W.prog B.W.w) B.A B.env E)) { s₁ with heap := h₂ } := by
    refine lands_againW (s := { s₁ with heap := h₂ }) fw' fun h₃ fw3 up3 => ?_
    obtain ⟨h₀', T, g', y'⟩ := y.rebase G0 hfr hf hs₀ (gx_on gx2 fw3.1 up3)
    refine wpAny_execs_cons (wpAny_Assign_Name (hc _ _ _ _ fun v s' g r => ?_) hs)
    have y₂ := y'.gw g
    exact store_any y₂.wf.ek y₂.wf.apart y₂.wf.cl y₂.cn.ns y₂.cells hxk fun h'' tk b st => wpAny_execs_nil (hrest h₀' _ T g' (y₂.stored (d := d) st (.of r) (fun h => (nomatch h))))
  obtain ⟨hp, gg, dr, tk, os⟩ := s₁
  refine wpAny_excMatches_sub_self hC' hoe hcls (TT.hasType (by decide)) ?_
  exact codeAny_handlers_suite hQ

/-- an exception leaves the def's frame -/
theorem rz_leave {B : Bd} {cls : Value} {l : List Env} {e : Value} {s' : Shared} {Q : Unit → Shared → Prop} {E : Value → Shared → Prop} (hBf : B.A.frames = some (B.env :: l)) (hBe : B.env.frame = some B.env.locals) (hBk : B.env.scope.kind = .function) (hh₀ : B.s₀.heap = B.h₀) (rz : Rz B cls e s') (hQ : ∀ s'', Fly l cls B.s₀ e s'' → Q () s'') :
    wpAny (model B.W.prog B.W.w) B.A (leaving B.env e) Q E s' := by
  have no : ∀ b, B.h₀.get? b = none → (TI.gone B.h₀ (frs l)).get? b = none := fun b hb => by
    cases q : (TI.gone B.h₀ (frs l)).get? b with
    | none => rfl
    | some o => rw [gone_le b o q] at hb; cases hb
  have Lnew : ∀ {h : Heap}, Cn B.W B.k B.A B.h₀ B.env.locals h → B.h₀.get? B.env.locals = none := fun c => by
    cases q : B.h₀.get? B.env.locals with
    | none => rfl
    | some o => exact absurd (Heap.lt_size q) (Nat.not_lt.mpr c.above)
  have FF : ∀ {h : Heap}, Cn B.W B.k B.A B.h₀ B.env.locals h → h.FunFrames (TI.gone B.h₀ (frs l)) (B.env :: l) := fun {h} c => by
    obtain ⟨m, hm⟩ := c.ns
    obtain ⟨A₀, base, outer, fenv, bl, hfr', hfL, hfk, hrt, hnf⟩ := c.bel
    rw [hBf] at hfr'
    injection hfr' with hfr'
    injection hfr' with e1 e2
    subst e1 e2
    have F0 : B.h₀.FunFrames (TI.gone B.h₀ (frs l)) l := ff_base bl.frames fun b hb => TI.gone_none hb
    exact .cons (by rw [hBk]; decide) hBe hm (no _ (Lnew c)) (F0.of_keeps fun b o e _ => ⟨o, c.keep b o e, rfl⟩)
  cases rz with
  | made a h' tk vs' e1 e2 c mx =>
    subst e1
    have L1 : Le B.h₀ h' := c.keep
    refine wpAny_leaves_madeW hBf hBe (fun b o e => L1 b o (gone_le b o e)) (FF c) mx fun h'' t fl _ _ up => ?_
    rw [← hh₀] at fl
    exact hQ _ ⟨a, _, rfl, ⟨⟨h'', tk, by rw [e2]⟩, fun b o e n => fl.1 b o ((TI.gone_get n).trans e), by rw [hh₀]; exact (Heap.UpToSlots.of_keeps L1).trans ((Heap.UpToSlots.of_keeps mx.keeps).trans up)⟩, fl⟩
  | on s₂ fl sm c =>
    obtain ⟨a, a0, rfl, gx, f2⟩ := fl _ hBf
    have L1 : Le B.h₀ s₂.heap := c.keep
    have lb : Le (TI.gone B.h₀ (frs l)) (TI.gone s₂.heap (frs (B.env :: l))) := fun b o e => by
      obtain ⟨n, e⟩ := TI.gone_some e
      rw [TI.gone_get]
      · exact L1 b o e
      · intro hm
        rw [frs_cons hBe] at hm
        rcases List.mem_cons.mp hm with q | q
        · rw [q, Lnew c] at e; cases e
        · exact n q
    refine wpAny_leaves_onW hBf hBe (fly_base f2 lb) fun h'' fl' up => hQ _ ⟨a, a0, rfl, ⟨?_, fun b o e n => ?_, ?_⟩, ?_⟩
    · obtain ⟨h1, t1, q1⟩ := sm
      obtain ⟨h2, t2, q2⟩ := gx.same
      exact ⟨h'', t2, by rw [q2, q1]⟩
    · exact fl'.1 b o ((TI.gone_get n).trans (hh₀ ▸ e))
    · rw [hh₀]; exact (Heap.UpToSlots.of_keeps L1).trans (gx.up.trans up)
    · rw [hh₀]; exact fl'
theorem Fly.pre {l : List Env} {cls e : Value} {s₀ s s' : Shared} (g : Gx (frs l) s₀ s) (x : Fly l cls s e s') : Fly l cls s₀ e s' := by
  obtain ⟨a, a0, rfl, gx, fl⟩ := x
  refine ⟨a, a0, rfl, g.trans gx, fly_base fl fun b o e => ?_⟩
  obtain ⟨n, e⟩ := TI.gone_some e
  rw [TI.gone_get n]; exact g.other b o e n

/-- a call that gives a value, an exception having come and gone within it -/
noncomputable def FnCx (W : Wd) (k : Nat) (f : Addr) (args : List V) (d : V) : Prop :=
  ∀ (A : Around) (h₀ : Heap) (L : Addr) (X : List Addr) (s : Shared) (vs : List Value) (l : List Env) (Q E : Value → Shared → Prop), Cn W k A h₀ L s.heap → A.frames = some l → (∀ a ∈ X, ∃ o, s.heap.get? a = some o) → RdA [] s.heap vs args →
    (∀ v s', Gx (frs l) s s' → Rd X s'.heap v d → Q v s') → wpAny (model W.prog W.w) A (call (.ref f) vs) Q E s

/-- a def's call, the caller's frames known -/
theorem call_in {W : Wd} {k : Nat} {f : Addr} {name : Str} {st : Stmt} {doc pm cdv ct : Value} {an : Option Addr} {ps : List Str} {args : List V} (hd : W.defs f (fdOf name st doc pm an cdv ct))
    (hbind : ∀ vs, vs.length = ps.length → bindArgs (fdOf name st doc pm an cdv ct) ⟨vs, []⟩ = pure (ps.zip vs)) (hps : ps.Nodup) (hlen : args.length = ps.length)
    (hkind : ∀ n, ∀ x ∈ ps, (fnScope st).names.lookup x = some .local ∨ ((fnScope st).names.lookup x = some .cell ∧ ((cellsFrom n (fnScope st).names []).lookup x).isSome = true))
    (hnd : ((cellsFrom 0 (fnScope st).names []).map (·.1)).Nodup) (hco : (fnScope st).isCoroutine = false) (hgen : (fnScope st).isGenerator = false) (hk : (fnScope st).kind = .function)
    {A : Around} {h₀ : Heap} {L : Addr} {X : List Addr} {s : Shared} {vs : List Value} {l : List Env} {Q E : Value → Shared → Prop} (cn : Cn W (k + 1) A h₀ L s.heap) (hl : A.frames = some l) (hX : ∀ a ∈ X, ∃ o, s.heap.get? a = some o) (ra : RdA [] s.heap vs args)
    (h : ∀ (L' : Addr) s₁, let B : Bd := ⟨W, k, A.deeper (callEnvC (fdOf name st doc pm an cdv ct) L' f), s.heap, callEnvC (fdOf name st doc pm an cdv ct) L' f, X, s⟩
      B.A.frames = some (B.env :: l) → Sat B (fun a o => s.heap.get? a = some o) [] [] (ps.zip (args.map tag)) s₁ →
      wpAny (model W.prog W.w) B.A (execs (fnBody st) B.env) (fun f s' => ∃ v, f = .ret v ∧ Q v s') (fun e s' => wpAny (model W.prog W.w) B.A (leaving B.env e) (fun _ s'' => E e s'') (fun e' s'' => E e' s'') s') s₁) :
    wpAny (model W.prog W.w) A (call (.ref f) vs) Q E s := by
  have gr := cn.here
  obtain ⟨o, ho, hdat, hcd⟩ := gr.defs f _ hd
  obtain ⟨A₀, base, outer, fenv, bl, hfr, hfL, hfk, hrt, hnf⟩ := cn.bel
  rw [hl] at hfr
  obtain rfl : l = fenv :: outer := Option.some.inj hfr
  obtain ⟨m, hm⟩ := cn.ns
  have F : Fr h₀ L s.heap m := ⟨hm, cn.keep, cn.above⟩
  have hB1 : Below A base (fenv :: outer) s.heap := by
    have hnew : base.get? L = none := by
      cases hq : base.get? L with
      | none => rfl
      | some o => exact absurd (Nat.lt_of_lt_of_le (Heap.lt_size (bl.stays L o hq)) F.above) (Nat.lt_irrefl _)
    exact ⟨hl, fun b o e => F.keep b o (bl.stays b o e), .cons (by rw [hfk]; decide) hfL F.ns hnew (bl.frames.of_keeps fun b o e _ => ⟨o, F.keep b o e, rfl⟩)⟩
  refine wpAny_call (call_core gr hB1 hrt (frames_ns hfL hm hnf cn.keep) cn.hand cn.room cn.units ho hdat hcd hX ra rfl rfl rfl rfl hbind hps hlen hkind hnd hco hgen hk ?_)
  rintro ⟨W', k', A', h₀', env, X₀, s₀⟩ s₁ hW hk' ⟨L', hL'⟩ hA hh hX' hs sat
  dsimp only at hW hk' hL' hA hh hX' hs
  subst hW hk' hL' hA hh hX' hs
  refine wpAny_mono (h L' s₁ (Around.frames_deeper hl) sat) (fun fl s' ou => ?_) fun _ _ e => e
  obtain ⟨v, rfl, hq⟩ := ou
  exact hq
end Mine
namespace Mine
open PySem PySem.Calls PySem.Spec PyProof.Rows PySem.W

section
variable {B : Bd} {μ : Mu} {ρ : Rho} {Post : Fl → Mu → Rho → Prop}
/-- a call in the law's own frame that gives a value, an exception having come and gone within it -/
theorem tri_assignG {x : Str} {p pos : Pos} {e : Expr} {d : V} (hx : B.env.kindOf x = some .local ∨ (B.env.kindOf x = some .cell ∧ (B.env.cells.lookup x).isSome = true))
    (he : ∀ Kp γ s, Sat B Kp γ μ ρ s → ∀ (Q E : Value → Shared → Prop), (∀ v s', Gx [B.env.locals] s s' → Rd (μ.at ++ B.X₀) s'.heap v d → Q v s') → wpAny (model B.W.prog B.W.w) B.A (eval e B.env) Q E s)
    (h : Post .next μ ((x, d) :: ρ)) (hn : μ.names.contains x = false := by rfl) (hs : swapsWith e (some (.Name x p)) pos.line B.env = pure false := by rfl) : Tr1 B μ ρ (.Assign [.Name x p] e pos) Post := fun Kp γ s E y =>
  wpAny_Assign_Name (he Kp γ s y _ _ fun v s' g r => store_sat (y.gx g) hx fun h' tk a st => ⟨.next, _, _, trivial, (y.gx g).stored st (.of r) (notin hn), h⟩) hs
theorem evg_fn {Kp γ s} {name : Str} {st : Stmt} {es : List Expr} {e : Expr} {p pos : Pos} {ds : List V} {d : V} (hfr : B.A.frames = some [B.env]) (hf : B.env.frame = some B.env.locals) (y : Sat B Kp γ μ ρ s) (H : HasDef B.W name st) (hc : ∀ f doc pm an cdv ct, B.W.defs f (fdOf name st doc pm an cdv ct) → FnCx B.W B.k f ds d) (ha : EvA B.W B.A B.env [] s.heap pos (e :: es) ds)
    (hx : B.env.kindOf name = some .globalImplicit := by rfl) (hdb : (name == ("__debug__" : Str)) = false := by decide) (hs : starEach (e :: es) B.env = (false, eval e B.env) :: starEach es B.env := by rfl)
    (hev : eval (.Call (.Name name p) (e :: es) [] pos) B.env = (do callWith pos (← eval (.Name name p) B.env) [] (backTo pos (starEach (e :: es) B.env)) (backToKw pos (keywordEach [] B.env))) := by rfl) :
    ∀ (Q E : Value → Shared → Prop), (∀ v s', Gx [B.env.locals] s s' → Rd (μ.at ++ B.X₀) s'.heap v d → Q v s') → wpAny (model B.W.prog B.W.w) B.A (eval (.Call (.Name name p) (e :: es) [] pos) B.env) Q E s := fun Q E g => by
  obtain ⟨f, doc, pm, an, cdv, ct, h1, h2⟩ := H
  obtain ⟨o, ho, hdat, hcd⟩ := y.cn.here.defs f _ h1
  have hfs : frs [B.env] = [B.env.locals] := frs_cons hf
  refine Call_ ((show EvV _ _ _ _ _ _ from evv_glob y.cx h2 hx hdb) s _ _ (Le.refl _) fun s₁ g₁ => callWith_def hdat (ha s₁ _ _ g₁.le fun vs s₂ g₂ r₂ => ?_) hs) hev
  have l₂ : Le s.heap s₂.heap := g₁.le.trans g₂.le
  exact ⟨l₂ _ _ ho, hc f doc pm an cdv ct h1 B.A B.h₀ B.env.locals (μ.at ++ B.X₀) s₂ vs [B.env] Q E (y.cn.le l₂) hfr (y.cx.le l₂).xs r₂ fun v s' g₃ r => g v s' (((g₁.trans g₂).gx).trans (hfs ▸ g₃)) r⟩
end

section
variable {W : Wd} {k : Nat} {A : Around} {h₀ : Heap} {L : Addr} {env : Env} {X Y : List Addr} {h : Heap}
/-- a def of the program called anywhere -/
theorem ev_def {name : Str} {st : Stmt} {es : List Expr} {e : Expr} {p pos : Pos} {ds : List V} {d : V} (c : Cx W k A h₀ L env X h) (H : HasDef W name st) (hc : ∀ f doc pm an cdv ct, W.defs f (fdOf name st doc pm an cdv ct) → FnC W k f ds d) (ha : EvA W A env [] h pos (e :: es) ds)
    (hx : env.kindOf name = some .globalImplicit := by rfl) (hdb : (name == ("__debug__" : Str)) = false := by decide) (hs : starEach (e :: es) env = (false, eval e env) :: starEach es env := by rfl)
    (hev : eval (.Call (.Name name p) (e :: es) [] pos) env = (do callWith pos (← eval (.Name name p) env) [] (backTo pos (starEach (e :: es) env)) (backToKw pos (keywordEach [] env))) := by rfl) :
    Ev W A env X h (.Call (.Name name p) (e :: es) [] pos) d := by
  obtain ⟨f, doc, pm, an, cdv, ct, h1, h2⟩ := H
  exact ev_call c (evv_glob c h2 hx hdb) ha h1 (hc _ _ _ _ _ _ h1) hs hev
end
end Mine
namespace Mine
open PySem PySem.Calls PySem.Spec PyProof.Rows
set_option maxRecDepth 100000
theorem bind1 {fs : FuncData} {p : Str} (h : ∀ a : Value, bindArgs fs ⟨[a], []⟩ = pure ([p].zip [a])) : ∀ vs : List Value, vs.length = [p].length → bindArgs fs ⟨vs, []⟩ = pure ([p].zip vs) := fun vs hv => by
  obtain ⟨a, r, rfl, h1⟩ := len_cons hv
  obtain rfl := List.eq_nil_of_length_eq_zero h1
  exact h a
theorem bind2 {fs : FuncData} {p q : Str} (h : ∀ a b : Value, bindArgs fs ⟨[a, b], []⟩ = pure ([p, q].zip [a, b])) : ∀ vs : List Value, vs.length = [p, q].length → bindArgs fs ⟨vs, []⟩ = pure ([p, q].zip vs) := fun vs hv => by
  obtain ⟨a, r, rfl, h1⟩ := len_cons hv
  obtain ⟨b, r, rfl, h2⟩ := len_cons h1
  obtain rfl := List.eq_nil_of_length_eq_zero h2
  exact h a b
noncomputable def ifBody : Stmt → List Stmt
  | .If _ b _ _ => b
  | _ => []
noncomputable def forBody : Stmt → List Stmt
  | .For _ _ b _ _ => b
  | _ => []
noncomputable def whileBody : Stmt → List Stmt
  | .While _ b _ _ => b
  | _ => []
theorem cut_zints {m : List Int} {lo hi : Option Int} : cut (zints m) lo hi = zints (cut m lo hi) := by
  unfold cut zints
  rw [List.map_drop]
  cases hi with
  | none => rfl
  | some y => simp only [Option.elim, List.map_take]
/-- the words behind a head -/
noncomputable def fldI (m : List Int) (a : Int) : List Int := cut m (some (a + 1)) (some (a + 1 + m.getD a.toNat 0))
namespace L21
noncomputable abbrev st (i : Nat) : Stmt := (PySem.Challenge.pw_k19_0021.main.body).getD i (.Pass ⟨0, 0, 0, 0⟩)
structure Fns (W : Wd) : Prop where
  N : Std W
  ve : W.mg "ValueError" = none ∧ W.mb "ValueError" = some (.type "ValueError")
  str : W.mg "str" = none ∧ W.mb "str" = some (.type "str")
  zip : W.mg "zip" = none ∧ W.mb "zip" = some (.type "zip")
  sum : W.mg "sum" = none ∧ W.mb "sum" = some (.builtin "sum")
  isptr : HasDef W "is_pointer" (st 2)
  ptr : HasDef W "pointer_to" (st 3)
  addr : HasDef W "address_of" (st 4)
  blocks : HasDef W "blocks_of" (st 5)
  alloc : HasDef W "allocate" (st 6)
  fields : HasDef W "fields_of" (st 7)
  reach : HasDef W "reachable" (st 8)
  swept : HasDef W "swept" (st 9)
  bysweep : HasDef W "collected_by_sweeping" (st 10)
  forw : HasDef W "forwarded" (st 11)
  bycopy : HasDef W "collected_by_copying" (st 12)
  aoc : HasDef W "allocate_or_collect" (st 13)
  free : HasDef W "_law_free" (st 15)
  mended : HasDef W "_law_mended" (st 16)
  joined : HasDef W "_law_joined" (st 17)
  placed : HasDef W "_law_placed" (st 18)
  oom : ∃ C, Oom W "OutOfMemory" C

noncomputable def tupV (q : Int × Int × Bool) : V := .tup [.int q.1, .int q.2.1, .bool q.2.2]
noncomputable def blkD (ps : List (List Int)) : List Int → V
  | [] => .lst ((blks 0 ps).map tupV)
  | _ => .none

theorem blocks_c {W : Wd} {f : Addr} {doc pm cdv ct : Value} {an : Option Addr} {k : Nat} (F : Fns W) (hd : W.defs f (fdOf "blocks_of" (st 5) doc pm an cdv ct)) {ns : List Int} {ps : List (List Int)} {tl : List Int} (hm : ns = ps.flatten ++ tl) (hok : ∀ p ∈ ps, OkP p) (ht : tl = [] ∨ BadT tl) (hz : ns.length < 2 ^ 20) :
    FnC W (k + 1) f [.lst (zints ns)] (blkD ps tl) := by
  refine fnc_def (ps := ["mem"]) hd ?_ (by decide) rfl ?_ (by decide) rfl rfl rfl ?_
  · exact bind1 fun _ => rfl
  · intro n x hx
    simp only [List.mem_cons, List.not_mem_nil, or_false] at hx
    rcases hx with rfl; exact .inl rfl
  · intro A h₀ L X₀ s₀
    have N := F.N
    have hsl : (2 : Nat) ^ 20 ≤ sizeLine := by decide
    refine tri_cons (tri_assignM (.inl rfl) (fun Kp γ s y => evf_list y.cx eva_nil) (fun l => ?_))
    refine tri_cons (tri_assign (.inl rfl) (fun Kp γ s y => by (focus ((repeat' (first | exact ev_int | exact ev_none | exact ev_bool | exact ev_str | exact ev_nm (by assumption) (by rfl) | exact ev_rho (by assumption) (by rfl) | exact ev_nm (by assumption) (by assumption) | exact ev_rho (by assumption) (by assumption) | exact ev_nmO (by assumption) (by rfl) | exact ev_old (by assumption) (by rfl) | exact Ev.sub (ev_rho (by assumption) (by rfl)) sub_l | exact ev_mu0 (by assumption) (List.Mem.head _) | exact ev_mu0 (by assumption) (List.Mem.tail _ (List.Mem.head _)) | exact Ev.flat (ev_nm (by assumption) (by rfl)) (by rfl) | refine ev_add ?_ ?_ | refine ev_sub ?_ ?_ | refine ev_mulL ?_ ?_ | refine ev_mod ?_ ?_ | refine ev_div ?_ ?_ | refine ev_neg ?_ | refine ev_ltI ?_ ?_ | refine ev_abs (evv_built (Sat.cx (by assumption)) (Fns.N (by assumption)).abs.1 (Fns.N (by assumption)).abs.2) ?_ | refine ev_len (evv_built (Sat.cx (by assumption)) (Fns.N (by assumption)).len.1 (Fns.N (by assumption)).len.2) ?_ ?_ | assumption | lia | (rw [ints_len]; lia))); done))) ?_)
    refine tri_cons (tri_forR (N := (ns.length : Int)) (X := []) (fun j μ ρ => ∃ l out a, μ = [(("blocks" : Str), l, out.map tupV)] ∧ ρ = [(("at" : Str), V.int a), (("mem" : Str), V.old (V.lst (zints ns)))] ∧ BInv ps j out a ∧ out.length ≤ j) (.inl rfl) (fun Kp γ s y => evv_built y.cx N.range.1 N.range.2) (fun Kp γ s y => ?_) (by lia) (by lia) ?_ ?_ ?_ ?_)
    · rw [← ints_len]
      (focus ((repeat' (first | exact ev_int | exact ev_none | exact ev_bool | exact ev_str | exact ev_nm (by assumption) (by rfl) | exact ev_rho (by assumption) (by rfl) | exact ev_nm (by assumption) (by assumption) | exact ev_rho (by assumption) (by assumption) | exact ev_nmO (by assumption) (by rfl) | exact ev_old (by assumption) (by rfl) | exact Ev.sub (ev_rho (by assumption) (by rfl)) sub_l | exact ev_mu0 (by assumption) (List.Mem.head _) | exact ev_mu0 (by assumption) (List.Mem.tail _ (List.Mem.head _)) | exact Ev.flat (ev_nm (by assumption) (by rfl)) (by rfl) | refine ev_add ?_ ?_ | refine ev_sub ?_ ?_ | refine ev_mulL ?_ ?_ | refine ev_mod ?_ ?_ | refine ev_div ?_ ?_ | refine ev_neg ?_ | refine ev_ltI ?_ ?_ | refine ev_abs (evv_built (Sat.cx (by assumption)) (Fns.N (by assumption)).abs.1 (Fns.N (by assumption)).abs.2) ?_ | refine ev_len (evv_built (Sat.cx (by assumption)) (Fns.N (by assumption)).len.1 (Fns.N (by assumption)).len.2) ?_ ?_ | assumption | lia | (rw [ints_len]; lia))); done))
    · exact ⟨l, [], 0, rfl, rfl, binv_start, Nat.le_refl _⟩
    · rintro i μ' ρ' ⟨l, out, a, rfl, rfl, _⟩
      rfl
    · rintro j μ' ρ' hj ⟨l, out, a, rfl, rfl, hb, hlen⟩
      rw [Int.toNat_natCast] at hj
      refine tri_cons (tri_if (b := decide ((j : Int) = a)) (fun Kp γ s y => by (focus (((first | refine bt_eqI ?_ ?_ | refine bt_neI ?_ ?_ | refine bt_ltI ?_ ?_ | refine bt_leI ?_ ?_ | refine bt_gtI ?_ ?_ | refine bt_geI ?_ ?_) <;> (focus ((repeat' (first | exact ev_int | exact ev_none | exact ev_bool | exact ev_str | exact ev_nm (by assumption) (by rfl) | exact ev_rho (by assumption) (by rfl) | exact ev_nm (by assumption) (by assumption) | exact ev_rho (by assumption) (by assumption) | exact ev_nmO (by assumption) (by rfl) | exact ev_old (by assumption) (by rfl) | exact Ev.sub (ev_rho (by assumption) (by rfl)) sub_l | exact ev_mu0 (by assumption) (List.Mem.head _) | exact ev_mu0 (by assumption) (List.Mem.tail _ (List.Mem.head _)) | exact Ev.flat (ev_nm (by assumption) (by rfl)) (by rfl) | refine ev_add ?_ ?_ | refine ev_sub ?_ ?_ | refine ev_mulL ?_ ?_ | refine ev_mod ?_ ?_ | refine ev_div ?_ ?_ | refine ev_neg ?_ | refine ev_ltI ?_ ?_ | refine ev_abs (evv_built (Sat.cx (by assumption)) (Fns.N (by assumption)).abs.1 (Fns.N (by assumption)).abs.2) ?_ | refine ev_len (evv_built (Sat.cx (by assumption)) (Fns.N (by assumption)).len.1 (Fns.N (by assumption)).len.2) ?_ ?_ | assumption | lia | (rw [ints_len]; lia))); done)))))) ?_)
      by_cases hja : (j : Int) = a
      · rw [decide_eq_true hja]
        have hat := binv_at hm hok ht hb hja (by lia)
        refine tri_cons (tri_assign (.inl rfl) (fun Kp γ s y => (ev_item (X := []) (ds := zints ns) (j := (j : Int)) (by (focus ((repeat' (first | exact ev_int | exact ev_none | exact ev_bool | exact ev_str | exact ev_nm (by assumption) (by rfl) | exact ev_rho (by assumption) (by rfl) | exact ev_nm (by assumption) (by assumption) | exact ev_rho (by assumption) (by assumption) | exact ev_nmO (by assumption) (by rfl) | exact ev_old (by assumption) (by rfl) | exact Ev.sub (ev_rho (by assumption) (by rfl)) sub_l | exact ev_mu0 (by assumption) (List.Mem.head _) | exact ev_mu0 (by assumption) (List.Mem.tail _ (List.Mem.head _)) | exact Ev.flat (ev_nm (by assumption) (by rfl)) (by rfl) | refine ev_add ?_ ?_ | refine ev_sub ?_ ?_ | refine ev_mulL ?_ ?_ | refine ev_mod ?_ ?_ | refine ev_div ?_ ?_ | refine ev_neg ?_ | refine ev_ltI ?_ ?_ | refine ev_abs (evv_built (Sat.cx (by assumption)) (Fns.N (by assumption)).abs.1 (Fns.N (by assumption)).abs.2) ?_ | refine ev_len (evv_built (Sat.cx (by assumption)) (Fns.N (by assumption)).len.1 (Fns.N (by assumption)).len.2) ?_ ?_ | assumption | lia | (rw [ints_len]; lia))); done))) (by (focus ((repeat' (first | exact ev_int | exact ev_none | exact ev_bool | exact ev_str | exact ev_nm (by assumption) (by rfl) | exact ev_rho (by assumption) (by rfl) | exact ev_nm (by assumption) (by assumption) | exact ev_rho (by assumption) (by assumption) | exact ev_nmO (by assumption) (by rfl) | exact ev_old (by assumption) (by rfl) | exact Ev.sub (ev_rho (by assumption) (by rfl)) sub_l | exact ev_mu0 (by assumption) (List.Mem.head _) | exact ev_mu0 (by assumption) (List.Mem.tail _ (List.Mem.head _)) | exact Ev.flat (ev_nm (by assumption) (by rfl)) (by rfl) | refine ev_add ?_ ?_ | refine ev_sub ?_ ?_ | refine ev_mulL ?_ ?_ | refine ev_mod ?_ ?_ | refine ev_div ?_ ?_ | refine ev_neg ?_ | refine ev_ltI ?_ ?_ | refine ev_abs (evv_built (Sat.cx (by assumption)) (Fns.N (by assumption)).abs.1 (Fns.N (by assumption)).abs.2) ?_ | refine ev_len (evv_built (Sat.cx (by assumption)) (Fns.N (by assumption)).len.1 (Fns.N (by assumption)).len.2) ?_ ?_ | assumption | lia | (rw [ints_len]; lia))); done))) (by lia) (ints_get (by lia) (by lia)) (by lia)).flat rfl) ?_)
        refine tri_cons (tri_assign (d := .int (hsize (ns.getD (j : Int).toNat 0))) (.inl rfl) (fun Kp γ s y => ?_) ?_)
        · refine ev_if (b := decide (0 ≤ ns.getD (j : Int).toNat 0)) (by (focus (((first | refine bt_eqI ?_ ?_ | refine bt_neI ?_ ?_ | refine bt_ltI ?_ ?_ | refine bt_leI ?_ ?_ | refine bt_gtI ?_ ?_ | refine bt_geI ?_ ?_) <;> (focus ((repeat' (first | exact ev_int | exact ev_none | exact ev_bool | exact ev_str | exact ev_nm (by assumption) (by rfl) | exact ev_rho (by assumption) (by rfl) | exact ev_nm (by assumption) (by assumption) | exact ev_rho (by assumption) (by assumption) | exact ev_nmO (by assumption) (by rfl) | exact ev_old (by assumption) (by rfl) | exact Ev.sub (ev_rho (by assumption) (by rfl)) sub_l | exact ev_mu0 (by assumption) (List.Mem.head _) | exact ev_mu0 (by assumption) (List.Mem.tail _ (List.Mem.head _)) | exact Ev.flat (ev_nm (by assumption) (by rfl)) (by rfl) | refine ev_add ?_ ?_ | refine ev_sub ?_ ?_ | refine ev_mulL ?_ ?_ | refine ev_mod ?_ ?_ | refine ev_div ?_ ?_ | refine ev_neg ?_ | refine ev_ltI ?_ ?_ | refine ev_abs (evv_built (Sat.cx (by assumption)) (Fns.N (by assumption)).abs.1 (Fns.N (by assumption)).abs.2) ?_ | refine ev_len (evv_built (Sat.cx (by assumption)) (Fns.N (by assumption)).len.1 (Fns.N (by assumption)).len.2) ?_ ?_ | assumption | lia | (rw [ints_len]; lia))); done)))))) ?_
          unfold hsize
          split
          · rename_i q; rw [if_pos (of_decide_eq_true q)]; (focus ((repeat' (first | exact ev_int | exact ev_none | exact ev_bool | exact ev_str | exact ev_nm (by assumption) (by rfl) | exact ev_rho (by assumption) (by rfl) | exact ev_nm (by assumption) (by assumption) | exact ev_rho (by assumption) (by assumption) | exact ev_nmO (by assumption) (by rfl) | exact ev_old (by assumption) (by rfl) | exact Ev.sub (ev_rho (by assumption) (by rfl)) sub_l | exact ev_mu0 (by assumption) (List.Mem.head _) | exact ev_mu0 (by assumption) (List.Mem.tail _ (List.Mem.head _)) | exact Ev.flat (ev_nm (by assumption) (by rfl)) (by rfl) | refine ev_add ?_ ?_ | refine ev_sub ?_ ?_ | refine ev_mulL ?_ ?_ | refine ev_mod ?_ ?_ | refine ev_div ?_ ?_ | refine ev_neg ?_ | refine ev_ltI ?_ ?_ | refine ev_abs (evv_built (Sat.cx (by assumption)) (Fns.N (by assumption)).abs.1 (Fns.N (by assumption)).abs.2) ?_ | refine ev_len (evv_built (Sat.cx (by assumption)) (Fns.N (by assumption)).len.1 (Fns.N (by assumption)).len.2) ?_ ?_ | assumption | lia | (rw [ints_len]; lia))); done))
          · rename_i q; rw [if_neg (fun z => q (decide_eq_true z))]; (focus ((repeat' (first | exact ev_int | exact ev_none | exact ev_bool | exact ev_str | exact ev_nm (by assumption) (by rfl) | exact ev_rho (by assumption) (by rfl) | exact ev_nm (by assumption) (by assumption) | exact ev_rho (by assumption) (by assumption) | exact ev_nmO (by assumption) (by rfl) | exact ev_old (by assumption) (by rfl) | exact Ev.sub (ev_rho (by assumption) (by rfl)) sub_l | exact ev_mu0 (by assumption) (List.Mem.head _) | exact ev_mu0 (by assumption) (List.Mem.tail _ (List.Mem.head _)) | exact Ev.flat (ev_nm (by assumption) (by rfl)) (by rfl) | refine ev_add ?_ ?_ | refine ev_sub ?_ ?_ | refine ev_mulL ?_ ?_ | refine ev_mod ?_ ?_ | refine ev_div ?_ ?_ | refine ev_neg ?_ | refine ev_ltI ?_ ?_ | refine ev_abs (evv_built (Sat.cx (by assumption)) (Fns.N (by assumption)).abs.1 (Fns.N (by assumption)).abs.2) ?_ | refine ev_len (evv_built (Sat.cx (by assumption)) (Fns.N (by assumption)).len.1 (Fns.N (by assumption)).len.2) ?_ ?_ | assumption | lia | (rw [ints_len]; lia))); done))
        refine tri_cons (tri_if (b := decide (((zints ns).length : Int) < (j : Int) + hsize (ns.getD (j : Int).toNat 0))) (fun Kp γ s y => by (focus (((first | refine bt_eqI ?_ ?_ | refine bt_neI ?_ ?_ | refine bt_ltI ?_ ?_ | refine bt_leI ?_ ?_ | refine bt_gtI ?_ ?_ | refine bt_geI ?_ ?_) <;> (focus ((repeat' (first | exact ev_int | exact ev_none | exact ev_bool | exact ev_str | exact ev_nm (by assumption) (by rfl) | exact ev_rho (by assumption) (by rfl) | exact ev_nm (by assumption) (by assumption) | exact ev_rho (by assumption) (by assumption) | exact ev_nmO (by assumption) (by rfl) | exact ev_old (by assumption) (by rfl) | exact Ev.sub (ev_rho (by assumption) (by rfl)) sub_l | exact ev_mu0 (by assumption) (List.Mem.head _) | exact ev_mu0 (by assumption) (List.Mem.tail _ (List.Mem.head _)) | exact Ev.flat (ev_nm (by assumption) (by rfl)) (by rfl) | refine ev_add ?_ ?_ | refine ev_sub ?_ ?_ | refine ev_mulL ?_ ?_ | refine ev_mod ?_ ?_ | refine ev_div ?_ ?_ | refine ev_neg ?_ | refine ev_ltI ?_ ?_ | refine ev_abs (evv_built (Sat.cx (by assumption)) (Fns.N (by assumption)).abs.1 (Fns.N (by assumption)).abs.2) ?_ | refine ev_len (evv_built (Sat.cx (by assumption)) (Fns.N (by assumption)).len.1 (Fns.N (by assumption)).len.2) ?_ ?_ | assumption | lia | (rw [ints_len]; lia))); done)))))) ?_)
        rw [ints_len]
        rcases hat with ⟨h1, h2⟩ | ⟨h1, h2⟩
        · rw [decide_eq_true (by lia)]
          refine tri_cons (tri_ret (d := .none) (fun Kp γ s y => by (focus ((repeat' (first | exact ev_int | exact ev_none | exact ev_bool | exact ev_str | exact ev_nm (by assumption) (by rfl) | exact ev_rho (by assumption) (by rfl) | exact ev_nm (by assumption) (by assumption) | exact ev_rho (by assumption) (by assumption) | exact ev_nmO (by assumption) (by rfl) | exact ev_old (by assumption) (by rfl) | exact Ev.sub (ev_rho (by assumption) (by rfl)) sub_l | exact ev_mu0 (by assumption) (List.Mem.head _) | exact ev_mu0 (by assumption) (List.Mem.tail _ (List.Mem.head _)) | exact Ev.flat (ev_nm (by assumption) (by rfl)) (by rfl) | refine ev_add ?_ ?_ | refine ev_sub ?_ ?_ | refine ev_mulL ?_ ?_ | refine ev_mod ?_ ?_ | refine ev_div ?_ ?_ | refine ev_neg ?_ | refine ev_ltI ?_ ?_ | refine ev_abs (evv_built (Sat.cx (by assumption)) (Fns.N (by assumption)).abs.1 (Fns.N (by assumption)).abs.2) ?_ | refine ev_len (evv_built (Sat.cx (by assumption)) (Fns.N (by assumption)).len.1 (Fns.N (by assumption)).len.2) ?_ ?_ | assumption | lia | (rw [ints_len]; lia))); done))) ?_)
          obtain ⟨hd', t', e, _⟩ := h2
          exact .inl (by rw [e]; rfl)
        · rw [decide_eq_false (by lia)]
          refine tri_nil (tri_cons (tri_append (μ₁ := []) (μ₂ := []) (d := tupV ((j : Int), hsize (ns.getD (j : Int).toNat 0), decide (ns.getD (j : Int).toNat 0 < 0))) rfl (fun Kp γ s y => ev_tup y.cx (eva_cons (by (focus ((repeat' (first | exact ev_int | exact ev_none | exact ev_bool | exact ev_str | exact ev_nm (by assumption) (by rfl) | exact ev_rho (by assumption) (by rfl) | exact ev_nm (by assumption) (by assumption) | exact ev_rho (by assumption) (by assumption) | exact ev_nmO (by assumption) (by rfl) | exact ev_old (by assumption) (by rfl) | exact Ev.sub (ev_rho (by assumption) (by rfl)) sub_l | exact ev_mu0 (by assumption) (List.Mem.head _) | exact ev_mu0 (by assumption) (List.Mem.tail _ (List.Mem.head _)) | exact Ev.flat (ev_nm (by assumption) (by rfl)) (by rfl) | refine ev_add ?_ ?_ | refine ev_sub ?_ ?_ | refine ev_mulL ?_ ?_ | refine ev_mod ?_ ?_ | refine ev_div ?_ ?_ | refine ev_neg ?_ | refine ev_ltI ?_ ?_ | refine ev_abs (evv_built (Sat.cx (by assumption)) (Fns.N (by assumption)).abs.1 (Fns.N (by assumption)).abs.2) ?_ | refine ev_len (evv_built (Sat.cx (by assumption)) (Fns.N (by assumption)).len.1 (Fns.N (by assumption)).len.2) ?_ ?_ | assumption | lia | (rw [ints_len]; lia))); done))) (eva_cons (by (focus ((repeat' (first | exact ev_int | exact ev_none | exact ev_bool | exact ev_str | exact ev_nm (by assumption) (by rfl) | exact ev_rho (by assumption) (by rfl) | exact ev_nm (by assumption) (by assumption) | exact ev_rho (by assumption) (by assumption) | exact ev_nmO (by assumption) (by rfl) | exact ev_old (by assumption) (by rfl) | exact Ev.sub (ev_rho (by assumption) (by rfl)) sub_l | exact ev_mu0 (by assumption) (List.Mem.head _) | exact ev_mu0 (by assumption) (List.Mem.tail _ (List.Mem.head _)) | exact Ev.flat (ev_nm (by assumption) (by rfl)) (by rfl) | refine ev_add ?_ ?_ | refine ev_sub ?_ ?_ | refine ev_mulL ?_ ?_ | refine ev_mod ?_ ?_ | refine ev_div ?_ ?_ | refine ev_neg ?_ | refine ev_ltI ?_ ?_ | refine ev_abs (evv_built (Sat.cx (by assumption)) (Fns.N (by assumption)).abs.1 (Fns.N (by assumption)).abs.2) ?_ | refine ev_len (evv_built (Sat.cx (by assumption)) (Fns.N (by assumption)).len.1 (Fns.N (by assumption)).len.2) ?_ ?_ | assumption | lia | (rw [ints_len]; lia))); done))) (eva_cons (by (focus ((repeat' (first | exact ev_int | exact ev_none | exact ev_bool | exact ev_str | exact ev_nm (by assumption) (by rfl) | exact ev_rho (by assumption) (by rfl) | exact ev_nm (by assumption) (by assumption) | exact ev_rho (by assumption) (by assumption) | exact ev_nmO (by assumption) (by rfl) | exact ev_old (by assumption) (by rfl) | exact Ev.sub (ev_rho (by assumption) (by rfl)) sub_l | exact ev_mu0 (by assumption) (List.Mem.head _) | exact ev_mu0 (by assumption) (List.Mem.tail _ (List.Mem.head _)) | exact Ev.flat (ev_nm (by assumption) (by rfl)) (by rfl) | refine ev_add ?_ ?_ | refine ev_sub ?_ ?_ | refine ev_mulL ?_ ?_ | refine ev_mod ?_ ?_ | refine ev_div ?_ ?_ | refine ev_neg ?_ | refine ev_ltI ?_ ?_ | refine ev_abs (evv_built (Sat.cx (by assumption)) (Fns.N (by assumption)).abs.1 (Fns.N (by assumption)).abs.2) ?_ | refine ev_len (evv_built (Sat.cx (by assumption)) (Fns.N (by assumption)).len.1 (Fns.N (by assumption)).len.2) ?_ ?_ | assumption | lia | (rw [ints_len]; lia))); done))) eva_nil)))) ?_ ?_))
          · rw [List.length_map]; lia
          dsimp only [List.nil_append]
          refine tri_cons (tri_assign (d := .int ((j : Int) + hsize (ns.getD (j : Int).toNat 0))) (.inl rfl) ?_ ?_)
          · intro Kp γ s y
            (focus ((repeat' (first | exact ev_int | exact ev_none | exact ev_bool | exact ev_str | exact ev_nm (by assumption) (by rfl) | exact ev_rho (by assumption) (by rfl) | exact ev_nm (by assumption) (by assumption) | exact ev_rho (by assumption) (by assumption) | exact ev_nmO (by assumption) (by rfl) | exact ev_old (by assumption) (by rfl) | exact Ev.sub (ev_rho (by assumption) (by rfl)) sub_l | exact ev_mu0 (by assumption) (List.Mem.head _) | exact ev_mu0 (by assumption) (List.Mem.tail _ (List.Mem.head _)) | exact Ev.flat (ev_nm (by assumption) (by rfl)) (by rfl) | refine ev_add ?_ ?_ | refine ev_sub ?_ ?_ | refine ev_mulL ?_ ?_ | refine ev_mod ?_ ?_ | refine ev_div ?_ ?_ | refine ev_neg ?_ | refine ev_ltI ?_ ?_ | refine ev_abs (evv_built (Sat.cx (by assumption)) (Fns.N (by assumption)).abs.1 (Fns.N (by assumption)).abs.2) ?_ | refine ev_len (evv_built (Sat.cx (by assumption)) (Fns.N (by assumption)).len.1 (Fns.N (by assumption)).len.2) ?_ ?_ | assumption | lia | (rw [ints_len]; lia))); done))
          refine tri_end (ρ' := [(("at" : Str), V.int ((j : Int) + hsize (ns.getD (j : Int).toNat 0))), (("mem" : Str), V.old (V.lst (zints ns)))]) ⟨rfl, rfl, trivial⟩ ?_
          exact tri_nil ⟨l, out ++ [((j : Int), hsize (ns.getD (j : Int).toNat 0), decide (ns.getD (j : Int).toNat 0 < 0))], _, by rw [List.map_append]; rfl, rfl, h2, by rw [List.length_append]; simp; lia⟩
      · rw [decide_eq_false hja]
        refine tri_nil (tri_end (ρ' := [(("at" : Str), V.int a), (("mem" : Str), V.old (V.lst (zints ns)))]) ⟨rfl, rfl, trivial⟩ ?_)
        exact ⟨l, out, a, rfl, rfl, binv_skip hb hja, by lia⟩
    · rintro m r ⟨l, out, a, rfl, rfl, hb, hlen⟩
      rw [Int.toNat_natCast] at hb
      obtain ⟨e1, e2⟩ := binv_end hm hok hb
      refine tri_cons (tri_ret (d := blkD ps tl) ?_ (.inl rfl))
      rw [e1, e2]
      intro Kp γ s y
      exact ev_mu y (.head _)

theorem zset {m : List Int} {i : Nat} {x : Int} : (zints m).set i (.int x) = zints (m.set i x) := (List.map_set ..).symm

theorem alloc_bind {fs : FuncData} (h : ∀ a b : Value, bindArgs fs ⟨[a, b], []⟩ = pure ((["mem", "fields"] : List Str).zip [a, b])) : ∀ vs : List Value, vs.length = 2 → bindArgs fs ⟨vs, []⟩ = pure ((["mem", "fields"] : List Str).zip vs) := by
  exact bind2 h

theorem alloc_test {B : Bd} {μ : Mu} {ρ : Rho} {Kp γ s} {q : Int × Int × Bool} {n : Int} {p1 p2 p3 p4 p5 p6 p7 p8 : Pos} {c1 c2 : Nat} (y : Sat B Kp γ μ ρ s) (e1 : ρ.lookup ("b" : Str) = some (.old (tupV q))) (e2 : ρ.lookup ("need" : Str) = some (V.int n)) :
    Bt B.W B.A B.env s.heap (.BoolOp .And [.Subscript (.Name "b" p1) (.Constant (.int 2) c1 p2) p3, .Compare (.Subscript (.Name "b" p4) (.Constant (.int 1) c2 p5) p6) [.GtE] [.Name "need" p7] p8] p8) (q.2.2 && (decide (n ≤ q.2.1) && true)) :=
  bt_and (bt_val (ev_itemT (ds := [.int q.1, .int q.2.1, .bool q.2.2]) (j := 2) (ev_nmO y e1) ev_int (by decide) rfl (by decide))) fun _ => bt_and (bt_geI (ev_itemT (ds := [.int q.1, .int q.2.1, .bool q.2.2]) (j := 1) (ev_nmO y e1) ev_int (by decide) rfl (by decide)) (ev_nm y e2)) fun _ => bt_and_nil

noncomputable def aRho (ns fs : List Int) (d : V) : Rho := [(("need" : Str), V.int ((fs.length : Int) + 1)), (("blocks" : Str), d), (("mem" : Str), V.old (V.lst (zints ns))), (("fields" : Str), V.old (V.lst (zints fs)))]
set_option maxHeartbeats 4000000 in
theorem alloc_c {W : Wd} {f : Addr} {doc pm cdv ct : Value} {an : Option Addr} {k : Nat} (F : Fns W) (hd : W.defs f (fdOf "allocate" (st 6) doc pm an cdv ct)) {ns fs : List Int} {pre post : List (List Int)} {p : List Int} (hm : ns = (pre ++ p :: post).flatten) (hok : ∀ p' ∈ pre ++ p :: post, OkP p') (hz : ns.length < 2 ^ 20) (hf : fs.length < 1000) (hn : ∀ q ∈ pre, fits (fs.length + 1) q = false) (hp : fits (fs.length + 1) p = true) :
    FnC W (k + 1 + 1) f [.lst (zints ns), .lst (zints fs)] (.tup [.lst (zints (wr ns pre.flatten.length (fitW fs p))), .int (pre.flatten.length : Int)]) := by
  refine fnc_def (ps := ["mem", "fields"]) hd (alloc_bind fun _ _ => rfl) (by decide) rfl ?_ (by decide) rfl rfl rfl ?_
  · intro n x hx
    simp only [List.mem_cons, List.not_mem_nil, or_false] at hx
    rcases hx with rfl | rfl <;> exact .inl rfl
  intro A h₀ L X₀ s₀
  have hsl : (2 : Nat) ^ 20 ≤ sizeLine := by decide
  have hfit : fs.length + 1 ≤ p.length ∧ p.headD 0 < 0 := by simpa [fits, and_comm] using hp
  have hlen : ns.length = pre.flatten.length + (p.length + post.flatten.length) := by rw [hm, List.flatten_append, List.flatten_cons, List.length_append, List.length_append]
  refine tri_cons (tri_assign (d := blkD (pre ++ p :: post) []) (.inl rfl) (fun Kp γ s y => ev_fn y F.blocks (fun f doc pm an cdv ct h => blocks_c F h (tl := []) (by rw [List.append_nil]; exact hm) hok (.inl rfl) hz) sub_self (eva_cons (by (focus ((repeat' (first | exact ev_int | exact ev_none | exact ev_bool | exact ev_str | exact ev_nm (by assumption) (by rfl) | exact ev_rho (by assumption) (by rfl) | exact ev_nm (by assumption) (by assumption) | exact ev_rho (by assumption) (by assumption) | exact ev_nmO (by assumption) (by rfl) | exact ev_old (by assumption) (by rfl) | exact Ev.sub (ev_rho (by assumption) (by rfl)) sub_l | exact ev_mu0 (by assumption) (List.Mem.head _) | exact ev_mu0 (by assumption) (List.Mem.tail _ (List.Mem.head _)) | exact Ev.flat (ev_nm (by assumption) (by rfl)) (by rfl) | refine ev_add ?_ ?_ | refine ev_sub ?_ ?_ | refine ev_mulL ?_ ?_ | refine ev_mod ?_ ?_ | refine ev_div ?_ ?_ | refine ev_neg ?_ | refine ev_ltI ?_ ?_ | refine ev_abs (evv_built (Sat.cx (by assumption)) (Fns.N (by assumption)).abs.1 (Fns.N (by assumption)).abs.2) ?_ | refine ev_len (evv_built (Sat.cx (by assumption)) (Fns.N (by assumption)).len.1 (Fns.N (by assumption)).len.2) ?_ ?_ | assumption | lia | (rw [ints_len]; lia))); done))) eva_nil)) ?_)
  refine tri_cons (tri_if (b := false) (fun Kp γ s y => bt_isN (d := blkD (pre ++ p :: post) []) (by (focus ((repeat' (first | exact ev_int | exact ev_none | exact ev_bool | exact ev_str | exact ev_nm (by assumption) (by rfl) | exact ev_rho (by assumption) (by rfl) | exact ev_nm (by assumption) (by assumption) | exact ev_rho (by assumption) (by assumption) | exact ev_nmO (by assumption) (by rfl) | exact ev_old (by assumption) (by rfl) | exact Ev.sub (ev_rho (by assumption) (by rfl)) sub_l | exact ev_mu0 (by assumption) (List.Mem.head _) | exact ev_mu0 (by assumption) (List.Mem.tail _ (List.Mem.head _)) | exact Ev.flat (ev_nm (by assumption) (by rfl)) (by rfl) | refine ev_add ?_ ?_ | refine ev_sub ?_ ?_ | refine ev_mulL ?_ ?_ | refine ev_mod ?_ ?_ | refine ev_div ?_ ?_ | refine ev_neg ?_ | refine ev_ltI ?_ ?_ | refine ev_abs (evv_built (Sat.cx (by assumption)) (Fns.N (by assumption)).abs.1 (Fns.N (by assumption)).abs.2) ?_ | refine ev_len (evv_built (Sat.cx (by assumption)) (Fns.N (by assumption)).len.1 (Fns.N (by assumption)).len.2) ?_ ?_ | assumption | lia | (rw [ints_len]; lia))); done))) ev_none) (tri_nil ?_))
  refine tri_cons (tri_assign (d := .int ((fs.length : Int) + 1)) (.inl rfl) (fun Kp γ s y => by rw [← ints_len fs]; (focus ((repeat' (first | exact ev_int | exact ev_none | exact ev_bool | exact ev_str | exact ev_nm (by assumption) (by rfl) | exact ev_rho (by assumption) (by rfl) | exact ev_nm (by assumption) (by assumption) | exact ev_rho (by assumption) (by assumption) | exact ev_nmO (by assumption) (by rfl) | exact ev_old (by assumption) (by rfl) | exact Ev.sub (ev_rho (by assumption) (by rfl)) sub_l | exact ev_mu0 (by assumption) (List.Mem.head _) | exact ev_mu0 (by assumption) (List.Mem.tail _ (List.Mem.head _)) | exact Ev.flat (ev_nm (by assumption) (by rfl)) (by rfl) | refine ev_add ?_ ?_ | refine ev_sub ?_ ?_ | refine ev_mulL ?_ ?_ | refine ev_mod ?_ ?_ | refine ev_div ?_ ?_ | refine ev_neg ?_ | refine ev_ltI ?_ ?_ | refine ev_abs (evv_built (Sat.cx (by assumption)) (Fns.N (by assumption)).abs.1 (Fns.N (by assumption)).abs.2) ?_ | refine ev_len (evv_built (Sat.cx (by assumption)) (Fns.N (by assumption)).len.1 (Fns.N (by assumption)).len.2) ?_ ?_ | assumption | lia | (rw [ints_len]; lia))); done))) ?_)
  refine tri_cons (tri_forL (ds := (blks 0 (pre ++ p :: post)).map tupV) (fun i μ ρ => i ≤ pre.length ∧ μ = [] ∧ ρ = aRho ns fs (blkD (pre ++ p :: post) [])) (.inl rfl) (fun Kp γ s y => by (focus ((repeat' (first | exact ev_int | exact ev_none | exact ev_bool | exact ev_str | exact ev_nm (by assumption) (by rfl) | exact ev_rho (by assumption) (by rfl) | exact ev_nm (by assumption) (by assumption) | exact ev_rho (by assumption) (by assumption) | exact ev_nmO (by assumption) (by rfl) | exact ev_old (by assumption) (by rfl) | exact Ev.sub (ev_rho (by assumption) (by rfl)) sub_l | exact ev_mu0 (by assumption) (List.Mem.head _) | exact ev_mu0 (by assumption) (List.Mem.tail _ (List.Mem.head _)) | exact Ev.flat (ev_nm (by assumption) (by rfl)) (by rfl) | refine ev_add ?_ ?_ | refine ev_sub ?_ ?_ | refine ev_mulL ?_ ?_ | refine ev_mod ?_ ?_ | refine ev_div ?_ ?_ | refine ev_neg ?_ | refine ev_ltI ?_ ?_ | refine ev_abs (evv_built (Sat.cx (by assumption)) (Fns.N (by assumption)).abs.1 (Fns.N (by assumption)).abs.2) ?_ | refine ev_len (evv_built (Sat.cx (by assumption)) (Fns.N (by assumption)).len.1 (Fns.N (by assumption)).len.2) ?_ ?_ | assumption | lia | (rw [ints_len]; lia))); done))) ⟨Nat.zero_le _, rfl, rfl⟩ ?_ ?_ ?_)
  · rintro i μ' ρ' ⟨_, rfl, _⟩
    rfl
  · rintro i d μ' ρ' hdi ⟨hi, rfl, rfl⟩
    rw [List.getElem?_map] at hdi
    obtain ⟨q, hq, rfl⟩ := Option.map_eq_some_iff.mp hdi
    obtain ⟨p', g1, g2, g3⟩ := blks_at hq
    refine tri_cons (tri_if (fun Kp γ s y => alloc_test (q := q) y rfl rfl) ?_)
    by_cases hip : i < pre.length
    · have hp' : p' ∈ pre := by
        rw [List.getElem?_append_left hip] at g1
        exact List.mem_of_getElem? g1
      have := hn p' hp'
      have hb : (q.2.2 && (decide ((fs.length : Int) + 1 ≤ q.2.1) && true)) = false := by
        rw [g2, g3, Bool.and_true]
        unfold fits at this
        rw [show decide ((fs.length : Int) + 1 ≤ (p'.length : Int)) = decide (fs.length + 1 ≤ p'.length) from decide_eq_decide.mpr (by lia)]
        exact this
      rw [hb]
      exact tri_nil (tri_end (ρ' := aRho ns fs (blkD (pre ++ p :: post) [])) ⟨rfl, rfl, rfl, rfl, trivial⟩ ⟨hip, rfl, rfl⟩)
    · obtain rfl : i = pre.length := by lia
      rw [blks_get] at hq
      obtain rfl := Option.some.inj hq
      dsimp only
      rw [decide_eq_true hfit.2, decide_eq_true (show (fs.length : Int) + 1 ≤ (p.length : Int) by lia)]
      generalize ha : pre.flatten.length = a at hlen ⊢
      generalize hpl : p.length = pl at hlen hfit ⊢
      refine tri_cons (tri_assign (d := .int (a : Int)) (.inl rfl) (fun Kp γ s y => (ev_itemT (X := []) (ds := [.int (a : Int), .int (pl : Int), .bool true]) (j := 0) (by (focus ((repeat' (first | exact ev_int | exact ev_none | exact ev_bool | exact ev_str | exact ev_nm (by assumption) (by rfl) | exact ev_rho (by assumption) (by rfl) | exact ev_nm (by assumption) (by assumption) | exact ev_rho (by assumption) (by assumption) | exact ev_nmO (by assumption) (by rfl) | exact ev_old (by assumption) (by rfl) | exact Ev.sub (ev_rho (by assumption) (by rfl)) sub_l | exact ev_mu0 (by assumption) (List.Mem.head _) | exact ev_mu0 (by assumption) (List.Mem.tail _ (List.Mem.head _)) | exact Ev.flat (ev_nm (by assumption) (by rfl)) (by rfl) | refine ev_add ?_ ?_ | refine ev_sub ?_ ?_ | refine ev_mulL ?_ ?_ | refine ev_mod ?_ ?_ | refine ev_div ?_ ?_ | refine ev_neg ?_ | refine ev_ltI ?_ ?_ | refine ev_abs (evv_built (Sat.cx (by assumption)) (Fns.N (by assumption)).abs.1 (Fns.N (by assumption)).abs.2) ?_ | refine ev_len (evv_built (Sat.cx (by assumption)) (Fns.N (by assumption)).len.1 (Fns.N (by assumption)).len.2) ?_ ?_ | assumption | lia | (rw [ints_len]; lia))); done))) ev_int (by decide) rfl (by decide)).flat rfl) ?_)
      refine tri_cons (tri_assignM (ds := zints ns) (.inl rfl) (fun Kp γ s y => evf_copy y.cx (evv_built y.cx F.N.list.1 F.N.list.2) (Y := []) (by (focus ((repeat' (first | exact ev_int | exact ev_none | exact ev_bool | exact ev_str | exact ev_nm (by assumption) (by rfl) | exact ev_rho (by assumption) (by rfl) | exact ev_nm (by assumption) (by assumption) | exact ev_rho (by assumption) (by assumption) | exact ev_nmO (by assumption) (by rfl) | exact ev_old (by assumption) (by rfl) | exact Ev.sub (ev_rho (by assumption) (by rfl)) sub_l | exact ev_mu0 (by assumption) (List.Mem.head _) | exact ev_mu0 (by assumption) (List.Mem.tail _ (List.Mem.head _)) | exact Ev.flat (ev_nm (by assumption) (by rfl)) (by rfl) | refine ev_add ?_ ?_ | refine ev_sub ?_ ?_ | refine ev_mulL ?_ ?_ | refine ev_mod ?_ ?_ | refine ev_div ?_ ?_ | refine ev_neg ?_ | refine ev_ltI ?_ ?_ | refine ev_abs (evv_built (Sat.cx (by assumption)) (Fns.N (by assumption)).abs.1 (Fns.N (by assumption)).abs.2) ?_ | refine ev_len (evv_built (Sat.cx (by assumption)) (Fns.N (by assumption)).len.1 (Fns.N (by assumption)).len.2) ?_ ?_ | assumption | lia | (rw [ints_len]; lia))); done))) (fun _ _ r => r.flat flat_ints) (by rw [ints_len]; lia)) (fun l => ?_))
      refine tri_cons (tri_setitem (μ₁ := []) (μ₂ := []) (d := .int (fs.length : Int)) (j := (a : Int)) rfl (fun Kp γ s y => by rw [← ints_len fs]; (focus ((repeat' (first | exact ev_int | exact ev_none | exact ev_bool | exact ev_str | exact ev_nm (by assumption) (by rfl) | exact ev_rho (by assumption) (by rfl) | exact ev_nm (by assumption) (by assumption) | exact ev_rho (by assumption) (by assumption) | exact ev_nmO (by assumption) (by rfl) | exact ev_old (by assumption) (by rfl) | exact Ev.sub (ev_rho (by assumption) (by rfl)) sub_l | exact ev_mu0 (by assumption) (List.Mem.head _) | exact ev_mu0 (by assumption) (List.Mem.tail _ (List.Mem.head _)) | exact Ev.flat (ev_nm (by assumption) (by rfl)) (by rfl) | refine ev_add ?_ ?_ | refine ev_sub ?_ ?_ | refine ev_mulL ?_ ?_ | refine ev_mod ?_ ?_ | refine ev_div ?_ ?_ | refine ev_neg ?_ | refine ev_ltI ?_ ?_ | refine ev_abs (evv_built (Sat.cx (by assumption)) (Fns.N (by assumption)).abs.1 (Fns.N (by assumption)).abs.2) ?_ | refine ev_len (evv_built (Sat.cx (by assumption)) (Fns.N (by assumption)).len.1 (Fns.N (by assumption)).len.2) ?_ ?_ | assumption | lia | (rw [ints_len]; lia))); done))) (fun Kp γ s y => by (focus ((repeat' (first | exact ev_int | exact ev_none | exact ev_bool | exact ev_str | exact ev_nm (by assumption) (by rfl) | exact ev_rho (by assumption) (by rfl) | exact ev_nm (by assumption) (by assumption) | exact ev_rho (by assumption) (by assumption) | exact ev_nmO (by assumption) (by rfl) | exact ev_old (by assumption) (by rfl) | exact Ev.sub (ev_rho (by assumption) (by rfl)) sub_l | exact ev_mu0 (by assumption) (List.Mem.head _) | exact ev_mu0 (by assumption) (List.Mem.tail _ (List.Mem.head _)) | exact Ev.flat (ev_nm (by assumption) (by rfl)) (by rfl) | refine ev_add ?_ ?_ | refine ev_sub ?_ ?_ | refine ev_mulL ?_ ?_ | refine ev_mod ?_ ?_ | refine ev_div ?_ ?_ | refine ev_neg ?_ | refine ev_ltI ?_ ?_ | refine ev_abs (evv_built (Sat.cx (by assumption)) (Fns.N (by assumption)).abs.1 (Fns.N (by assumption)).abs.2) ?_ | refine ev_len (evv_built (Sat.cx (by assumption)) (Fns.N (by assumption)).len.1 (Fns.N (by assumption)).len.2) ?_ ?_ | assumption | lia | (rw [ints_len]; lia))); done))) (by lia) (by lia) (by rw [ints_len]; lia) ?_)
      rw [zset, Int.toNat_natCast]
      have e0 : ns.set a (fs.length : Int) = wr ns a ((fs.length : Int) :: fs.take 0) := by
        have := wr_snoc (m := ns) (a := a) (xs := []) (x := (fs.length : Int)) (by simp; lia)
        rw [wr_nil] at this
        simpa using this
      rw [e0]
      dsimp only [List.nil_append]
      refine tri_cons (tri_forR (N := (fs.length : Int)) (X := []) (fun i μ ρ => ∃ l, μ = [(("new" : Str), l, zints (wr ns a ((fs.length : Int) :: fs.take i)))] ∧ ρ = (("a" : Str), V.int (a : Int)) :: (("b" : Str), V.old (tupV ((a : Int), (pl : Int), true))) :: aRho ns fs (blkD (pre ++ p :: post) [])) (.inl rfl) (fun Kp γ s y => evv_built y.cx F.N.range.1 F.N.range.2) (fun Kp γ s y => by rw [← ints_len fs]; (focus ((repeat' (first | exact ev_int | exact ev_none | exact ev_bool | exact ev_str | exact ev_nm (by assumption) (by rfl) | exact ev_rho (by assumption) (by rfl) | exact ev_nm (by assumption) (by assumption) | exact ev_rho (by assumption) (by assumption) | exact ev_nmO (by assumption) (by rfl) | exact ev_old (by assumption) (by rfl) | exact Ev.sub (ev_rho (by assumption) (by rfl)) sub_l | exact ev_mu0 (by assumption) (List.Mem.head _) | exact ev_mu0 (by assumption) (List.Mem.tail _ (List.Mem.head _)) | exact Ev.flat (ev_nm (by assumption) (by rfl)) (by rfl) | refine ev_add ?_ ?_ | refine ev_sub ?_ ?_ | refine ev_mulL ?_ ?_ | refine ev_mod ?_ ?_ | refine ev_div ?_ ?_ | refine ev_neg ?_ | refine ev_ltI ?_ ?_ | refine ev_abs (evv_built (Sat.cx (by assumption)) (Fns.N (by assumption)).abs.1 (Fns.N (by assumption)).abs.2) ?_ | refine ev_len (evv_built (Sat.cx (by assumption)) (Fns.N (by assumption)).len.1 (Fns.N (by assumption)).len.2) ?_ ?_ | assumption | lia | (rw [ints_len]; lia))); done))) (by lia) (by lia) ⟨l, rfl, rfl⟩ ?_ ?_ ?_)
      · rintro i μ' ρ' ⟨l, rfl, _⟩
        rfl
      · rintro i μ' ρ' hi' ⟨l, rfl, rfl⟩
        have hi2 : i < fs.length := by lia
        have wl : ∀ xs : List Int, xs.length ≤ pl → (wr ns a xs).length = ns.length := fun xs hx => wr_len (by lia)
        refine tri_cons (tri_setitem (μ₁ := []) (μ₂ := []) (d := .int (fs.getD ((i : Int)).toNat 0)) (j := (a : Int) + 1 + (i : Int)) rfl (fun Kp γ s y => (ev_item (X := []) (ds := zints fs) (j := (i : Int)) (by (focus ((repeat' (first | exact ev_int | exact ev_none | exact ev_bool | exact ev_str | exact ev_nm (by assumption) (by rfl) | exact ev_rho (by assumption) (by rfl) | exact ev_nm (by assumption) (by assumption) | exact ev_rho (by assumption) (by assumption) | exact ev_nmO (by assumption) (by rfl) | exact ev_old (by assumption) (by rfl) | exact Ev.sub (ev_rho (by assumption) (by rfl)) sub_l | exact ev_mu0 (by assumption) (List.Mem.head _) | exact ev_mu0 (by assumption) (List.Mem.tail _ (List.Mem.head _)) | exact Ev.flat (ev_nm (by assumption) (by rfl)) (by rfl) | refine ev_add ?_ ?_ | refine ev_sub ?_ ?_ | refine ev_mulL ?_ ?_ | refine ev_mod ?_ ?_ | refine ev_div ?_ ?_ | refine ev_neg ?_ | refine ev_ltI ?_ ?_ | refine ev_abs (evv_built (Sat.cx (by assumption)) (Fns.N (by assumption)).abs.1 (Fns.N (by assumption)).abs.2) ?_ | refine ev_len (evv_built (Sat.cx (by assumption)) (Fns.N (by assumption)).len.1 (Fns.N (by assumption)).len.2) ?_ ?_ | assumption | lia | (rw [ints_len]; lia))); done))) (by (focus ((repeat' (first | exact ev_int | exact ev_none | exact ev_bool | exact ev_str | exact ev_nm (by assumption) (by rfl) | exact ev_rho (by assumption) (by rfl) | exact ev_nm (by assumption) (by assumption) | exact ev_rho (by assumption) (by assumption) | exact ev_nmO (by assumption) (by rfl) | exact ev_old (by assumption) (by rfl) | exact Ev.sub (ev_rho (by assumption) (by rfl)) sub_l | exact ev_mu0 (by assumption) (List.Mem.head _) | exact ev_mu0 (by assumption) (List.Mem.tail _ (List.Mem.head _)) | exact Ev.flat (ev_nm (by assumption) (by rfl)) (by rfl) | refine ev_add ?_ ?_ | refine ev_sub ?_ ?_ | refine ev_mulL ?_ ?_ | refine ev_mod ?_ ?_ | refine ev_div ?_ ?_ | refine ev_neg ?_ | refine ev_ltI ?_ ?_ | refine ev_abs (evv_built (Sat.cx (by assumption)) (Fns.N (by assumption)).abs.1 (Fns.N (by assumption)).abs.2) ?_ | refine ev_len (evv_built (Sat.cx (by assumption)) (Fns.N (by assumption)).len.1 (Fns.N (by assumption)).len.2) ?_ ?_ | assumption | lia | (rw [ints_len]; lia))); done))) (by lia) (ints_get (by lia) (by lia)) (by lia)).flat rfl) (fun Kp γ s y => by (focus ((repeat' (first | exact ev_int | exact ev_none | exact ev_bool | exact ev_str | exact ev_nm (by assumption) (by rfl) | exact ev_rho (by assumption) (by rfl) | exact ev_nm (by assumption) (by assumption) | exact ev_rho (by assumption) (by assumption) | exact ev_nmO (by assumption) (by rfl) | exact ev_old (by assumption) (by rfl) | exact Ev.sub (ev_rho (by assumption) (by rfl)) sub_l | exact ev_mu0 (by assumption) (List.Mem.head _) | exact ev_mu0 (by assumption) (List.Mem.tail _ (List.Mem.head _)) | exact Ev.flat (ev_nm (by assumption) (by rfl)) (by rfl) | refine ev_add ?_ ?_ | refine ev_sub ?_ ?_ | refine ev_mulL ?_ ?_ | refine ev_mod ?_ ?_ | refine ev_div ?_ ?_ | refine ev_neg ?_ | refine ev_ltI ?_ ?_ | refine ev_abs (evv_built (Sat.cx (by assumption)) (Fns.N (by assumption)).abs.1 (Fns.N (by assumption)).abs.2) ?_ | refine ev_len (evv_built (Sat.cx (by assumption)) (Fns.N (by assumption)).len.1 (Fns.N (by assumption)).len.2) ?_ ?_ | assumption | lia | (rw [ints_len]; lia))); done))) (by lia) (by lia) (by rw [ints_len, wl _ (by simp; lia)]; lia) ?_)
        rw [zset]
        have e1 : (wr ns a ((fs.length : Int) :: fs.take i)).set ((a : Int) + 1 + (i : Int)).toNat (fs.getD ((i : Int)).toNat 0) = wr ns a ((fs.length : Int) :: fs.take (i + 1)) := by
          have := wr_snoc (m := ns) (a := a) (xs := (fs.length : Int) :: fs.take i) (x := fs.getD i 0) (by simp only [List.length_cons, List.length_take]; lia)
          rw [show a + ((fs.length : Int) :: fs.take i).length = ((a : Int) + 1 + (i : Int)).toNat by simp only [List.length_cons, List.length_take]; lia] at this
          rw [Int.toNat_natCast, this, List.take_succ_eq_append_getElem hi2, List.getD_eq_getElem?_getD, List.getElem?_eq_getElem hi2]
          rfl
        rw [e1]
        dsimp only [List.nil_append]
        exact tri_end (ρ' := (("a" : Str), V.int (a : Int)) :: (("b" : Str), V.old (tupV ((a : Int), (pl : Int), true))) :: aRho ns fs (blkD (pre ++ p :: post) [])) ⟨rfl, rfl, rfl, rfl, rfl, rfl, trivial⟩ ⟨l, rfl, rfl⟩
      · rintro m r ⟨l, rfl, rfl⟩
        rw [Int.toNat_natCast, List.take_length]
        refine tri_cons (tri_if (b := decide ((fs.length : Int) + 1 < (pl : Int))) (fun Kp γ s y => bt_gtI (ev_itemT (ds := [.int (a : Int), .int (pl : Int), .bool true]) (j := 1) (by (focus ((repeat' (first | exact ev_int | exact ev_none | exact ev_bool | exact ev_str | exact ev_nm (by assumption) (by rfl) | exact ev_rho (by assumption) (by rfl) | exact ev_nm (by assumption) (by assumption) | exact ev_rho (by assumption) (by assumption) | exact ev_nmO (by assumption) (by rfl) | exact ev_old (by assumption) (by rfl) | exact Ev.sub (ev_rho (by assumption) (by rfl)) sub_l | exact ev_mu0 (by assumption) (List.Mem.head _) | exact ev_mu0 (by assumption) (List.Mem.tail _ (List.Mem.head _)) | exact Ev.flat (ev_nm (by assumption) (by rfl)) (by rfl) | refine ev_add ?_ ?_ | refine ev_sub ?_ ?_ | refine ev_mulL ?_ ?_ | refine ev_mod ?_ ?_ | refine ev_div ?_ ?_ | refine ev_neg ?_ | refine ev_ltI ?_ ?_ | refine ev_abs (evv_built (Sat.cx (by assumption)) (Fns.N (by assumption)).abs.1 (Fns.N (by assumption)).abs.2) ?_ | refine ev_len (evv_built (Sat.cx (by assumption)) (Fns.N (by assumption)).len.1 (Fns.N (by assumption)).len.2) ?_ ?_ | assumption | lia | (rw [ints_len]; lia))); done))) ev_int (by decide) rfl (by decide)) (by (focus ((repeat' (first | exact ev_int | exact ev_none | exact ev_bool | exact ev_str | exact ev_nm (by assumption) (by rfl) | exact ev_rho (by assumption) (by rfl) | exact ev_nm (by assumption) (by assumption) | exact ev_rho (by assumption) (by assumption) | exact ev_nmO (by assumption) (by rfl) | exact ev_old (by assumption) (by rfl) | exact Ev.sub (ev_rho (by assumption) (by rfl)) sub_l | exact ev_mu0 (by assumption) (List.Mem.head _) | exact ev_mu0 (by assumption) (List.Mem.tail _ (List.Mem.head _)) | exact Ev.flat (ev_nm (by assumption) (by rfl)) (by rfl) | refine ev_add ?_ ?_ | refine ev_sub ?_ ?_ | refine ev_mulL ?_ ?_ | refine ev_mod ?_ ?_ | refine ev_div ?_ ?_ | refine ev_neg ?_ | refine ev_ltI ?_ ?_ | refine ev_abs (evv_built (Sat.cx (by assumption)) (Fns.N (by assumption)).abs.1 (Fns.N (by assumption)).abs.2) ?_ | refine ev_len (evv_built (Sat.cx (by assumption)) (Fns.N (by assumption)).len.1 (Fns.N (by assumption)).len.2) ?_ ?_ | assumption | lia | (rw [ints_len]; lia))); done)))) ?_)
        have fin : ∀ {xs : List Int}, xs = fitW fs p → Tri ⟨W, k + 1, A, h₀, callEnvC (fdOf "allocate" (st 6) doc pm an cdv ct) L f, X₀, s₀⟩ [(("new" : Str), l, zints (wr ns a xs))] ((("a" : Str), V.int (a : Int)) :: (("b" : Str), V.old (tupV ((a : Int), (pl : Int), true))) :: aRho ns fs (blkD (pre ++ p :: post) [])) ((ifBody ((forBody ((fnBody (st 6)).getD 3 (.Pass ⟨0, 0, 0, 0⟩))).getD 0 (.Pass ⟨0, 0, 0, 0⟩))).drop 5) (fun fl m r => match fl with
            | .next => False
            | .cont => False
            | .brk => False
            | .ret d => Fl.ret d = Fl.ret (.tup [.lst (zints (wr ns a (fitW fs p))), .int (a : Int)])) := by
          rintro xs rfl
          refine tri_cons (tri_ret (d := .tup [.lst (zints (wr ns a (fitW fs p))), .int (a : Int)]) (fun Kp γ s y => ev_tup (y.cx.sub fun a ha => List.mem_append.mpr (.inr ha)) (eva_cons (ev_mu y (.head _)) (eva_cons (by (focus ((repeat' (first | exact ev_int | exact ev_none | exact ev_bool | exact ev_str | exact ev_nm (by assumption) (by rfl) | exact ev_rho (by assumption) (by rfl) | exact ev_nm (by assumption) (by assumption) | exact ev_rho (by assumption) (by assumption) | exact ev_nmO (by assumption) (by rfl) | exact ev_old (by assumption) (by rfl) | exact Ev.sub (ev_rho (by assumption) (by rfl)) sub_l | exact ev_mu0 (by assumption) (List.Mem.head _) | exact ev_mu0 (by assumption) (List.Mem.tail _ (List.Mem.head _)) | exact Ev.flat (ev_nm (by assumption) (by rfl)) (by rfl) | refine ev_add ?_ ?_ | refine ev_sub ?_ ?_ | refine ev_mulL ?_ ?_ | refine ev_mod ?_ ?_ | refine ev_div ?_ ?_ | refine ev_neg ?_ | refine ev_ltI ?_ ?_ | refine ev_abs (evv_built (Sat.cx (by assumption)) (Fns.N (by assumption)).abs.1 (Fns.N (by assumption)).abs.2) ?_ | refine ev_len (evv_built (Sat.cx (by assumption)) (Fns.N (by assumption)).len.1 (Fns.N (by assumption)).len.2) ?_ ?_ | assumption | lia | (rw [ints_len]; lia))); done))) eva_nil))) rfl)
        by_cases hgt : (fs.length : Int) + 1 < (pl : Int)
        · rw [decide_eq_true hgt]
          have wl : ∀ xs : List Int, xs.length ≤ pl → (wr ns a xs).length = ns.length := fun xs hx => wr_len (by lia)
          refine tri_cons (tri_setitem (μ₁ := []) (μ₂ := []) (d := .int ((fs.length : Int) + 1 - (pl : Int))) (j := (a : Int) + ((fs.length : Int) + 1)) rfl (fun Kp γ s y => ev_sub (by (focus ((repeat' (first | exact ev_int | exact ev_none | exact ev_bool | exact ev_str | exact ev_nm (by assumption) (by rfl) | exact ev_rho (by assumption) (by rfl) | exact ev_nm (by assumption) (by assumption) | exact ev_rho (by assumption) (by assumption) | exact ev_nmO (by assumption) (by rfl) | exact ev_old (by assumption) (by rfl) | exact Ev.sub (ev_rho (by assumption) (by rfl)) sub_l | exact ev_mu0 (by assumption) (List.Mem.head _) | exact ev_mu0 (by assumption) (List.Mem.tail _ (List.Mem.head _)) | exact Ev.flat (ev_nm (by assumption) (by rfl)) (by rfl) | refine ev_add ?_ ?_ | refine ev_sub ?_ ?_ | refine ev_mulL ?_ ?_ | refine ev_mod ?_ ?_ | refine ev_div ?_ ?_ | refine ev_neg ?_ | refine ev_ltI ?_ ?_ | refine ev_abs (evv_built (Sat.cx (by assumption)) (Fns.N (by assumption)).abs.1 (Fns.N (by assumption)).abs.2) ?_ | refine ev_len (evv_built (Sat.cx (by assumption)) (Fns.N (by assumption)).len.1 (Fns.N (by assumption)).len.2) ?_ ?_ | assumption | lia | (rw [ints_len]; lia))); done))) (ev_itemT (ds := [.int (a : Int), .int (pl : Int), .bool true]) (j := 1) (by (focus ((repeat' (first | exact ev_int | exact ev_none | exact ev_bool | exact ev_str | exact ev_nm (by assumption) (by rfl) | exact ev_rho (by assumption) (by rfl) | exact ev_nm (by assumption) (by assumption) | exact ev_rho (by assumption) (by assumption) | exact ev_nmO (by assumption) (by rfl) | exact ev_old (by assumption) (by rfl) | exact Ev.sub (ev_rho (by assumption) (by rfl)) sub_l | exact ev_mu0 (by assumption) (List.Mem.head _) | exact ev_mu0 (by assumption) (List.Mem.tail _ (List.Mem.head _)) | exact Ev.flat (ev_nm (by assumption) (by rfl)) (by rfl) | refine ev_add ?_ ?_ | refine ev_sub ?_ ?_ | refine ev_mulL ?_ ?_ | refine ev_mod ?_ ?_ | refine ev_div ?_ ?_ | refine ev_neg ?_ | refine ev_ltI ?_ ?_ | refine ev_abs (evv_built (Sat.cx (by assumption)) (Fns.N (by assumption)).abs.1 (Fns.N (by assumption)).abs.2) ?_ | refine ev_len (evv_built (Sat.cx (by assumption)) (Fns.N (by assumption)).len.1 (Fns.N (by assumption)).len.2) ?_ ?_ | assumption | lia | (rw [ints_len]; lia))); done))) ev_int (by decide) rfl (by decide))) (fun Kp γ s y => by (focus ((repeat' (first | exact ev_int | exact ev_none | exact ev_bool | exact ev_str | exact ev_nm (by assumption) (by rfl) | exact ev_rho (by assumption) (by rfl) | exact ev_nm (by assumption) (by assumption) | exact ev_rho (by assumption) (by assumption) | exact ev_nmO (by assumption) (by rfl) | exact ev_old (by assumption) (by rfl) | exact Ev.sub (ev_rho (by assumption) (by rfl)) sub_l | exact ev_mu0 (by assumption) (List.Mem.head _) | exact ev_mu0 (by assumption) (List.Mem.tail _ (List.Mem.head _)) | exact Ev.flat (ev_nm (by assumption) (by rfl)) (by rfl) | refine ev_add ?_ ?_ | refine ev_sub ?_ ?_ | refine ev_mulL ?_ ?_ | refine ev_mod ?_ ?_ | refine ev_div ?_ ?_ | refine ev_neg ?_ | refine ev_ltI ?_ ?_ | refine ev_abs (evv_built (Sat.cx (by assumption)) (Fns.N (by assumption)).abs.1 (Fns.N (by assumption)).abs.2) ?_ | refine ev_len (evv_built (Sat.cx (by assumption)) (Fns.N (by assumption)).len.1 (Fns.N (by assumption)).len.2) ?_ ?_ | assumption | lia | (rw [ints_len]; lia))); done))) (by lia) (by lia) (by rw [ints_len, wl _ (by simp; lia)]; lia) ?_)
          rw [zset]
          have e1 : (wr ns a ((fs.length : Int) :: fs)).set ((a : Int) + ((fs.length : Int) + 1)).toNat ((fs.length : Int) + 1 - (pl : Int)) = wr ns a (fitW fs p) := by
            have := wr_snoc (m := ns) (a := a) (xs := (fs.length : Int) :: fs) (x := (fs.length : Int) + 1 - (pl : Int)) (by simp only [List.length_cons]; lia)
            rw [show a + ((fs.length : Int) :: fs).length = ((a : Int) + ((fs.length : Int) + 1)).toNat by simp only [List.length_cons]; lia] at this
            rw [this]
            unfold fitW
            rw [hpl, if_pos (by lia)]
            rfl
          rw [e1]
          dsimp only [List.nil_append]
          exact tri_nil (Tri.mono (fin rfl) fun f m r h => by cases f <;> first | exact h.elim | exact .inl h)
        · rw [decide_eq_false hgt]
          refine tri_nil (Tri.mono (fin (xs := (fs.length : Int) :: fs) ?_) fun f m r h => by cases f <;> first | exact h.elim | exact .inl h)
          unfold fitW
          rw [hpl, if_neg (by lia), List.append_nil]
  · rintro m r ⟨hi, _⟩
    rw [List.length_map, blks_length, List.length_append, List.length_cons] at hi
    lia

theorem alloc_o {W : Wd} {f C : Addr} {doc pm cdv ct : Value} {an : Option Addr} {k : Nat} (F : Fns W) (O : Oom W "OutOfMemory" C) (hd : W.defs f (fdOf "allocate" (st 6) doc pm an cdv ct)) {ns fs : List Int} {ps : List (List Int)} (hm : ns = ps.flatten) (hok : ∀ p' ∈ ps, OkP p') (hz : ns.length < 2 ^ 20) (hf : fs.length < 900) (hn : ∀ q ∈ ps, fits (fs.length + 1) q = false) :
    FnX W (k + 1 + 1) f [.lst (zints ns), .lst (zints fs)] (.ref C) := by
  refine fnx_def (ps := ["mem", "fields"]) hd (alloc_bind fun _ _ => rfl) (by decide) rfl ?_ (by decide) rfl rfl rfl ?_
  · intro n x hx
    simp only [List.mem_cons, List.not_mem_nil, or_false] at hx
    rcases hx with rfl | rfl <;> exact .inl rfl
  intro A h₀ L X₀ s₀
  have hsl : (2 : Nat) ^ 20 ≤ sizeLine := by decide
  refine trix_next (tri_assign (d := blkD ps []) (.inl rfl) (fun Kp γ s y => ev_fn y F.blocks (fun f doc pm an cdv ct h => blocks_c F h (tl := []) (by rw [List.append_nil]; exact hm) hok (.inl rfl) hz) sub_self (eva_cons (by (focus ((repeat' (first | exact ev_int | exact ev_none | exact ev_bool | exact ev_str | exact ev_nm (by assumption) (by rfl) | exact ev_rho (by assumption) (by rfl) | exact ev_nm (by assumption) (by assumption) | exact ev_rho (by assumption) (by assumption) | exact ev_nmO (by assumption) (by rfl) | exact ev_old (by assumption) (by rfl) | exact Ev.sub (ev_rho (by assumption) (by rfl)) sub_l | exact ev_mu0 (by assumption) (List.Mem.head _) | exact ev_mu0 (by assumption) (List.Mem.tail _ (List.Mem.head _)) | exact Ev.flat (ev_nm (by assumption) (by rfl)) (by rfl) | refine ev_add ?_ ?_ | refine ev_sub ?_ ?_ | refine ev_mulL ?_ ?_ | refine ev_mod ?_ ?_ | refine ev_div ?_ ?_ | refine ev_neg ?_ | refine ev_ltI ?_ ?_ | refine ev_abs (evv_built (Sat.cx (by assumption)) (Fns.N (by assumption)).abs.1 (Fns.N (by assumption)).abs.2) ?_ | refine ev_len (evv_built (Sat.cx (by assumption)) (Fns.N (by assumption)).len.1 (Fns.N (by assumption)).len.2) ?_ ?_ | assumption | lia | (rw [ints_len]; lia))); done))) eva_nil)) ?_)
  refine trix_next (tri_if (b := false) (fun Kp γ s y => bt_isN (d := blkD ps []) (by (focus ((repeat' (first | exact ev_int | exact ev_none | exact ev_bool | exact ev_str | exact ev_nm (by assumption) (by rfl) | exact ev_rho (by assumption) (by rfl) | exact ev_nm (by assumption) (by assumption) | exact ev_rho (by assumption) (by assumption) | exact ev_nmO (by assumption) (by rfl) | exact ev_old (by assumption) (by rfl) | exact Ev.sub (ev_rho (by assumption) (by rfl)) sub_l | exact ev_mu0 (by assumption) (List.Mem.head _) | exact ev_mu0 (by assumption) (List.Mem.tail _ (List.Mem.head _)) | exact Ev.flat (ev_nm (by assumption) (by rfl)) (by rfl) | refine ev_add ?_ ?_ | refine ev_sub ?_ ?_ | refine ev_mulL ?_ ?_ | refine ev_mod ?_ ?_ | refine ev_div ?_ ?_ | refine ev_neg ?_ | refine ev_ltI ?_ ?_ | refine ev_abs (evv_built (Sat.cx (by assumption)) (Fns.N (by assumption)).abs.1 (Fns.N (by assumption)).abs.2) ?_ | refine ev_len (evv_built (Sat.cx (by assumption)) (Fns.N (by assumption)).len.1 (Fns.N (by assumption)).len.2) ?_ ?_ | assumption | lia | (rw [ints_len]; lia))); done))) ev_none) (tri_nil ?_))
  refine trix_next (tri_assign (d := .int ((fs.length : Int) + 1)) (.inl rfl) (fun Kp γ s y => by rw [← ints_len fs]; (focus ((repeat' (first | exact ev_int | exact ev_none | exact ev_bool | exact ev_str | exact ev_nm (by assumption) (by rfl) | exact ev_rho (by assumption) (by rfl) | exact ev_nm (by assumption) (by assumption) | exact ev_rho (by assumption) (by assumption) | exact ev_nmO (by assumption) (by rfl) | exact ev_old (by assumption) (by rfl) | exact Ev.sub (ev_rho (by assumption) (by rfl)) sub_l | exact ev_mu0 (by assumption) (List.Mem.head _) | exact ev_mu0 (by assumption) (List.Mem.tail _ (List.Mem.head _)) | exact Ev.flat (ev_nm (by assumption) (by rfl)) (by rfl) | refine ev_add ?_ ?_ | refine ev_sub ?_ ?_ | refine ev_mulL ?_ ?_ | refine ev_mod ?_ ?_ | refine ev_div ?_ ?_ | refine ev_neg ?_ | refine ev_ltI ?_ ?_ | refine ev_abs (evv_built (Sat.cx (by assumption)) (Fns.N (by assumption)).abs.1 (Fns.N (by assumption)).abs.2) ?_ | refine ev_len (evv_built (Sat.cx (by assumption)) (Fns.N (by assumption)).len.1 (Fns.N (by assumption)).len.2) ?_ ?_ | assumption | lia | (rw [ints_len]; lia))); done))) ?_)
  refine trix_next (tri_forL (ds := (blks 0 ps).map tupV) (fun i μ ρ => μ = [] ∧ ρ = aRho ns fs (blkD ps [])) (.inl rfl) (fun Kp γ s y => by (focus ((repeat' (first | exact ev_int | exact ev_none | exact ev_bool | exact ev_str | exact ev_nm (by assumption) (by rfl) | exact ev_rho (by assumption) (by rfl) | exact ev_nm (by assumption) (by assumption) | exact ev_rho (by assumption) (by assumption) | exact ev_nmO (by assumption) (by rfl) | exact ev_old (by assumption) (by rfl) | exact Ev.sub (ev_rho (by assumption) (by rfl)) sub_l | exact ev_mu0 (by assumption) (List.Mem.head _) | exact ev_mu0 (by assumption) (List.Mem.tail _ (List.Mem.head _)) | exact Ev.flat (ev_nm (by assumption) (by rfl)) (by rfl) | refine ev_add ?_ ?_ | refine ev_sub ?_ ?_ | refine ev_mulL ?_ ?_ | refine ev_mod ?_ ?_ | refine ev_div ?_ ?_ | refine ev_neg ?_ | refine ev_ltI ?_ ?_ | refine ev_abs (evv_built (Sat.cx (by assumption)) (Fns.N (by assumption)).abs.1 (Fns.N (by assumption)).abs.2) ?_ | refine ev_len (evv_built (Sat.cx (by assumption)) (Fns.N (by assumption)).len.1 (Fns.N (by assumption)).len.2) ?_ ?_ | assumption | lia | (rw [ints_len]; lia))); done))) ⟨rfl, rfl⟩ ?_ ?_ ?_)
  · rintro i μ' ρ' ⟨rfl, _⟩
    rfl
  · rintro i d μ' ρ' hdi ⟨rfl, rfl⟩
    rw [List.getElem?_map] at hdi
    obtain ⟨q, hq, rfl⟩ := Option.map_eq_some_iff.mp hdi
    obtain ⟨p', g1, g2, g3⟩ := blks_at hq
    refine tri_cons (tri_if (fun Kp γ s y => alloc_test (q := q) y rfl rfl) ?_)
    have := hn p' (List.mem_of_getElem? g1)
    have hb : (q.2.2 && (decide ((fs.length : Int) + 1 ≤ q.2.1) && true)) = false := by
      rw [g2, g3, Bool.and_true]
      unfold fits at this
      rw [show decide ((fs.length : Int) + 1 ≤ (p'.length : Int)) = decide (fs.length + 1 ≤ p'.length) from decide_eq_decide.mpr (by lia)]
      exact this
    rw [hb]
    exact tri_nil (tri_end (ρ' := aRho ns fs (blkD ps [])) ⟨rfl, rfl, rfl, rfl, trivial⟩ ⟨rfl, rfl⟩)
  · rintro m r ⟨rfl, rfl⟩
    refine trix_here (trx_raiseO (n := 0) O fun Kp γ s y => ?_)
    exact eva_text (evs_add (evs_add evs_const (evs_int (a := (fs.length : Int) + 1) (evv_built y.cx F.str.1 F.str.2) (ev_nm y rfl) (by lia)) (by decide)) evs_const (by decide))

theorem isptr_c {W : Wd} {f : Addr} {doc pm cdv ct : Value} {an : Option Addr} {k : Nat} (F : Fns W) (hd : W.defs f (fdOf "is_pointer" (st 2) doc pm an cdv ct)) {w : Int} : FnC W (k + 1) f [.int w] (.bool (decide (w % 2 = 1))) := by
  refine fnc_def (ps := ["w"]) hd ?_ (by decide) rfl ?_ (by decide) rfl rfl rfl ?_
  · exact bind1 fun _ => rfl
  · intro n x hx
    rw [List.mem_singleton.mp hx]; exact .inl rfl
  · intro A h₀ L X₀ s₀
    exact tri_cons (tri_ret (fun Kp γ s y => ev_eqI (by (focus ((repeat' (first | exact ev_int | exact ev_none | exact ev_bool | exact ev_str | exact ev_nm (by assumption) (by rfl) | exact ev_rho (by assumption) (by rfl) | exact ev_nm (by assumption) (by assumption) | exact ev_rho (by assumption) (by assumption) | exact ev_nmO (by assumption) (by rfl) | exact ev_old (by assumption) (by rfl) | exact Ev.sub (ev_rho (by assumption) (by rfl)) sub_l | exact ev_mu0 (by assumption) (List.Mem.head _) | exact ev_mu0 (by assumption) (List.Mem.tail _ (List.Mem.head _)) | exact Ev.flat (ev_nm (by assumption) (by rfl)) (by rfl) | refine ev_add ?_ ?_ | refine ev_sub ?_ ?_ | refine ev_mulL ?_ ?_ | refine ev_mod ?_ ?_ | refine ev_div ?_ ?_ | refine ev_neg ?_ | refine ev_ltI ?_ ?_ | refine ev_abs (evv_built (Sat.cx (by assumption)) (Fns.N (by assumption)).abs.1 (Fns.N (by assumption)).abs.2) ?_ | refine ev_len (evv_built (Sat.cx (by assumption)) (Fns.N (by assumption)).len.1 (Fns.N (by assumption)).len.2) ?_ ?_ | assumption | lia | (rw [ints_len]; lia))); done))) ev_int) (.inl rfl))
theorem addr_c {W : Wd} {f : Addr} {doc pm cdv ct : Value} {an : Option Addr} {k : Nat} (F : Fns W) (hd : W.defs f (fdOf "address_of" (st 4) doc pm an cdv ct)) {w : Int} : FnC W (k + 1) f [.int w] (.int (w / 2)) := by
  refine fnc_def (ps := ["w"]) hd ?_ (by decide) rfl ?_ (by decide) rfl rfl rfl ?_
  · exact bind1 fun _ => rfl
  · intro n x hx
    rw [List.mem_singleton.mp hx]; exact .inl rfl
  · intro A h₀ L X₀ s₀
    exact tri_cons (tri_ret (fun Kp γ s y => by (focus ((repeat' (first | exact ev_int | exact ev_none | exact ev_bool | exact ev_str | exact ev_nm (by assumption) (by rfl) | exact ev_rho (by assumption) (by rfl) | exact ev_nm (by assumption) (by assumption) | exact ev_rho (by assumption) (by assumption) | exact ev_nmO (by assumption) (by rfl) | exact ev_old (by assumption) (by rfl) | exact Ev.sub (ev_rho (by assumption) (by rfl)) sub_l | exact ev_mu0 (by assumption) (List.Mem.head _) | exact ev_mu0 (by assumption) (List.Mem.tail _ (List.Mem.head _)) | exact Ev.flat (ev_nm (by assumption) (by rfl)) (by rfl) | refine ev_add ?_ ?_ | refine ev_sub ?_ ?_ | refine ev_mulL ?_ ?_ | refine ev_mod ?_ ?_ | refine ev_div ?_ ?_ | refine ev_neg ?_ | refine ev_ltI ?_ ?_ | refine ev_abs (evv_built (Sat.cx (by assumption)) (Fns.N (by assumption)).abs.1 (Fns.N (by assumption)).abs.2) ?_ | refine ev_len (evv_built (Sat.cx (by assumption)) (Fns.N (by assumption)).len.1 (Fns.N (by assumption)).len.2) ?_ ?_ | assumption | lia | (rw [ints_len]; lia))); done))) (.inl rfl))
theorem fields_c {W : Wd} {f : Addr} {doc pm cdv ct : Value} {an : Option Addr} {k : Nat} (F : Fns W) (hd : W.defs f (fdOf "fields_of" (st 7) doc pm an cdv ct)) {m : List Int} {a : Int} (h0 : 0 ≤ a) (h1 : a < m.length) (h2 : 0 ≤ m.getD a.toNat 0) (hz : m.length < 2 ^ 20) : FnC W (k + 1) f [.lst (zints m), .int a] (.lst (zints (fldI m a))) := by
  refine fnc_def (ps := ["mem", "a"]) hd ?_ (by decide) rfl ?_ (by decide) rfl rfl rfl ?_
  · exact bind2 fun _ _ => rfl
  · intro n x hx
    simp only [List.mem_cons, List.not_mem_nil, or_false] at hx
    rcases hx with rfl | rfl <;> exact .inl rfl
  · intro A h₀ L X₀ s₀
    have hsl : (2 : Nat) ^ 20 ≤ sizeLine := by decide
    refine tri_cons (tri_ret (fun Kp γ s y => ?_) (.inl rfl))
    unfold fldI
    rw [← cut_zints]
    exact EvF.ev (evf_slice y.cx (by (focus ((repeat' (first | exact ev_int | exact ev_none | exact ev_bool | exact ev_str | exact ev_nm (by assumption) (by rfl) | exact ev_rho (by assumption) (by rfl) | exact ev_nm (by assumption) (by assumption) | exact ev_rho (by assumption) (by assumption) | exact ev_nmO (by assumption) (by rfl) | exact ev_old (by assumption) (by rfl) | exact Ev.sub (ev_rho (by assumption) (by rfl)) sub_l | exact ev_mu0 (by assumption) (List.Mem.head _) | exact ev_mu0 (by assumption) (List.Mem.tail _ (List.Mem.head _)) | exact Ev.flat (ev_nm (by assumption) (by rfl)) (by rfl) | refine ev_add ?_ ?_ | refine ev_sub ?_ ?_ | refine ev_mulL ?_ ?_ | refine ev_mod ?_ ?_ | refine ev_div ?_ ?_ | refine ev_neg ?_ | refine ev_ltI ?_ ?_ | refine ev_abs (evv_built (Sat.cx (by assumption)) (Fns.N (by assumption)).abs.1 (Fns.N (by assumption)).abs.2) ?_ | refine ev_len (evv_built (Sat.cx (by assumption)) (Fns.N (by assumption)).len.1 (Fns.N (by assumption)).len.2) ?_ ?_ | assumption | lia | (rw [ints_len]; lia))); done))) (show EvP _ _ _ _ (some _) (some (a + 1)) from by show Ev _ _ _ _ _ _ _; (focus ((repeat' (first | exact ev_int | exact ev_none | exact ev_bool | exact ev_str | exact ev_nm (by assumption) (by rfl) | exact ev_rho (by assumption) (by rfl) | exact ev_nm (by assumption) (by assumption) | exact ev_rho (by assumption) (by assumption) | exact ev_nmO (by assumption) (by rfl) | exact ev_old (by assumption) (by rfl) | exact Ev.sub (ev_rho (by assumption) (by rfl)) sub_l | exact ev_mu0 (by assumption) (List.Mem.head _) | exact ev_mu0 (by assumption) (List.Mem.tail _ (List.Mem.head _)) | exact Ev.flat (ev_nm (by assumption) (by rfl)) (by rfl) | refine ev_add ?_ ?_ | refine ev_sub ?_ ?_ | refine ev_mulL ?_ ?_ | refine ev_mod ?_ ?_ | refine ev_div ?_ ?_ | refine ev_neg ?_ | refine ev_ltI ?_ ?_ | refine ev_abs (evv_built (Sat.cx (by assumption)) (Fns.N (by assumption)).abs.1 (Fns.N (by assumption)).abs.2) ?_ | refine ev_len (evv_built (Sat.cx (by assumption)) (Fns.N (by assumption)).len.1 (Fns.N (by assumption)).len.2) ?_ ?_ | assumption | lia | (rw [ints_len]; lia))); done))) (show EvP _ _ _ _ (some _) (some (a + 1 + m.getD a.toNat 0)) from by
      show Ev _ _ _ _ _ _ _
      exact ev_add (by (focus ((repeat' (first | exact ev_int | exact ev_none | exact ev_bool | exact ev_str | exact ev_nm (by assumption) (by rfl) | exact ev_rho (by assumption) (by rfl) | exact ev_nm (by assumption) (by assumption) | exact ev_rho (by assumption) (by assumption) | exact ev_nmO (by assumption) (by rfl) | exact ev_old (by assumption) (by rfl) | exact Ev.sub (ev_rho (by assumption) (by rfl)) sub_l | exact ev_mu0 (by assumption) (List.Mem.head _) | exact ev_mu0 (by assumption) (List.Mem.tail _ (List.Mem.head _)) | exact Ev.flat (ev_nm (by assumption) (by rfl)) (by rfl) | refine ev_add ?_ ?_ | refine ev_sub ?_ ?_ | refine ev_mulL ?_ ?_ | refine ev_mod ?_ ?_ | refine ev_div ?_ ?_ | refine ev_neg ?_ | refine ev_ltI ?_ ?_ | refine ev_abs (evv_built (Sat.cx (by assumption)) (Fns.N (by assumption)).abs.1 (Fns.N (by assumption)).abs.2) ?_ | refine ev_len (evv_built (Sat.cx (by assumption)) (Fns.N (by assumption)).len.1 (Fns.N (by assumption)).len.2) ?_ ?_ | assumption | lia | (rw [ints_len]; lia))); done))) (ev_item (ds := zints m) (j := a) (by (focus ((repeat' (first | exact ev_int | exact ev_none | exact ev_bool | exact ev_str | exact ev_nm (by assumption) (by rfl) | exact ev_rho (by assumption) (by rfl) | exact ev_nm (by assumption) (by assumption) | exact ev_rho (by assumption) (by assumption) | exact ev_nmO (by assumption) (by rfl) | exact ev_old (by assumption) (by rfl) | exact Ev.sub (ev_rho (by assumption) (by rfl)) sub_l | exact ev_mu0 (by assumption) (List.Mem.head _) | exact ev_mu0 (by assumption) (List.Mem.tail _ (List.Mem.head _)) | exact Ev.flat (ev_nm (by assumption) (by rfl)) (by rfl) | refine ev_add ?_ ?_ | refine ev_sub ?_ ?_ | refine ev_mulL ?_ ?_ | refine ev_mod ?_ ?_ | refine ev_div ?_ ?_ | refine ev_neg ?_ | refine ev_ltI ?_ ?_ | refine ev_abs (evv_built (Sat.cx (by assumption)) (Fns.N (by assumption)).abs.1 (Fns.N (by assumption)).abs.2) ?_ | refine ev_len (evv_built (Sat.cx (by assumption)) (Fns.N (by assumption)).len.1 (Fns.N (by assumption)).len.2) ?_ ?_ | assumption | lia | (rw [ints_len]; lia))); done))) (by (focus ((repeat' (first | exact ev_int | exact ev_none | exact ev_bool | exact ev_str | exact ev_nm (by assumption) (by rfl) | exact ev_rho (by assumption) (by rfl) | exact ev_nm (by assumption) (by assumption) | exact ev_rho (by assumption) (by assumption) | exact ev_nmO (by assumption) (by rfl) | exact ev_old (by assumption) (by rfl) | exact Ev.sub (ev_rho (by assumption) (by rfl)) sub_l | exact ev_mu0 (by assumption) (List.Mem.head _) | exact ev_mu0 (by assumption) (List.Mem.tail _ (List.Mem.head _)) | exact Ev.flat (ev_nm (by assumption) (by rfl)) (by rfl) | refine ev_add ?_ ?_ | refine ev_sub ?_ ?_ | refine ev_mulL ?_ ?_ | refine ev_mod ?_ ?_ | refine ev_div ?_ ?_ | refine ev_neg ?_ | refine ev_ltI ?_ ?_ | refine ev_abs (evv_built (Sat.cx (by assumption)) (Fns.N (by assumption)).abs.1 (Fns.N (by assumption)).abs.2) ?_ | refine ev_len (evv_built (Sat.cx (by assumption)) (Fns.N (by assumption)).len.1 (Fns.N (by assumption)).len.2) ?_ ?_ | assumption | lia | (rw [ints_len]; lia))); done))) h0 (ints_get h0 h1) (by lia))) (fun i h => by cases h; lia) (fun i h => by cases h; lia) (fun _ _ r => r.flat flat_ints) (by rw [ints_len]; lia))

set_option maxHeartbeats 4000000 in
theorem reach_c {W : Wd} {f : Addr} {doc pm cdv ct : Value} {an : Option Addr} {k : Nat} (F : Fns W) (hd : W.defs f (fdOf "reachable" (st 8) doc pm an cdv ct)) {m roots S R : List Int} (hz : m.length < 2 ^ 20) (hrl : roots.length < 1000) (hSl : S.length < 1000) (hS : ∀ a ∈ S, 0 ≤ a ∧ a < m.length ∧ 0 ≤ m.getD a.toNat 0)
    (c : Closed (fldI m) roots S) (h1 : Fix (fldI m) roots R) (h2 : Prod' (fldI m) roots R) : FnC W (k + 1 + 1) f [.lst (zints m), .lst (zints roots)] (.lst (zints R)) := by
  refine fnc_def (ps := ["mem", "roots"]) hd ?_ (by decide) rfl ?_ (by decide) rfl rfl rfl ?_
  · exact bind2 fun _ _ => rfl
  · intro n x hx
    simp only [List.mem_cons, List.not_mem_nil, or_false] at hx
    rcases hx with rfl | rfl <;> exact .inl rfl
  intro A h₀ L X₀ s₀
  have hsl : (2 : Nat) ^ 20 ≤ sizeLine := by decide
  have step : ∀ {i : Stmt} {l : Addr} {met : List Int} {w : Int} {ρ : Rho} {Post : Fl → Mu → Rho → Prop}, (i = (forBody ((fnBody (st 8)).getD 1 (.Pass ⟨0, 0, 0, 0⟩))).getD 0 (.Pass ⟨0, 0, 0, 0⟩) ∨ i = (forBody ((whileBody ((fnBody (st 8)).getD 3 (.Pass ⟨0, 0, 0, 0⟩))).getD 0 (.Pass ⟨0, 0, 0, 0⟩))).getD 0 (.Pass ⟨0, 0, 0, 0⟩)) → ρ.lookup ("w" : Str) = some (V.int w) → met.length < 2 ^ 20 → Post .next [(("met" : Str), l, zints (stepW met w))] ρ →
      Tr1 ⟨W, k + 1, A, h₀, callEnvC (fdOf "reachable" (st 8) doc pm an cdv ct) L f, X₀, s₀⟩ [(("met" : Str), l, zints met)] ρ i Post := by
    intro i l met w ρ Post hi hw hml hP
    have e1 : ∀ {Kp γ s p q r}, Sat ⟨W, k + 1, A, h₀, callEnvC (fdOf "reachable" (st 8) doc pm an cdv ct) L f, X₀, s₀⟩ Kp γ [(("met" : Str), l, zints met)] ρ s → Ev W A (callEnvC (fdOf "reachable" (st 8) doc pm an cdv ct) L f) [] s.heap (.Call (.Name "is_pointer" p) [.Name "w" q] [] r) (.bool (decide (w % 2 = 1))) := fun y =>
      ev_fn (X := []) y F.isptr (fun f doc pm an cdv ct h => isptr_c F h) sub_nil (eva_cons (ev_nm y hw) eva_nil)
    have e2 : ∀ {Kp γ s p q r}, Sat ⟨W, k + 1, A, h₀, callEnvC (fdOf "reachable" (st 8) doc pm an cdv ct) L f, X₀, s₀⟩ Kp γ [(("met" : Str), l, zints met)] ρ s → Ev W A (callEnvC (fdOf "reachable" (st 8) doc pm an cdv ct) L f) [] s.heap (.Call (.Name "address_of" p) [.Name "w" q] [] r) (.int (w / 2)) := fun y =>
      ev_fn (X := []) y F.addr (fun f doc pm an cdv ct h => addr_c F h) sub_nil (eva_cons (ev_nm y hw) eva_nil)
    rcases hi with rfl | rfl
    all_goals
      refine tri_if (b := (decide (w % 2 = 1) && (!decide (w / 2 ∈ met) && true))) (fun Kp γ s y => bt_and (bt_val (e1 y)) fun _ => bt_and (bt_notin (e2 y) (ev_mu0 y (.head _))) fun _ => bt_and_nil) ?_
      unfold stepW at hP
      by_cases hc : w % 2 = 1 ∧ w / 2 ∉ met
      · rw [if_pos hc] at hP
        rw [decide_eq_true hc.1, decide_eq_false hc.2]
        refine tri_cons (tri_append (μ₁ := []) (μ₂ := []) (d := .int (w / 2)) rfl (fun Kp γ s y => (e2 y).flat rfl) (by rw [ints_len]; lia) ?_)
        refine tri_nil ?_
        have ez : zints met ++ [V.int (w / 2)] = zints (met ++ [w / 2]) := by simp [zints]
        rw [List.nil_append, ez]
        exact hP
      · rw [if_neg hc] at hP
        have : (decide (w % 2 = 1) && (!decide (w / 2 ∈ met) && true)) = false := by
          by_cases q : w % 2 = 1
          · by_cases q2 : w / 2 ∈ met
            · simp [q2]
            · exact absurd ⟨q, q2⟩ hc
          · simp [q]
        rw [this]
        exact tri_nil hP
  refine tri_cons (tri_assignM (.inl rfl) (fun Kp γ s y => evf_list y.cx eva_nil) (fun l => ?_))
  refine tri_cons (tri_forL (ds := zints roots) (fun i μ ρ => ∃ l, μ = [(("met" : Str), l, zints (addAll [] (roots.take i)))] ∧ ρ = [(("mem" : Str), V.old (V.lst (zints m))), (("roots" : Str), V.old (V.lst (zints roots)))]) (.inl rfl) (fun Kp γ s y => by (focus ((repeat' (first | exact ev_int | exact ev_none | exact ev_bool | exact ev_str | exact ev_nm (by assumption) (by rfl) | exact ev_rho (by assumption) (by rfl) | exact ev_nm (by assumption) (by assumption) | exact ev_rho (by assumption) (by assumption) | exact ev_nmO (by assumption) (by rfl) | exact ev_old (by assumption) (by rfl) | exact Ev.sub (ev_rho (by assumption) (by rfl)) sub_l | exact ev_mu0 (by assumption) (List.Mem.head _) | exact ev_mu0 (by assumption) (List.Mem.tail _ (List.Mem.head _)) | exact Ev.flat (ev_nm (by assumption) (by rfl)) (by rfl) | refine ev_add ?_ ?_ | refine ev_sub ?_ ?_ | refine ev_mulL ?_ ?_ | refine ev_mod ?_ ?_ | refine ev_div ?_ ?_ | refine ev_neg ?_ | refine ev_ltI ?_ ?_ | refine ev_abs (evv_built (Sat.cx (by assumption)) (Fns.N (by assumption)).abs.1 (Fns.N (by assumption)).abs.2) ?_ | refine ev_len (evv_built (Sat.cx (by assumption)) (Fns.N (by assumption)).len.1 (Fns.N (by assumption)).len.2) ?_ ?_ | assumption | lia | (rw [ints_len]; lia))); done))) ⟨l, rfl, rfl⟩ ?_ ?_ ?_)
  · rintro i μ' ρ' ⟨l, rfl, _⟩
    rfl
  · rintro i d μ' ρ' hd ⟨l, rfl, rfl⟩
    unfold zints at hd
    rw [List.getElem?_map] at hd
    obtain ⟨w, hw, rfl⟩ := Option.map_eq_some_iff.mp hd
    have hi : i < roots.length := (List.getElem?_eq_some_iff.mp hw).1
    refine tri_cons (step (w := w) (.inl rfl) rfl ?_ ?_)
    · have : (addAll [] (roots.take i)).length ≤ S.length := nodup_le (addAll_nodup List.nodup_nil) fun a ha => by
        rcases mem_addAll.mp ha with h | ⟨w, hw, h1, h2⟩
        · cases h
        · rw [← h2]; exact c.r w (List.mem_of_mem_take hw) h1
      lia
    · refine tri_end (ρ' := [(("mem" : Str), V.old (V.lst (zints m))), (("roots" : Str), V.old (V.lst (zints roots)))]) ⟨rfl, rfl, trivial⟩ ⟨l, ?_, rfl⟩
      rw [List.take_succ_eq_append_getElem hi, addAll_snoc, (List.getElem?_eq_some_iff.mp hw).2]
  · rintro μ' ρ' ⟨l, rfl, rfl⟩
    rw [ints_len, List.take_length]
    refine tri_cons (tri_assign (d := .int ((0 : Nat) : Int)) (.inl rfl) (fun Kp γ s y => ev_int) ?_)
    refine tri_cons (tri_while S.length (fun i μ ρ => ∃ l met, μ = [(("met" : Str), l, zints met)] ∧ ρ = [(("place" : Str), V.int (i : Int)), (("mem" : Str), V.old (V.lst (zints m))), (("roots" : Str), V.old (V.lst (zints roots)))] ∧ BfsI (fldI m) roots S met i) (fun i μ ρ => match μ with | [(_, _, ds)] => decide ((i : Int) < (ds.length : Int)) | _ => false) ⟨l, _, rfl, rfl, bfs_start c⟩ ?_ ?_ ?_)
    · rintro i μ' ρ' ⟨l, met, rfl, rfl, b⟩ Kp γ s y
      have := bfs_len b
      have hml : (zints met).length < 2 ^ 62 := by rw [ints_len]; lia
      exact bt_ltI (by (focus ((repeat' (first | exact ev_int | exact ev_none | exact ev_bool | exact ev_str | exact ev_nm (by assumption) (by rfl) | exact ev_rho (by assumption) (by rfl) | exact ev_nm (by assumption) (by assumption) | exact ev_rho (by assumption) (by assumption) | exact ev_nmO (by assumption) (by rfl) | exact ev_old (by assumption) (by rfl) | exact Ev.sub (ev_rho (by assumption) (by rfl)) sub_l | exact ev_mu0 (by assumption) (List.Mem.head _) | exact ev_mu0 (by assumption) (List.Mem.tail _ (List.Mem.head _)) | exact Ev.flat (ev_nm (by assumption) (by rfl)) (by rfl) | refine ev_add ?_ ?_ | refine ev_sub ?_ ?_ | refine ev_mulL ?_ ?_ | refine ev_mod ?_ ?_ | refine ev_div ?_ ?_ | refine ev_neg ?_ | refine ev_ltI ?_ ?_ | refine ev_abs (evv_built (Sat.cx (by assumption)) (Fns.N (by assumption)).abs.1 (Fns.N (by assumption)).abs.2) ?_ | refine ev_len (evv_built (Sat.cx (by assumption)) (Fns.N (by assumption)).len.1 (Fns.N (by assumption)).len.2) ?_ ?_ | assumption | lia | (rw [ints_len]; lia))); done))) (ev_len (evv_built y.cx F.N.len.1 F.N.len.2) (ev_mu0 y (.head _)) hml)
    · rintro i μ' ρ' ⟨l, met, rfl, rfl, b⟩ hg
      have hi : i < met.length := by
        have := of_decide_eq_true hg
        rw [ints_len] at this
        lia
      have hml := bfs_len b
      refine ⟨by lia, ?_⟩
      obtain ⟨a, ha⟩ : ∃ a, met[i]? = some a := ⟨_, List.getElem?_eq_getElem hi⟩
      have haS := hS a (b.sub a (List.mem_of_getElem? ha))
      have hfl : (fldI m a).length < 2 ^ 20 := by
        unfold fldI cut
        simp only [Option.elim, List.length_drop, List.length_take]
        lia
      refine tri_cons (tri_forL (ds := zints (fldI m a)) (fun j μ ρ => ∃ l, μ = [(("met" : Str), l, zints (addAll met ((fldI m a).take j)))] ∧ ρ = [(("place" : Str), V.int (i : Int)), (("mem" : Str), V.old (V.lst (zints m))), (("roots" : Str), V.old (V.lst (zints roots)))]) (.inl rfl) (fun Kp γ s y => ?_) ⟨l, rfl, rfl⟩ ?_ ?_ ?_)
      · refine ev_fn y F.fields (fun f doc pm an cdv ct h => fields_c F h haS.1 haS.2.1 haS.2.2 hz) sub_l (eva_cons (by (focus ((repeat' (first | exact ev_int | exact ev_none | exact ev_bool | exact ev_str | exact ev_nm (by assumption) (by rfl) | exact ev_rho (by assumption) (by rfl) | exact ev_nm (by assumption) (by assumption) | exact ev_rho (by assumption) (by assumption) | exact ev_nmO (by assumption) (by rfl) | exact ev_old (by assumption) (by rfl) | exact Ev.sub (ev_rho (by assumption) (by rfl)) sub_l | exact ev_mu0 (by assumption) (List.Mem.head _) | exact ev_mu0 (by assumption) (List.Mem.tail _ (List.Mem.head _)) | exact Ev.flat (ev_nm (by assumption) (by rfl)) (by rfl) | refine ev_add ?_ ?_ | refine ev_sub ?_ ?_ | refine ev_mulL ?_ ?_ | refine ev_mod ?_ ?_ | refine ev_div ?_ ?_ | refine ev_neg ?_ | refine ev_ltI ?_ ?_ | refine ev_abs (evv_built (Sat.cx (by assumption)) (Fns.N (by assumption)).abs.1 (Fns.N (by assumption)).abs.2) ?_ | refine ev_len (evv_built (Sat.cx (by assumption)) (Fns.N (by assumption)).len.1 (Fns.N (by assumption)).len.2) ?_ ?_ | assumption | lia | (rw [ints_len]; lia))); done))) (eva_cons ((ev_item (X := []) (ds := zints met) (j := (i : Int)) (ev_mu0 y (.head _)) (by (focus ((repeat' (first | exact ev_int | exact ev_none | exact ev_bool | exact ev_str | exact ev_nm (by assumption) (by rfl) | exact ev_rho (by assumption) (by rfl) | exact ev_nm (by assumption) (by assumption) | exact ev_rho (by assumption) (by assumption) | exact ev_nmO (by assumption) (by rfl) | exact ev_old (by assumption) (by rfl) | exact Ev.sub (ev_rho (by assumption) (by rfl)) sub_l | exact ev_mu0 (by assumption) (List.Mem.head _) | exact ev_mu0 (by assumption) (List.Mem.tail _ (List.Mem.head _)) | exact Ev.flat (ev_nm (by assumption) (by rfl)) (by rfl) | refine ev_add ?_ ?_ | refine ev_sub ?_ ?_ | refine ev_mulL ?_ ?_ | refine ev_mod ?_ ?_ | refine ev_div ?_ ?_ | refine ev_neg ?_ | refine ev_ltI ?_ ?_ | refine ev_abs (evv_built (Sat.cx (by assumption)) (Fns.N (by assumption)).abs.1 (Fns.N (by assumption)).abs.2) ?_ | refine ev_len (evv_built (Sat.cx (by assumption)) (Fns.N (by assumption)).len.1 (Fns.N (by assumption)).len.2) ?_ ?_ | assumption | lia | (rw [ints_len]; lia))); done))) (by lia) ?_ (by lia)).flat rfl) eva_nil))
        rw [ints_get (by lia) (by lia), Int.toNat_natCast, List.getD_eq_getElem?_getD, ha]; rfl
      · rintro j μ' ρ' ⟨l, rfl, _⟩
        rfl
      · rintro j d μ' ρ' hd ⟨l, rfl, rfl⟩
        unfold zints at hd
        rw [List.getElem?_map] at hd
        obtain ⟨w, hw, rfl⟩ := Option.map_eq_some_iff.mp hd
        have hj : j < (fldI m a).length := (List.getElem?_eq_some_iff.mp hw).1
        refine tri_cons (step (w := w) (.inr rfl) rfl ?_ ?_)
        · have : (addAll met ((fldI m a).take j)).length ≤ S.length := nodup_le (addAll_nodup (by rw [b.eq]; exact Gf_nodup)) fun x hx => by
            rcases mem_addAll.mp hx with h | ⟨w, hw, h1, h2⟩
            · exact b.sub x h
            · rw [← h2]; exact c.f a (b.sub a (List.mem_of_getElem? ha)) w (List.mem_of_mem_take hw) h1
          lia
        · refine tri_end (ρ' := [(("place" : Str), V.int (i : Int)), (("mem" : Str), V.old (V.lst (zints m))), (("roots" : Str), V.old (V.lst (zints roots)))]) ⟨rfl, rfl, rfl, trivial⟩ ⟨l, ?_, rfl⟩
          rw [List.take_succ_eq_append_getElem hj, addAll_snoc, (List.getElem?_eq_some_iff.mp hw).2]
      · rintro μ' ρ' ⟨l, rfl, rfl⟩
        rw [ints_len, List.take_length]
        refine tri_cons (tri_assign (d := .int ((i + 1 : Nat) : Int)) (.inl rfl) (fun Kp γ s y => by rw [show ((i + 1 : Nat) : Int) = (i : Int) + 1 by lia]; (focus ((repeat' (first | exact ev_int | exact ev_none | exact ev_bool | exact ev_str | exact ev_nm (by assumption) (by rfl) | exact ev_rho (by assumption) (by rfl) | exact ev_nm (by assumption) (by assumption) | exact ev_rho (by assumption) (by assumption) | exact ev_nmO (by assumption) (by rfl) | exact ev_old (by assumption) (by rfl) | exact Ev.sub (ev_rho (by assumption) (by rfl)) sub_l | exact ev_mu0 (by assumption) (List.Mem.head _) | exact ev_mu0 (by assumption) (List.Mem.tail _ (List.Mem.head _)) | exact Ev.flat (ev_nm (by assumption) (by rfl)) (by rfl) | refine ev_add ?_ ?_ | refine ev_sub ?_ ?_ | refine ev_mulL ?_ ?_ | refine ev_mod ?_ ?_ | refine ev_div ?_ ?_ | refine ev_neg ?_ | refine ev_ltI ?_ ?_ | refine ev_abs (evv_built (Sat.cx (by assumption)) (Fns.N (by assumption)).abs.1 (Fns.N (by assumption)).abs.2) ?_ | refine ev_len (evv_built (Sat.cx (by assumption)) (Fns.N (by assumption)).len.1 (Fns.N (by assumption)).len.2) ?_ ?_ | assumption | lia | (rw [ints_len]; lia))); done))) ?_)
        exact tri_end (ρ' := [(("place" : Str), V.int ((i + 1 : Nat) : Int)), (("mem" : Str), V.old (V.lst (zints m))), (("roots" : Str), V.old (V.lst (zints roots)))]) ⟨rfl, rfl, rfl, trivial⟩ ⟨l, _, rfl, rfl, bfs_step c b ha⟩
    · rintro i μ' ρ' ⟨l, met, rfl, rfl, b⟩ hg
      have hi : met.length ≤ i := by
        have := of_decide_eq_false hg
        rw [ints_len] at this
        lia
      obtain ⟨f1, f2⟩ := bfs_end b hi
      rw [fix_unique h1 h2 f1 f2]
      exact tri_cons (tri_ret (fun Kp γ s y => ev_mu y (.head _)) (.inl rfl))


theorem blks_full {ps : List (List Int)} {i : Nat} {q : Int × Int × Bool} (h : (blks 0 ps)[i]? = some q) : ∃ p post, ps = ps.take i ++ p :: post ∧ i < ps.length ∧ q = (((ps.take i).flatten.length : Int), (p.length : Int), decide (p.headD 0 < 0)) := by
  have hi : i < ps.length := by
    have := (List.getElem?_eq_some_iff.mp h).1
    rwa [blks_length] at this
  have e : ps = ps.take i ++ ps[i] :: ps.drop (i + 1) := by rw [List.getElem_cons_drop]; exact (List.take_append_drop i ps).symm
  refine ⟨ps[i], ps.drop (i + 1), e, hi, ?_⟩
  have hl : (ps.take i).length = i := by rw [List.length_take]; lia
  have g := blks_get (pre := ps.take i) (p := ps[i]) (post := ps.drop (i + 1))
  rw [← e, hl, h] at g
  exact Option.some.inj g
theorem off_self {x : Str} {l : Addr} {ds : List V} : Mu.off [(x, l, ds)] x = [] := by simp [Mu.off]
theorem cut_piece {u p v : List Int} {a n : Int} (ha : a = u.length) (hn : n = p.length) : cut (u ++ (p ++ v)) (some a) (some (a + n)) = p := by
  unfold cut
  subst ha hn
  simp only [Option.elim]
  rw [show ((u.length : Int) + (p.length : Int)).toNat = u.length + p.length by lia, Int.toNat_natCast, List.drop_take, List.drop_left, show u.length + p.length - u.length = p.length by lia, List.take_left]
theorem zrep {n : Nat} : List.replicate n (V.int 0) = zints (List.replicate n 0) := by unfold zints; rw [List.map_replicate]

set_option maxHeartbeats 4000000 in
theorem swept_c {W : Wd} {f : Addr} {doc pm cdv ct : Value} {an : Option Addr} {k : Nat} (F : Fns W) (hd : W.defs f (fdOf "swept" (st 9) doc pm an cdv ct)) {ms mk : List Int} {ps : List (List Int)} (hm : ms = ps.flatten) (hok : ∀ p ∈ ps, OkP p) (hz : ms.length < 2 ^ 19) :
    FnC W (k + 1 + 1) f [.lst (zints ms), .lst (zints mk)] (.lst (zints (joinP (afterP mk 0 ps)).flatten)) := by
  refine fnc_def (ps := ["mem", "marked"]) hd ?_ (by decide) rfl ?_ (by decide) rfl rfl rfl ?_
  · exact bind2 fun _ _ => rfl
  · intro n x hx
    simp only [List.mem_cons, List.not_mem_nil, or_false] at hx
    rcases hx with rfl | rfl <;> exact .inl rfl
  intro A h₀ L X₀ s₀
  have hsl : (2 : Nat) ^ 20 ≤ sizeLine := by decide
  -- what is known of the pieces joined so far
  have fok : ∀ i, FreeOk (joinP (afterP mk 0 (ps.take i))) := by
    intro i
    have key : ∀ (qs : List (List Int)) (o : Int) (O : List (List Int)), FreeOk O → FreeOk ((afterP mk o qs).foldl joinStep O) := by
      intro qs
      induction qs with
      | nil => intro o O h; exact h
      | cons q r ih =>
        intro o O h
        refine ih _ _ (freeOk_step h ?_)
        intro hh
        split at hh
        · rename_i c; exact absurd hh c.1
        · rename_i c; rw [if_neg c, freeI_len]
    exact key _ _ _ fun q h => (nomatch h)
  have flen : ∀ i, (joinP (afterP mk 0 (ps.take i))).flatten.length = (ps.take i).flatten.length := by
    intro i
    have key : ∀ (qs : List (List Int)) (o : Int) (O : List (List Int)), ((afterP mk o qs).foldl joinStep O).flatten.length = O.flatten.length + qs.flatten.length := by
      intro qs
      induction qs with
      | nil => intro o O; simp [afterP]
      | cons q r ih =>
        intro o O
        show ((afterP mk _ r).foldl joinStep (joinStep O _)).flatten.length = _
        rw [ih, join_len, List.flatten_cons, List.length_append]
        split <;> (try simp only [freeI_len]) <;> lia
    have := key (ps.take i) 0 []
    simpa [joinP] using this
  have tlen : ∀ i, (ps.take i).flatten.length ≤ ms.length := by
    intro i
    have := congrArg List.flatten (List.take_append_drop i ps)
    rw [List.flatten_append] at this
    rw [hm, ← this, List.length_append]
    lia
  refine tri_cons (tri_assignM (.inl rfl) (fun Kp γ s y => evf_list y.cx eva_nil) (fun l => ?_))
  refine tri_cons (tri_assign (d := .int (-1)) (.inl rfl) (fun Kp γ s y => by (focus ((repeat' (first | exact ev_int | exact ev_none | exact ev_bool | exact ev_str | exact ev_nm (by assumption) (by rfl) | exact ev_rho (by assumption) (by rfl) | exact ev_nm (by assumption) (by assumption) | exact ev_rho (by assumption) (by assumption) | exact ev_nmO (by assumption) (by rfl) | exact ev_old (by assumption) (by rfl) | exact Ev.sub (ev_rho (by assumption) (by rfl)) sub_l | exact ev_mu0 (by assumption) (List.Mem.head _) | exact ev_mu0 (by assumption) (List.Mem.tail _ (List.Mem.head _)) | exact Ev.flat (ev_nm (by assumption) (by rfl)) (by rfl) | refine ev_add ?_ ?_ | refine ev_sub ?_ ?_ | refine ev_mulL ?_ ?_ | refine ev_mod ?_ ?_ | refine ev_div ?_ ?_ | refine ev_neg ?_ | refine ev_ltI ?_ ?_ | refine ev_abs (evv_built (Sat.cx (by assumption)) (Fns.N (by assumption)).abs.1 (Fns.N (by assumption)).abs.2) ?_ | refine ev_len (evv_built (Sat.cx (by assumption)) (Fns.N (by assumption)).len.1 (Fns.N (by assumption)).len.2) ?_ ?_ | assumption | lia | (rw [ints_len]; lia))); done))) ?_)
  refine tri_cons (tri_forL (ds := (blks 0 ps).map tupV) (fun i μ ρ => ∃ l, μ = [(("new" : Str), l, zints (joinP (afterP mk 0 (ps.take i))).flatten)] ∧ ρ = [(("run" : Str), V.int (runOf (joinP (afterP mk 0 (ps.take i))))), (("mem" : Str), V.old (.lst (zints ms))), (("marked" : Str), V.old (.lst (zints mk)))]) (.inl rfl) (fun Kp γ s y => ev_fn y F.blocks (fun f doc pm an cdv ct h => blocks_c (ns := ms) (ps := ps) F h (tl := []) (by rw [List.append_nil]; exact hm) hok (.inl rfl) (by lia)) sub_l (eva_cons (by (focus ((repeat' (first | exact ev_int | exact ev_none | exact ev_bool | exact ev_str | exact ev_nm (by assumption) (by rfl) | exact ev_rho (by assumption) (by rfl) | exact ev_nm (by assumption) (by assumption) | exact ev_rho (by assumption) (by assumption) | exact ev_nmO (by assumption) (by rfl) | exact ev_old (by assumption) (by rfl) | exact Ev.sub (ev_rho (by assumption) (by rfl)) sub_l | exact ev_mu0 (by assumption) (List.Mem.head _) | exact ev_mu0 (by assumption) (List.Mem.tail _ (List.Mem.head _)) | exact Ev.flat (ev_nm (by assumption) (by rfl)) (by rfl) | refine ev_add ?_ ?_ | refine ev_sub ?_ ?_ | refine ev_mulL ?_ ?_ | refine ev_mod ?_ ?_ | refine ev_div ?_ ?_ | refine ev_neg ?_ | refine ev_ltI ?_ ?_ | refine ev_abs (evv_built (Sat.cx (by assumption)) (Fns.N (by assumption)).abs.1 (Fns.N (by assumption)).abs.2) ?_ | refine ev_len (evv_built (Sat.cx (by assumption)) (Fns.N (by assumption)).len.1 (Fns.N (by assumption)).len.2) ?_ ?_ | assumption | lia | (rw [ints_len]; lia))); done))) eva_nil)) ⟨l, rfl, rfl⟩ ?_ ?_ ?_)
  · rintro i μ' ρ' ⟨l, rfl, _⟩
    rfl
  · rintro i d μ' ρ' hdi ⟨l, rfl, rfl⟩
    rw [List.getElem?_map] at hdi
    obtain ⟨q, hq, rfl⟩ := Option.map_eq_some_iff.mp hdi
    obtain ⟨p, post, e, hi, rfl⟩ := blks_full hq
    have hpm : p ∈ ps := by rw [e]; simp
    obtain ⟨hd0, t0, ep, eh⟩ := hok p hpm
    have hp1 : 1 ≤ p.length := by rw [ep, List.length_cons]; lia
    have fi := flen i
    have ti := tlen i
    have hpl : (ps.take i).flatten.length + p.length ≤ ms.length := by
      have := congrArg (fun l => l.flatten.length) e
      simp only [List.flatten_append, List.flatten_cons, List.length_append] at this
      rw [hm]; lia
    have nxt : ∀ x, x = (if ¬ p.headD 0 < 0 ∧ ((ps.take i).flatten.length : Int) ∈ mk then p else freeI p.length) → joinP (afterP mk 0 (ps.take (i + 1))) = joinStep (joinP (afterP mk 0 (ps.take i))) x := by
      rintro x rfl
      have e2 : ps.take (i + 1) = ps.take i ++ [p] := by
        rw [List.take_succ_eq_append_getElem hi]
        congr 2
        have this : ps[i]? = (ps.take i ++ p :: post)[i]? := congrArg (fun l => l[i]?) e
        rw [List.getElem?_append_right (by rw [List.length_take]; lia), List.length_take, show i - min i ps.length = 0 by lia, List.getElem?_cons_zero, List.getElem?_eq_getElem hi] at this
        exact Option.some.inj this
      rw [e2, afterP_append, Int.zero_add]
      exact joinP_snoc
    have hOf := fok i
    have emem : ms = (ps.take i).flatten ++ (p ++ post.flatten) := by rw [hm]; conv => lhs; rw [e]; simp only [List.flatten_append, List.flatten_cons]
    generalize joinP (afterP mk 0 (ps.take i)) = O at fi nxt hOf ⊢
    generalize hal : (ps.take i).flatten.length = al at fi ti hpl nxt ⊢
    refine tri_cons (tri_assign (d := .int (al : Int)) (.inl rfl) (fun Kp γ s y => (ev_itemT (X := []) (ds := [.int (al : Int), .int (p.length : Int), .bool (decide (p.headD 0 < 0))]) (j := 0) (by (focus ((repeat' (first | exact ev_int | exact ev_none | exact ev_bool | exact ev_str | exact ev_nm (by assumption) (by rfl) | exact ev_rho (by assumption) (by rfl) | exact ev_nm (by assumption) (by assumption) | exact ev_rho (by assumption) (by assumption) | exact ev_nmO (by assumption) (by rfl) | exact ev_old (by assumption) (by rfl) | exact Ev.sub (ev_rho (by assumption) (by rfl)) sub_l | exact ev_mu0 (by assumption) (List.Mem.head _) | exact ev_mu0 (by assumption) (List.Mem.tail _ (List.Mem.head _)) | exact Ev.flat (ev_nm (by assumption) (by rfl)) (by rfl) | refine ev_add ?_ ?_ | refine ev_sub ?_ ?_ | refine ev_mulL ?_ ?_ | refine ev_mod ?_ ?_ | refine ev_div ?_ ?_ | refine ev_neg ?_ | refine ev_ltI ?_ ?_ | refine ev_abs (evv_built (Sat.cx (by assumption)) (Fns.N (by assumption)).abs.1 (Fns.N (by assumption)).abs.2) ?_ | refine ev_len (evv_built (Sat.cx (by assumption)) (Fns.N (by assumption)).len.1 (Fns.N (by assumption)).len.2) ?_ ?_ | assumption | lia | (rw [ints_len]; lia))); done))) ev_int (by decide) rfl (by decide)).flat rfl) ?_)
    refine tri_cons (tri_assign (d := .int (p.length : Int)) (.inl rfl) (fun Kp γ s y => (ev_itemT (X := []) (ds := [.int (al : Int), .int (p.length : Int), .bool (decide (p.headD 0 < 0))]) (j := 1) (by (focus ((repeat' (first | exact ev_int | exact ev_none | exact ev_bool | exact ev_str | exact ev_nm (by assumption) (by rfl) | exact ev_rho (by assumption) (by rfl) | exact ev_nm (by assumption) (by assumption) | exact ev_rho (by assumption) (by assumption) | exact ev_nmO (by assumption) (by rfl) | exact ev_old (by assumption) (by rfl) | exact Ev.sub (ev_rho (by assumption) (by rfl)) sub_l | exact ev_mu0 (by assumption) (List.Mem.head _) | exact ev_mu0 (by assumption) (List.Mem.tail _ (List.Mem.head _)) | exact Ev.flat (ev_nm (by assumption) (by rfl)) (by rfl) | refine ev_add ?_ ?_ | refine ev_sub ?_ ?_ | refine ev_mulL ?_ ?_ | refine ev_mod ?_ ?_ | refine ev_div ?_ ?_ | refine ev_neg ?_ | refine ev_ltI ?_ ?_ | refine ev_abs (evv_built (Sat.cx (by assumption)) (Fns.N (by assumption)).abs.1 (Fns.N (by assumption)).abs.2) ?_ | refine ev_len (evv_built (Sat.cx (by assumption)) (Fns.N (by assumption)).len.1 (Fns.N (by assumption)).len.2) ?_ ?_ | assumption | lia | (rw [ints_len]; lia))); done))) ev_int (by decide) rfl (by decide)).flat rfl) ?_)
    refine tri_cons (tri_if (b := (!decide (p.headD 0 < 0) && (decide ((al : Int) ∈ mk) && true))) (fun Kp γ s y => bt_and (bt_not (bt_val (ev_itemT (X := []) (ds := [.int (al : Int), .int (p.length : Int), .bool (decide (p.headD 0 < 0))]) (j := 2) (by (focus ((repeat' (first | exact ev_int | exact ev_none | exact ev_bool | exact ev_str | exact ev_nm (by assumption) (by rfl) | exact ev_rho (by assumption) (by rfl) | exact ev_nm (by assumption) (by assumption) | exact ev_rho (by assumption) (by assumption) | exact ev_nmO (by assumption) (by rfl) | exact ev_old (by assumption) (by rfl) | exact Ev.sub (ev_rho (by assumption) (by rfl)) sub_l | exact ev_mu0 (by assumption) (List.Mem.head _) | exact ev_mu0 (by assumption) (List.Mem.tail _ (List.Mem.head _)) | exact Ev.flat (ev_nm (by assumption) (by rfl)) (by rfl) | refine ev_add ?_ ?_ | refine ev_sub ?_ ?_ | refine ev_mulL ?_ ?_ | refine ev_mod ?_ ?_ | refine ev_div ?_ ?_ | refine ev_neg ?_ | refine ev_ltI ?_ ?_ | refine ev_abs (evv_built (Sat.cx (by assumption)) (Fns.N (by assumption)).abs.1 (Fns.N (by assumption)).abs.2) ?_ | refine ev_len (evv_built (Sat.cx (by assumption)) (Fns.N (by assumption)).len.1 (Fns.N (by assumption)).len.2) ?_ ?_ | assumption | lia | (rw [ints_len]; lia))); done))) ev_int (by decide) rfl (by decide)))) fun _ => bt_and (bt_in (by (focus ((repeat' (first | exact ev_int | exact ev_none | exact ev_bool | exact ev_str | exact ev_nm (by assumption) (by rfl) | exact ev_rho (by assumption) (by rfl) | exact ev_nm (by assumption) (by assumption) | exact ev_rho (by assumption) (by assumption) | exact ev_nmO (by assumption) (by rfl) | exact ev_old (by assumption) (by rfl) | exact Ev.sub (ev_rho (by assumption) (by rfl)) sub_l | exact ev_mu0 (by assumption) (List.Mem.head _) | exact ev_mu0 (by assumption) (List.Mem.tail _ (List.Mem.head _)) | exact Ev.flat (ev_nm (by assumption) (by rfl)) (by rfl) | refine ev_add ?_ ?_ | refine ev_sub ?_ ?_ | refine ev_mulL ?_ ?_ | refine ev_mod ?_ ?_ | refine ev_div ?_ ?_ | refine ev_neg ?_ | refine ev_ltI ?_ ?_ | refine ev_abs (evv_built (Sat.cx (by assumption)) (Fns.N (by assumption)).abs.1 (Fns.N (by assumption)).abs.2) ?_ | refine ev_len (evv_built (Sat.cx (by assumption)) (Fns.N (by assumption)).len.1 (Fns.N (by assumption)).len.2) ?_ ?_ | assumption | lia | (rw [ints_len]; lia))); done))) (by (focus ((repeat' (first | exact ev_int | exact ev_none | exact ev_bool | exact ev_str | exact ev_nm (by assumption) (by rfl) | exact ev_rho (by assumption) (by rfl) | exact ev_nm (by assumption) (by assumption) | exact ev_rho (by assumption) (by assumption) | exact ev_nmO (by assumption) (by rfl) | exact ev_old (by assumption) (by rfl) | exact Ev.sub (ev_rho (by assumption) (by rfl)) sub_l | exact ev_mu0 (by assumption) (List.Mem.head _) | exact ev_mu0 (by assumption) (List.Mem.tail _ (List.Mem.head _)) | exact Ev.flat (ev_nm (by assumption) (by rfl)) (by rfl) | refine ev_add ?_ ?_ | refine ev_sub ?_ ?_ | refine ev_mulL ?_ ?_ | refine ev_mod ?_ ?_ | refine ev_div ?_ ?_ | refine ev_neg ?_ | refine ev_ltI ?_ ?_ | refine ev_abs (evv_built (Sat.cx (by assumption)) (Fns.N (by assumption)).abs.1 (Fns.N (by assumption)).abs.2) ?_ | refine ev_len (evv_built (Sat.cx (by assumption)) (Fns.N (by assumption)).len.1 (Fns.N (by assumption)).len.2) ?_ ?_ | assumption | lia | (rw [ints_len]; lia))); done)))) fun _ => bt_and_nil) ?_)
    by_cases hlv : ¬ p.headD 0 < 0 ∧ (al : Int) ∈ mk
    · -- a live object
      rw [decide_eq_false hlv.1, decide_eq_true hlv.2]
      have en := nxt p (by rw [if_pos hlv])
      obtain ⟨s1, s2⟩ := step_live (O := O) hlv.1
      rw [← en] at s1 s2
      refine tri_cons (tri_assignN (ds := zints (joinP (afterP mk 0 (ps.take (i + 1)))).flatten) (.inl rfl) (fun Kp γ s y => ?_) fun l' => ?_)
      · rw [s1, flat_snoc, ← cat_ints]
        refine evf_addF y.cx (ev_mu0 y (.head _)) ?_ (by rw [ints_len, ints_len]; lia) flat_ints flat_ints
        have ez : zints p = cut (zints ms) (some (al : Int)) (some ((al : Int) + (p.length : Int))) := by
          rw [cut_zints, emem, cut_piece (by rw [hal]) rfl]
        rw [ez]
        exact EvF.ev (evf_slice (Y := []) (y.cx.sub sub_nil) (by (focus ((repeat' (first | exact ev_int | exact ev_none | exact ev_bool | exact ev_str | exact ev_nm (by assumption) (by rfl) | exact ev_rho (by assumption) (by rfl) | exact ev_nm (by assumption) (by assumption) | exact ev_rho (by assumption) (by assumption) | exact ev_nmO (by assumption) (by rfl) | exact ev_old (by assumption) (by rfl) | exact Ev.sub (ev_rho (by assumption) (by rfl)) sub_l | exact ev_mu0 (by assumption) (List.Mem.head _) | exact ev_mu0 (by assumption) (List.Mem.tail _ (List.Mem.head _)) | exact Ev.flat (ev_nm (by assumption) (by rfl)) (by rfl) | refine ev_add ?_ ?_ | refine ev_sub ?_ ?_ | refine ev_mulL ?_ ?_ | refine ev_mod ?_ ?_ | refine ev_div ?_ ?_ | refine ev_neg ?_ | refine ev_ltI ?_ ?_ | refine ev_abs (evv_built (Sat.cx (by assumption)) (Fns.N (by assumption)).abs.1 (Fns.N (by assumption)).abs.2) ?_ | refine ev_len (evv_built (Sat.cx (by assumption)) (Fns.N (by assumption)).len.1 (Fns.N (by assumption)).len.2) ?_ ?_ | assumption | lia | (rw [ints_len]; lia))); done))) (show EvP _ _ _ _ (some _) (some (al : Int)) from by show Ev _ _ _ _ _ _ _; (focus ((repeat' (first | exact ev_int | exact ev_none | exact ev_bool | exact ev_str | exact ev_nm (by assumption) (by rfl) | exact ev_rho (by assumption) (by rfl) | exact ev_nm (by assumption) (by assumption) | exact ev_rho (by assumption) (by assumption) | exact ev_nmO (by assumption) (by rfl) | exact ev_old (by assumption) (by rfl) | exact Ev.sub (ev_rho (by assumption) (by rfl)) sub_l | exact ev_mu0 (by assumption) (List.Mem.head _) | exact ev_mu0 (by assumption) (List.Mem.tail _ (List.Mem.head _)) | exact Ev.flat (ev_nm (by assumption) (by rfl)) (by rfl) | refine ev_add ?_ ?_ | refine ev_sub ?_ ?_ | refine ev_mulL ?_ ?_ | refine ev_mod ?_ ?_ | refine ev_div ?_ ?_ | refine ev_neg ?_ | refine ev_ltI ?_ ?_ | refine ev_abs (evv_built (Sat.cx (by assumption)) (Fns.N (by assumption)).abs.1 (Fns.N (by assumption)).abs.2) ?_ | refine ev_len (evv_built (Sat.cx (by assumption)) (Fns.N (by assumption)).len.1 (Fns.N (by assumption)).len.2) ?_ ?_ | assumption | lia | (rw [ints_len]; lia))); done))) (show EvP _ _ _ _ (some _) (some ((al : Int) + (p.length : Int))) from by show Ev _ _ _ _ _ _ _; (focus ((repeat' (first | exact ev_int | exact ev_none | exact ev_bool | exact ev_str | exact ev_nm (by assumption) (by rfl) | exact ev_rho (by assumption) (by rfl) | exact ev_nm (by assumption) (by assumption) | exact ev_rho (by assumption) (by assumption) | exact ev_nmO (by assumption) (by rfl) | exact ev_old (by assumption) (by rfl) | exact Ev.sub (ev_rho (by assumption) (by rfl)) sub_l | exact ev_mu0 (by assumption) (List.Mem.head _) | exact ev_mu0 (by assumption) (List.Mem.tail _ (List.Mem.head _)) | exact Ev.flat (ev_nm (by assumption) (by rfl)) (by rfl) | refine ev_add ?_ ?_ | refine ev_sub ?_ ?_ | refine ev_mulL ?_ ?_ | refine ev_mod ?_ ?_ | refine ev_div ?_ ?_ | refine ev_neg ?_ | refine ev_ltI ?_ ?_ | refine ev_abs (evv_built (Sat.cx (by assumption)) (Fns.N (by assumption)).abs.1 (Fns.N (by assumption)).abs.2) ?_ | refine ev_len (evv_built (Sat.cx (by assumption)) (Fns.N (by assumption)).len.1 (Fns.N (by assumption)).len.2) ?_ ?_ | assumption | lia | (rw [ints_len]; lia))); done))) (fun i h => by cases h; lia) (fun i h => by cases h; lia) (fun _ _ r => r) (by rw [ints_len]; lia))
      rw [off_self]
      refine tri_cons (tri_assign (d := .int (-1)) (.inl rfl) (fun Kp γ s y => by (focus ((repeat' (first | exact ev_int | exact ev_none | exact ev_bool | exact ev_str | exact ev_nm (by assumption) (by rfl) | exact ev_rho (by assumption) (by rfl) | exact ev_nm (by assumption) (by assumption) | exact ev_rho (by assumption) (by assumption) | exact ev_nmO (by assumption) (by rfl) | exact ev_old (by assumption) (by rfl) | exact Ev.sub (ev_rho (by assumption) (by rfl)) sub_l | exact ev_mu0 (by assumption) (List.Mem.head _) | exact ev_mu0 (by assumption) (List.Mem.tail _ (List.Mem.head _)) | exact Ev.flat (ev_nm (by assumption) (by rfl)) (by rfl) | refine ev_add ?_ ?_ | refine ev_sub ?_ ?_ | refine ev_mulL ?_ ?_ | refine ev_mod ?_ ?_ | refine ev_div ?_ ?_ | refine ev_neg ?_ | refine ev_ltI ?_ ?_ | refine ev_abs (evv_built (Sat.cx (by assumption)) (Fns.N (by assumption)).abs.1 (Fns.N (by assumption)).abs.2) ?_ | refine ev_len (evv_built (Sat.cx (by assumption)) (Fns.N (by assumption)).len.1 (Fns.N (by assumption)).len.2) ?_ ?_ | assumption | lia | (rw [ints_len]; lia))); done))) ?_)
      refine tri_nil (tri_end (ρ' := [(("run" : Str), V.int (-1)), (("mem" : Str), V.old (.lst (zints ms))), (("marked" : Str), V.old (.lst (zints mk)))]) ⟨rfl, rfl, rfl, trivial⟩ ⟨l', rfl, ?_⟩)
      rw [s2]
    have hb : (!decide (p.headD 0 < 0) && (decide ((al : Int) ∈ mk) && true)) = false := by
      by_cases q1 : p.headD 0 < 0
      · rw [decide_eq_true q1]; rfl
      · by_cases q2 : (al : Int) ∈ mk
        · exact absurd ⟨q1, q2⟩ hlv
        · simp [q2]
    rw [hb]
    have en := nxt (freeI p.length) (by rw [if_neg hlv])
    refine tri_cons (tri_if (b := decide (0 ≤ runOf O)) (fun Kp γ s y => by (focus (((first | refine bt_eqI ?_ ?_ | refine bt_neI ?_ ?_ | refine bt_ltI ?_ ?_ | refine bt_leI ?_ ?_ | refine bt_gtI ?_ ?_ | refine bt_geI ?_ ?_) <;> (focus ((repeat' (first | exact ev_int | exact ev_none | exact ev_bool | exact ev_str | exact ev_nm (by assumption) (by rfl) | exact ev_rho (by assumption) (by rfl) | exact ev_nm (by assumption) (by assumption) | exact ev_rho (by assumption) (by assumption) | exact ev_nmO (by assumption) (by rfl) | exact ev_old (by assumption) (by rfl) | exact Ev.sub (ev_rho (by assumption) (by rfl)) sub_l | exact ev_mu0 (by assumption) (List.Mem.head _) | exact ev_mu0 (by assumption) (List.Mem.tail _ (List.Mem.head _)) | exact Ev.flat (ev_nm (by assumption) (by rfl)) (by rfl) | refine ev_add ?_ ?_ | refine ev_sub ?_ ?_ | refine ev_mulL ?_ ?_ | refine ev_mod ?_ ?_ | refine ev_div ?_ ?_ | refine ev_neg ?_ | refine ev_ltI ?_ ?_ | refine ev_abs (evv_built (Sat.cx (by assumption)) (Fns.N (by assumption)).abs.1 (Fns.N (by assumption)).abs.2) ?_ | refine ev_len (evv_built (Sat.cx (by assumption)) (Fns.N (by assumption)).len.1 (Fns.N (by assumption)).len.2) ?_ ?_ | assumption | lia | (rw [ints_len]; lia))); done)))))) ?_)
    by_cases hr : 0 ≤ runOf O
    · rw [decide_eq_true hr]
      obtain ⟨m1, m2, m3⟩ := step_merge hOf hp1 hr
      rw [← en] at m2 m3
      refine tri_cons (tri_setitem (μ₁ := []) (μ₂ := []) (d := .int (O.flatten.getD (runOf O).toNat 0 - (p.length : Int))) (j := runOf O) rfl (fun Kp γ s y => ev_sub (ev_item (X := []) (ds := zints O.flatten) (j := runOf O) (ev_mu0 y (.head _)) (by (focus ((repeat' (first | exact ev_int | exact ev_none | exact ev_bool | exact ev_str | exact ev_nm (by assumption) (by rfl) | exact ev_rho (by assumption) (by rfl) | exact ev_nm (by assumption) (by assumption) | exact ev_rho (by assumption) (by assumption) | exact ev_nmO (by assumption) (by rfl) | exact ev_old (by assumption) (by rfl) | exact Ev.sub (ev_rho (by assumption) (by rfl)) sub_l | exact ev_mu0 (by assumption) (List.Mem.head _) | exact ev_mu0 (by assumption) (List.Mem.tail _ (List.Mem.head _)) | exact Ev.flat (ev_nm (by assumption) (by rfl)) (by rfl) | refine ev_add ?_ ?_ | refine ev_sub ?_ ?_ | refine ev_mulL ?_ ?_ | refine ev_mod ?_ ?_ | refine ev_div ?_ ?_ | refine ev_neg ?_ | refine ev_ltI ?_ ?_ | refine ev_abs (evv_built (Sat.cx (by assumption)) (Fns.N (by assumption)).abs.1 (Fns.N (by assumption)).abs.2) ?_ | refine ev_len (evv_built (Sat.cx (by assumption)) (Fns.N (by assumption)).len.1 (Fns.N (by assumption)).len.2) ?_ ?_ | assumption | lia | (rw [ints_len]; lia))); done))) hr (ints_get hr (by lia)) (by lia)) (by (focus ((repeat' (first | exact ev_int | exact ev_none | exact ev_bool | exact ev_str | exact ev_nm (by assumption) (by rfl) | exact ev_rho (by assumption) (by rfl) | exact ev_nm (by assumption) (by assumption) | exact ev_rho (by assumption) (by assumption) | exact ev_nmO (by assumption) (by rfl) | exact ev_old (by assumption) (by rfl) | exact Ev.sub (ev_rho (by assumption) (by rfl)) sub_l | exact ev_mu0 (by assumption) (List.Mem.head _) | exact ev_mu0 (by assumption) (List.Mem.tail _ (List.Mem.head _)) | exact Ev.flat (ev_nm (by assumption) (by rfl)) (by rfl) | refine ev_add ?_ ?_ | refine ev_sub ?_ ?_ | refine ev_mulL ?_ ?_ | refine ev_mod ?_ ?_ | refine ev_div ?_ ?_ | refine ev_neg ?_ | refine ev_ltI ?_ ?_ | refine ev_abs (evv_built (Sat.cx (by assumption)) (Fns.N (by assumption)).abs.1 (Fns.N (by assumption)).abs.2) ?_ | refine ev_len (evv_built (Sat.cx (by assumption)) (Fns.N (by assumption)).len.1 (Fns.N (by assumption)).len.2) ?_ ?_ | assumption | lia | (rw [ints_len]; lia))); done)))) (fun Kp γ s y => by (focus ((repeat' (first | exact ev_int | exact ev_none | exact ev_bool | exact ev_str | exact ev_nm (by assumption) (by rfl) | exact ev_rho (by assumption) (by rfl) | exact ev_nm (by assumption) (by assumption) | exact ev_rho (by assumption) (by assumption) | exact ev_nmO (by assumption) (by rfl) | exact ev_old (by assumption) (by rfl) | exact Ev.sub (ev_rho (by assumption) (by rfl)) sub_l | exact ev_mu0 (by assumption) (List.Mem.head _) | exact ev_mu0 (by assumption) (List.Mem.tail _ (List.Mem.head _)) | exact Ev.flat (ev_nm (by assumption) (by rfl)) (by rfl) | refine ev_add ?_ ?_ | refine ev_sub ?_ ?_ | refine ev_mulL ?_ ?_ | refine ev_mod ?_ ?_ | refine ev_div ?_ ?_ | refine ev_neg ?_ | refine ev_ltI ?_ ?_ | refine ev_abs (evv_built (Sat.cx (by assumption)) (Fns.N (by assumption)).abs.1 (Fns.N (by assumption)).abs.2) ?_ | refine ev_len (evv_built (Sat.cx (by assumption)) (Fns.N (by assumption)).len.1 (Fns.N (by assumption)).len.2) ?_ ?_ | assumption | lia | (rw [ints_len]; lia))); done))) hr (by lia) (by rw [ints_len]; lia) ?_)
      rw [zset]
      dsimp only [List.nil_append]
      refine tri_cons (tri_assignN (ds := zints (joinP (afterP mk 0 (ps.take (i + 1)))).flatten) (.inl rfl) (fun Kp γ s y => ?_) fun l' => ?_)
      · rw [m2, ← cat_ints, ← zrep, show List.replicate p.length (V.int 0) = List.replicate ((p.length : Int)).toNat (V.int 0) from rfl]
        exact evf_addF y.cx (ev_mu0 y (.head _)) (EvF.ev (evf_mul (y.cx.sub sub_nil) (EvF.ev (evf_list (y.cx.sub sub_nil) (eva_cons ev_int eva_nil))) (by (focus ((repeat' (first | exact ev_int | exact ev_none | exact ev_bool | exact ev_str | exact ev_nm (by assumption) (by rfl) | exact ev_rho (by assumption) (by rfl) | exact ev_nm (by assumption) (by assumption) | exact ev_rho (by assumption) (by assumption) | exact ev_nmO (by assumption) (by rfl) | exact ev_old (by assumption) (by rfl) | exact Ev.sub (ev_rho (by assumption) (by rfl)) sub_l | exact ev_mu0 (by assumption) (List.Mem.head _) | exact ev_mu0 (by assumption) (List.Mem.tail _ (List.Mem.head _)) | exact Ev.flat (ev_nm (by assumption) (by rfl)) (by rfl) | refine ev_add ?_ ?_ | refine ev_sub ?_ ?_ | refine ev_mulL ?_ ?_ | refine ev_mod ?_ ?_ | refine ev_div ?_ ?_ | refine ev_neg ?_ | refine ev_ltI ?_ ?_ | refine ev_abs (evv_built (Sat.cx (by assumption)) (Fns.N (by assumption)).abs.1 (Fns.N (by assumption)).abs.2) ?_ | refine ev_len (evv_built (Sat.cx (by assumption)) (Fns.N (by assumption)).len.1 (Fns.N (by assumption)).len.2) ?_ ?_ | assumption | lia | (rw [ints_len]; lia))); done))) (by lia) (by lia))) (by rw [ints_len, List.length_set, List.length_replicate, Int.toNat_natCast]; lia) flat_ints (by rw [zrep]; exact flat_ints)
      rw [off_self]
      refine tri_nil (tri_nil (tri_end (ρ' := [(("run" : Str), V.int (runOf O)), (("mem" : Str), V.old (.lst (zints ms))), (("marked" : Str), V.old (.lst (zints mk)))]) ⟨rfl, rfl, rfl, trivial⟩ ⟨l', rfl, ?_⟩))
      rw [m3]
    · rw [decide_eq_false hr]
      obtain ⟨m2, m3⟩ := step_start hp1 (by lia : runOf O < 0)
      rw [← en] at m2 m3
      refine tri_cons (tri_assign (d := .int (O.flatten.length : Int)) (.inl rfl) (fun Kp γ s y => by
        rw [← ints_len O.flatten]
        exact ev_len (evv_built y.cx F.N.len.1 F.N.len.2) (ev_mu0 y (.head _)) (by rw [ints_len]; lia)) ?_)
      refine tri_cons (tri_assignN (ds := zints (joinP (afterP mk 0 (ps.take (i + 1)))).flatten) (.inl rfl) (fun Kp γ s y => ?_) fun l' => ?_)
      · rw [m2, show zints (O.flatten ++ (-(p.length : Int) :: List.replicate (p.length - 1) 0)) = (zints O.flatten ++ [V.int (-(p.length : Int))]) ++ List.replicate ((p.length : Int) - 1).toNat (V.int 0) by
          rw [show ((p.length : Int) - 1).toNat = p.length - 1 by lia, zrep]; simp [zints]]
        refine evf_addF y.cx (EvF.ev (evf_addF (y.cx.sub sub_nil) (ev_mu0 y (.head _)) (EvF.ev (evf_list (y.cx.sub sub_nil) (eva_cons (by (focus ((repeat' (first | exact ev_int | exact ev_none | exact ev_bool | exact ev_str | exact ev_nm (by assumption) (by rfl) | exact ev_rho (by assumption) (by rfl) | exact ev_nm (by assumption) (by assumption) | exact ev_rho (by assumption) (by assumption) | exact ev_nmO (by assumption) (by rfl) | exact ev_old (by assumption) (by rfl) | exact Ev.sub (ev_rho (by assumption) (by rfl)) sub_l | exact ev_mu0 (by assumption) (List.Mem.head _) | exact ev_mu0 (by assumption) (List.Mem.tail _ (List.Mem.head _)) | exact Ev.flat (ev_nm (by assumption) (by rfl)) (by rfl) | refine ev_add ?_ ?_ | refine ev_sub ?_ ?_ | refine ev_mulL ?_ ?_ | refine ev_mod ?_ ?_ | refine ev_div ?_ ?_ | refine ev_neg ?_ | refine ev_ltI ?_ ?_ | refine ev_abs (evv_built (Sat.cx (by assumption)) (Fns.N (by assumption)).abs.1 (Fns.N (by assumption)).abs.2) ?_ | refine ev_len (evv_built (Sat.cx (by assumption)) (Fns.N (by assumption)).len.1 (Fns.N (by assumption)).len.2) ?_ ?_ | assumption | lia | (rw [ints_len]; lia))); done))) eva_nil))) (by rw [ints_len, List.length_singleton]; lia) flat_ints (by intro x hx; rw [List.mem_singleton.mp hx]; rfl))) (EvF.ev (evf_mul (y.cx.sub sub_nil) (EvF.ev (evf_list (y.cx.sub sub_nil) (eva_cons ev_int eva_nil))) (by (focus ((repeat' (first | exact ev_int | exact ev_none | exact ev_bool | exact ev_str | exact ev_nm (by assumption) (by rfl) | exact ev_rho (by assumption) (by rfl) | exact ev_nm (by assumption) (by assumption) | exact ev_rho (by assumption) (by assumption) | exact ev_nmO (by assumption) (by rfl) | exact ev_old (by assumption) (by rfl) | exact Ev.sub (ev_rho (by assumption) (by rfl)) sub_l | exact ev_mu0 (by assumption) (List.Mem.head _) | exact ev_mu0 (by assumption) (List.Mem.tail _ (List.Mem.head _)) | exact Ev.flat (ev_nm (by assumption) (by rfl)) (by rfl) | refine ev_add ?_ ?_ | refine ev_sub ?_ ?_ | refine ev_mulL ?_ ?_ | refine ev_mod ?_ ?_ | refine ev_div ?_ ?_ | refine ev_neg ?_ | refine ev_ltI ?_ ?_ | refine ev_abs (evv_built (Sat.cx (by assumption)) (Fns.N (by assumption)).abs.1 (Fns.N (by assumption)).abs.2) ?_ | refine ev_len (evv_built (Sat.cx (by assumption)) (Fns.N (by assumption)).len.1 (Fns.N (by assumption)).len.2) ?_ ?_ | assumption | lia | (rw [ints_len]; lia))); done))) (by lia) (by lia))) (by rw [List.length_append, ints_len, List.length_singleton, List.length_replicate]; lia) ?_ ?_
        · intro x hx
          rcases List.mem_append.mp hx with h | h
          · exact flat_ints x h
          · rw [List.mem_singleton.mp h]; rfl
        · intro x hx
          rw [List.eq_of_mem_replicate hx]; rfl
      rw [off_self]
      refine tri_nil (tri_nil (tri_end (ρ' := [(("run" : Str), V.int (O.flatten.length : Int)), (("mem" : Str), V.old (.lst (zints ms))), (("marked" : Str), V.old (.lst (zints mk)))]) ⟨rfl, rfl, rfl, trivial⟩ ⟨l', rfl, ?_⟩))
      rw [m3]
  · rintro m r ⟨l, rfl, rfl⟩
    rw [List.length_map, blks_length, List.take_length]
    exact tri_cons (tri_ret (fun Kp γ s y => ev_mu y (.head _)) (.inl rfl))


theorem bysweep_c {W : Wd} {f : Addr} {doc pm cdv ct : Value} {an : Option Addr} {k : Nat} (F : Fns W) (hd : W.defs f (fdOf "collected_by_sweeping" (st 10) doc pm an cdv ct)) {ms roots S R : List Int} {ps : List (List Int)} (hm : ms = ps.flatten) (hok : ∀ p ∈ ps, OkP p) (hz : ms.length < 2 ^ 19) (hrl : roots.length < 1000) (hSl : S.length < 1000) (hS : ∀ a ∈ S, 0 ≤ a ∧ a < ms.length ∧ 0 ≤ ms.getD a.toNat 0)
    (c : Closed (fldI ms) roots S) (h1 : Fix (fldI ms) roots R) (h2 : Prod' (fldI ms) roots R) : FnC W (k + 1 + 1 + 1) f [.lst (zints ms), .lst (zints roots)] (.lst (zints (joinP (afterP R 0 ps)).flatten)) := by
  refine fnc_def (ps := ["mem", "roots"]) hd ?_ (by decide) rfl ?_ (by decide) rfl rfl rfl ?_
  · exact bind2 fun _ _ => rfl
  · intro n x hx
    simp only [List.mem_cons, List.not_mem_nil, or_false] at hx
    rcases hx with rfl | rfl <;> exact .inl rfl
  intro A h₀ L X₀ s₀
  exact tri_cons (tri_ret (fun Kp γ s y => ev_fn y F.swept (fun f doc pm an cdv ct h => swept_c F h hm hok hz) sub_r (eva_cons (by (focus ((repeat' (first | exact ev_int | exact ev_none | exact ev_bool | exact ev_str | exact ev_nm (by assumption) (by rfl) | exact ev_rho (by assumption) (by rfl) | exact ev_nm (by assumption) (by assumption) | exact ev_rho (by assumption) (by assumption) | exact ev_nmO (by assumption) (by rfl) | exact ev_old (by assumption) (by rfl) | exact Ev.sub (ev_rho (by assumption) (by rfl)) sub_l | exact ev_mu0 (by assumption) (List.Mem.head _) | exact ev_mu0 (by assumption) (List.Mem.tail _ (List.Mem.head _)) | exact Ev.flat (ev_nm (by assumption) (by rfl)) (by rfl) | refine ev_add ?_ ?_ | refine ev_sub ?_ ?_ | refine ev_mulL ?_ ?_ | refine ev_mod ?_ ?_ | refine ev_div ?_ ?_ | refine ev_neg ?_ | refine ev_ltI ?_ ?_ | refine ev_abs (evv_built (Sat.cx (by assumption)) (Fns.N (by assumption)).abs.1 (Fns.N (by assumption)).abs.2) ?_ | refine ev_len (evv_built (Sat.cx (by assumption)) (Fns.N (by assumption)).len.1 (Fns.N (by assumption)).len.2) ?_ ?_ | assumption | lia | (rw [ints_len]; lia))); done))) (eva_cons (ev_fn (X := []) y F.reach (fun f doc pm an cdv ct h => reach_c F h (by lia) hrl hSl hS c h1 h2) sub_nil (eva_cons (by (focus ((repeat' (first | exact ev_int | exact ev_none | exact ev_bool | exact ev_str | exact ev_nm (by assumption) (by rfl) | exact ev_rho (by assumption) (by rfl) | exact ev_nm (by assumption) (by assumption) | exact ev_rho (by assumption) (by assumption) | exact ev_nmO (by assumption) (by rfl) | exact ev_old (by assumption) (by rfl) | exact Ev.sub (ev_rho (by assumption) (by rfl)) sub_l | exact ev_mu0 (by assumption) (List.Mem.head _) | exact ev_mu0 (by assumption) (List.Mem.tail _ (List.Mem.head _)) | exact Ev.flat (ev_nm (by assumption) (by rfl)) (by rfl) | refine ev_add ?_ ?_ | refine ev_sub ?_ ?_ | refine ev_mulL ?_ ?_ | refine ev_mod ?_ ?_ | refine ev_div ?_ ?_ | refine ev_neg ?_ | refine ev_ltI ?_ ?_ | refine ev_abs (evv_built (Sat.cx (by assumption)) (Fns.N (by assumption)).abs.1 (Fns.N (by assumption)).abs.2) ?_ | refine ev_len (evv_built (Sat.cx (by assumption)) (Fns.N (by assumption)).len.1 (Fns.N (by assumption)).len.2) ?_ ?_ | assumption | lia | (rw [ints_len]; lia))); done))) (eva_cons (by (focus ((repeat' (first | exact ev_int | exact ev_none | exact ev_bool | exact ev_str | exact ev_nm (by assumption) (by rfl) | exact ev_rho (by assumption) (by rfl) | exact ev_nm (by assumption) (by assumption) | exact ev_rho (by assumption) (by assumption) | exact ev_nmO (by assumption) (by rfl) | exact ev_old (by assumption) (by rfl) | exact Ev.sub (ev_rho (by assumption) (by rfl)) sub_l | exact ev_mu0 (by assumption) (List.Mem.head _) | exact ev_mu0 (by assumption) (List.Mem.tail _ (List.Mem.head _)) | exact Ev.flat (ev_nm (by assumption) (by rfl)) (by rfl) | refine ev_add ?_ ?_ | refine ev_sub ?_ ?_ | refine ev_mulL ?_ ?_ | refine ev_mod ?_ ?_ | refine ev_div ?_ ?_ | refine ev_neg ?_ | refine ev_ltI ?_ ?_ | refine ev_abs (evv_built (Sat.cx (by assumption)) (Fns.N (by assumption)).abs.1 (Fns.N (by assumption)).abs.2) ?_ | refine ev_len (evv_built (Sat.cx (by assumption)) (Fns.N (by assumption)).len.1 (Fns.N (by assumption)).len.2) ?_ ?_ | assumption | lia | (rw [ints_len]; lia))); done))) eva_nil))) eva_nil))) (.inl rfl))
theorem ptr_c {W : Wd} {f : Addr} {doc pm cdv ct : Value} {an : Option Addr} {k : Nat} (F : Fns W) (hd : W.defs f (fdOf "pointer_to" (st 3) doc pm an cdv ct)) {a : Int} : FnC W (k + 1) f [.int a] (.int (2 * a + 1)) := by
  refine fnc_def (ps := ["a"]) hd ?_ (by decide) rfl ?_ (by decide) rfl rfl rfl ?_
  · exact bind1 fun _ => rfl
  · intro n x hx
    rw [List.mem_singleton.mp hx]; exact .inl rfl
  · intro A h₀ L X₀ s₀
    exact tri_cons (tri_ret (fun Kp γ s y => by (focus ((repeat' (first | exact ev_int | exact ev_none | exact ev_bool | exact ev_str | exact ev_nm (by assumption) (by rfl) | exact ev_rho (by assumption) (by rfl) | exact ev_nm (by assumption) (by assumption) | exact ev_rho (by assumption) (by assumption) | exact ev_nmO (by assumption) (by rfl) | exact ev_old (by assumption) (by rfl) | exact Ev.sub (ev_rho (by assumption) (by rfl)) sub_l | exact ev_mu0 (by assumption) (List.Mem.head _) | exact ev_mu0 (by assumption) (List.Mem.tail _ (List.Mem.head _)) | exact Ev.flat (ev_nm (by assumption) (by rfl)) (by rfl) | refine ev_add ?_ ?_ | refine ev_sub ?_ ?_ | refine ev_mulL ?_ ?_ | refine ev_mod ?_ ?_ | refine ev_div ?_ ?_ | refine ev_neg ?_ | refine ev_ltI ?_ ?_ | refine ev_abs (evv_built (Sat.cx (by assumption)) (Fns.N (by assumption)).abs.1 (Fns.N (by assumption)).abs.2) ?_ | refine ev_len (evv_built (Sat.cx (by assumption)) (Fns.N (by assumption)).len.1 (Fns.N (by assumption)).len.2) ?_ ?_ | assumption | lia | (rw [ints_len]; lia))); done))) (.inl rfl))

noncomputable def blkI (m : List Int) (a : Int) : List Int := (m.drop a.toNat).take (m.getD a.toNat 0 + 1).toNat
/-- what forwarded gives back -/
inductive Fw (m N F : List Int) (top w : Int) : List Int → List Int → Int → Int → Prop
  | num : w % 2 ≠ 1 → Fw m N F top w N F top w
  | old : w % 2 = 1 → 0 ≤ w / 2 → w / 2 < F.length → 0 ≤ F.getD (w / 2).toNat 0 → Fw m N F top w N F top (2 * F.getD (w / 2).toNat 0 + 1)
  | new : w % 2 = 1 → 0 ≤ w / 2 → w / 2 < F.length → F.getD (w / 2).toNat 0 < 0 → 0 ≤ top → 0 ≤ m.getD (w / 2).toNat 0 → w / 2 + m.getD (w / 2).toNat 0 < m.length → top + m.getD (w / 2).toNat 0 < N.length →
      Fw m N F top w (wr N top.toNat (blkI m (w / 2))) (F.set (w / 2).toNat top) (top + m.getD (w / 2).toNat 0 + 1) (2 * top + 1)

set_option maxHeartbeats 4000000 in
theorem forw_c {W : Wd} {f : Addr} {doc pm cdv ct : Value} {an : Option Addr} {k : Nat} (F : Fns W) (hd : W.defs f (fdOf "forwarded" (st 11) doc pm an cdv ct)) {m N Fo N' Fo' : List Int} {top w top' w' : Int} (hw : Fw m N Fo top w N' Fo' top' w') (hz : m.length < 2 ^ 19) (hzN : N.length < 2 ^ 19) (hzF : Fo.length < 2 ^ 19) :
    FnC W (k + 1 + 1) f [.lst (zints m), .lst (zints N), .lst (zints Fo), .int top, .int w] (.two (zints N') (zints Fo') [.int top', .int w']) := by
  refine fnc_def (ps := ["mem", "new", "forward", "top", "w"]) hd ?_ (by decide) rfl ?_ (by decide) rfl rfl rfl ?_
  · intro vs hv
    obtain ⟨a, r, rfl, h1⟩ := len_cons hv
    obtain ⟨b, r, rfl, h2⟩ := len_cons h1
    obtain ⟨c, r, rfl, h3⟩ := len_cons h2
    obtain ⟨d, r, rfl, h4⟩ := len_cons h3
    obtain ⟨e, r, rfl, h5⟩ := len_cons h4
    obtain rfl := List.eq_nil_of_length_eq_zero h5
    rfl
  · intro n x hx
    simp only [List.mem_cons, List.not_mem_nil, or_false] at hx
    rcases hx with rfl | rfl | rfl | rfl | rfl <;> exact .inl rfl
  intro A h₀ L X₀ s₀
  have hsl : (2 : Nat) ^ 20 ≤ sizeLine := by decide
  refine tri_cons (tri_assignR (ρ' := [(("mem" : Str), V.old (.lst (zints m))), (("forward" : Str), V.old (.lst (zints Fo))), (("top" : Str), V.int top), (("w" : Str), V.int w)]) (ds := zints N) (.inl rfl) (fun Kp γ s y => evf_copy y.cx (evv_built y.cx F.N.list.1 F.N.list.2) (Y := []) (by (focus ((repeat' (first | exact ev_int | exact ev_none | exact ev_bool | exact ev_str | exact ev_nm (by assumption) (by rfl) | exact ev_rho (by assumption) (by rfl) | exact ev_nm (by assumption) (by assumption) | exact ev_rho (by assumption) (by assumption) | exact ev_nmO (by assumption) (by rfl) | exact ev_old (by assumption) (by rfl) | exact Ev.sub (ev_rho (by assumption) (by rfl)) sub_l | exact ev_mu0 (by assumption) (List.Mem.head _) | exact ev_mu0 (by assumption) (List.Mem.tail _ (List.Mem.head _)) | exact Ev.flat (ev_nm (by assumption) (by rfl)) (by rfl) | refine ev_add ?_ ?_ | refine ev_sub ?_ ?_ | refine ev_mulL ?_ ?_ | refine ev_mod ?_ ?_ | refine ev_div ?_ ?_ | refine ev_neg ?_ | refine ev_ltI ?_ ?_ | refine ev_abs (evv_built (Sat.cx (by assumption)) (Fns.N (by assumption)).abs.1 (Fns.N (by assumption)).abs.2) ?_ | refine ev_len (evv_built (Sat.cx (by assumption)) (Fns.N (by assumption)).len.1 (Fns.N (by assumption)).len.2) ?_ ?_ | assumption | lia | (rw [ints_len]; lia))); done))) (fun _ _ r => r.flat flat_ints) (by rw [ints_len]; lia)) ⟨rfl, rfl, rfl, rfl, trivial⟩ fun l1 => ?_)
  rw [show Mu.off [] ("new" : Str) = [] from rfl]
  refine tri_cons (tri_assignR (ρ' := [(("mem" : Str), V.old (.lst (zints m))), (("top" : Str), V.int top), (("w" : Str), V.int w)]) (ds := zints Fo) (.inl rfl) (fun Kp γ s y => evf_copy y.cx (evv_built y.cx F.N.list.1 F.N.list.2) (Y := []) (by (focus ((repeat' (first | exact ev_int | exact ev_none | exact ev_bool | exact ev_str | exact ev_nm (by assumption) (by rfl) | exact ev_rho (by assumption) (by rfl) | exact ev_nm (by assumption) (by assumption) | exact ev_rho (by assumption) (by assumption) | exact ev_nmO (by assumption) (by rfl) | exact ev_old (by assumption) (by rfl) | exact Ev.sub (ev_rho (by assumption) (by rfl)) sub_l | exact ev_mu0 (by assumption) (List.Mem.head _) | exact ev_mu0 (by assumption) (List.Mem.tail _ (List.Mem.head _)) | exact Ev.flat (ev_nm (by assumption) (by rfl)) (by rfl) | refine ev_add ?_ ?_ | refine ev_sub ?_ ?_ | refine ev_mulL ?_ ?_ | refine ev_mod ?_ ?_ | refine ev_div ?_ ?_ | refine ev_neg ?_ | refine ev_ltI ?_ ?_ | refine ev_abs (evv_built (Sat.cx (by assumption)) (Fns.N (by assumption)).abs.1 (Fns.N (by assumption)).abs.2) ?_ | refine ev_len (evv_built (Sat.cx (by assumption)) (Fns.N (by assumption)).len.1 (Fns.N (by assumption)).len.2) ?_ ?_ | assumption | lia | (rw [ints_len]; lia))); done))) (fun _ _ r => r.flat flat_ints) (by rw [ints_len]; lia)) ⟨rfl, rfl, rfl, trivial⟩ fun l2 => ?_)
  rw [Mu.off_none (notin rfl)]
  have ep : ∀ {Kp γ s p q r}, Sat ⟨W, k + 1, A, h₀, callEnvC (fdOf "forwarded" (st 11) doc pm an cdv ct) L f, X₀, s₀⟩ Kp γ [(("forward" : Str), l2, zints Fo), (("new" : Str), l1, zints N)] [(("mem" : Str), V.old (.lst (zints m))), (("top" : Str), V.int top), (("w" : Str), V.int w)] s → Ev W A (callEnvC (fdOf "forwarded" (st 11) doc pm an cdv ct) L f) [] s.heap (.Call (.Name "is_pointer" p) [.Name "w" q] [] r) (.bool (decide (w % 2 = 1))) := fun y =>
    ev_fn (X := []) y F.isptr (fun f doc pm an cdv ct h => isptr_c F h) sub_nil (eva_cons (ev_nm y rfl) eva_nil)
  refine tri_cons (tri_if (b := !decide (w % 2 = 1)) (fun Kp γ s y => bt_not (bt_val (ep y))) ?_)
  cases hw with
  | num h =>
    rw [decide_eq_false h]
    exact tri_cons (tri_ret (es_two (.tail _ (.head _)) (.head _) (by decide) (fun Kp γ s y => eva_cons (by (focus ((repeat' (first | exact ev_int | exact ev_none | exact ev_bool | exact ev_str | exact ev_nm (by assumption) (by rfl) | exact ev_rho (by assumption) (by rfl) | exact ev_nm (by assumption) (by assumption) | exact ev_rho (by assumption) (by assumption) | exact ev_nmO (by assumption) (by rfl) | exact ev_old (by assumption) (by rfl) | exact Ev.sub (ev_rho (by assumption) (by rfl)) sub_l | exact ev_mu0 (by assumption) (List.Mem.head _) | exact ev_mu0 (by assumption) (List.Mem.tail _ (List.Mem.head _)) | exact Ev.flat (ev_nm (by assumption) (by rfl)) (by rfl) | refine ev_add ?_ ?_ | refine ev_sub ?_ ?_ | refine ev_mulL ?_ ?_ | refine ev_mod ?_ ?_ | refine ev_div ?_ ?_ | refine ev_neg ?_ | refine ev_ltI ?_ ?_ | refine ev_abs (evv_built (Sat.cx (by assumption)) (Fns.N (by assumption)).abs.1 (Fns.N (by assumption)).abs.2) ?_ | refine ev_len (evv_built (Sat.cx (by assumption)) (Fns.N (by assumption)).len.1 (Fns.N (by assumption)).len.2) ?_ ?_ | assumption | lia | (rw [ints_len]; lia))); done))) (eva_cons (by (focus ((repeat' (first | exact ev_int | exact ev_none | exact ev_bool | exact ev_str | exact ev_nm (by assumption) (by rfl) | exact ev_rho (by assumption) (by rfl) | exact ev_nm (by assumption) (by assumption) | exact ev_rho (by assumption) (by assumption) | exact ev_nmO (by assumption) (by rfl) | exact ev_old (by assumption) (by rfl) | exact Ev.sub (ev_rho (by assumption) (by rfl)) sub_l | exact ev_mu0 (by assumption) (List.Mem.head _) | exact ev_mu0 (by assumption) (List.Mem.tail _ (List.Mem.head _)) | exact Ev.flat (ev_nm (by assumption) (by rfl)) (by rfl) | refine ev_add ?_ ?_ | refine ev_sub ?_ ?_ | refine ev_mulL ?_ ?_ | refine ev_mod ?_ ?_ | refine ev_div ?_ ?_ | refine ev_neg ?_ | refine ev_ltI ?_ ?_ | refine ev_abs (evv_built (Sat.cx (by assumption)) (Fns.N (by assumption)).abs.1 (Fns.N (by assumption)).abs.2) ?_ | refine ev_len (evv_built (Sat.cx (by assumption)) (Fns.N (by assumption)).len.1 (Fns.N (by assumption)).len.2) ?_ ?_ | assumption | lia | (rw [ints_len]; lia))); done))) eva_nil)) (show (4 : Nat) ≤ sizeLine by decide)) (.inl rfl))
  | old h h0 h1 h2 =>
    rw [decide_eq_true h]
    refine tri_nil (tri_cons (tri_assign (d := .int (w / 2)) (.inl rfl) (fun Kp γ s y => (ev_fn (X := []) y F.addr (fun f doc pm an cdv ct h => addr_c F h) sub_nil (eva_cons (by (focus ((repeat' (first | exact ev_int | exact ev_none | exact ev_bool | exact ev_str | exact ev_nm (by assumption) (by rfl) | exact ev_rho (by assumption) (by rfl) | exact ev_nm (by assumption) (by assumption) | exact ev_rho (by assumption) (by assumption) | exact ev_nmO (by assumption) (by rfl) | exact ev_old (by assumption) (by rfl) | exact Ev.sub (ev_rho (by assumption) (by rfl)) sub_l | exact ev_mu0 (by assumption) (List.Mem.head _) | exact ev_mu0 (by assumption) (List.Mem.tail _ (List.Mem.head _)) | exact Ev.flat (ev_nm (by assumption) (by rfl)) (by rfl) | refine ev_add ?_ ?_ | refine ev_sub ?_ ?_ | refine ev_mulL ?_ ?_ | refine ev_mod ?_ ?_ | refine ev_div ?_ ?_ | refine ev_neg ?_ | refine ev_ltI ?_ ?_ | refine ev_abs (evv_built (Sat.cx (by assumption)) (Fns.N (by assumption)).abs.1 (Fns.N (by assumption)).abs.2) ?_ | refine ev_len (evv_built (Sat.cx (by assumption)) (Fns.N (by assumption)).len.1 (Fns.N (by assumption)).len.2) ?_ ?_ | assumption | lia | (rw [ints_len]; lia))); done))) eva_nil)).flat rfl) ?_))
    have fo : ∀ {Kp γ s p q r} {F₂ : List Int} {N₂ : List Int} {ρ : Rho} {d : Int}, ρ.lookup ("a" : Str) = some (V.int (w / 2)) → (w / 2 < F₂.length) → d = F₂.getD (w / 2).toNat 0 → Sat ⟨W, k + 1, A, h₀, callEnvC (fdOf "forwarded" (st 11) doc pm an cdv ct) L f, X₀, s₀⟩ Kp γ [(("forward" : Str), l2, zints F₂), (("new" : Str), l1, zints N₂)] ρ s → Ev W A (callEnvC (fdOf "forwarded" (st 11) doc pm an cdv ct) L f) [] s.heap (.Subscript (.Name "forward" p) (.Name "a" q) r) (.int d) := fun ha hl hd y => by
      subst hd
      exact ev_item (ds := zints _) (j := w / 2) (ev_mu0 y (.head _)) (ev_nm y ha) h0 (ints_get h0 hl) (by lia)
    refine tri_cons (tri_if (b := decide (Fo.getD (w / 2).toNat 0 < 0)) (fun Kp γ s y => bt_ltI (fo rfl h1 rfl y) ev_int) ?_)
    rw [decide_eq_false (by lia)]
    exact tri_nil (tri_cons (tri_ret (es_two (.tail _ (.head _)) (.head _) (by decide) (fun Kp γ s y => eva_cons (by (focus ((repeat' (first | exact ev_int | exact ev_none | exact ev_bool | exact ev_str | exact ev_nm (by assumption) (by rfl) | exact ev_rho (by assumption) (by rfl) | exact ev_nm (by assumption) (by assumption) | exact ev_rho (by assumption) (by assumption) | exact ev_nmO (by assumption) (by rfl) | exact ev_old (by assumption) (by rfl) | exact Ev.sub (ev_rho (by assumption) (by rfl)) sub_l | exact ev_mu0 (by assumption) (List.Mem.head _) | exact ev_mu0 (by assumption) (List.Mem.tail _ (List.Mem.head _)) | exact Ev.flat (ev_nm (by assumption) (by rfl)) (by rfl) | refine ev_add ?_ ?_ | refine ev_sub ?_ ?_ | refine ev_mulL ?_ ?_ | refine ev_mod ?_ ?_ | refine ev_div ?_ ?_ | refine ev_neg ?_ | refine ev_ltI ?_ ?_ | refine ev_abs (evv_built (Sat.cx (by assumption)) (Fns.N (by assumption)).abs.1 (Fns.N (by assumption)).abs.2) ?_ | refine ev_len (evv_built (Sat.cx (by assumption)) (Fns.N (by assumption)).len.1 (Fns.N (by assumption)).len.2) ?_ ?_ | assumption | lia | (rw [ints_len]; lia))); done))) (eva_cons ((ev_fn (X := []) y F.ptr (fun f doc pm an cdv ct h => ptr_c F h) sub_nil (eva_cons (fo rfl h1 rfl y) eva_nil)).flat rfl) eva_nil)) (show (4 : Nat) ≤ sizeLine by decide)) (.inl rfl)))
  | new h h0 h1 h2 h3 h4 h5 h6 =>
    rw [decide_eq_true h]
    refine tri_nil (tri_cons (tri_assign (d := .int (w / 2)) (.inl rfl) (fun Kp γ s y => (ev_fn (X := []) y F.addr (fun f doc pm an cdv ct h => addr_c F h) sub_nil (eva_cons (by (focus ((repeat' (first | exact ev_int | exact ev_none | exact ev_bool | exact ev_str | exact ev_nm (by assumption) (by rfl) | exact ev_rho (by assumption) (by rfl) | exact ev_nm (by assumption) (by assumption) | exact ev_rho (by assumption) (by assumption) | exact ev_nmO (by assumption) (by rfl) | exact ev_old (by assumption) (by rfl) | exact Ev.sub (ev_rho (by assumption) (by rfl)) sub_l | exact ev_mu0 (by assumption) (List.Mem.head _) | exact ev_mu0 (by assumption) (List.Mem.tail _ (List.Mem.head _)) | exact Ev.flat (ev_nm (by assumption) (by rfl)) (by rfl) | refine ev_add ?_ ?_ | refine ev_sub ?_ ?_ | refine ev_mulL ?_ ?_ | refine ev_mod ?_ ?_ | refine ev_div ?_ ?_ | refine ev_neg ?_ | refine ev_ltI ?_ ?_ | refine ev_abs (evv_built (Sat.cx (by assumption)) (Fns.N (by assumption)).abs.1 (Fns.N (by assumption)).abs.2) ?_ | refine ev_len (evv_built (Sat.cx (by assumption)) (Fns.N (by assumption)).len.1 (Fns.N (by assumption)).len.2) ?_ ?_ | assumption | lia | (rw [ints_len]; lia))); done))) eva_nil)).flat rfl) ?_))
    generalize hv : w / 2 = a at h0 h1 h2 h4 h5 h6 ⊢
    obtain ⟨tn, rfl⟩ := Int.eq_ofNat_of_zero_le h3
    have fo : ∀ {Kp γ s p q r} {F₂ : List Int} {N₂ : List Int} {ρ : Rho} {d : Int}, ρ.lookup ("a" : Str) = some (V.int a) → a < F₂.length → d = F₂.getD a.toNat 0 → Sat ⟨W, k + 1, A, h₀, callEnvC (fdOf "forwarded" (st 11) doc pm an cdv ct) L f, X₀, s₀⟩ Kp γ [(("forward" : Str), l2, zints F₂), (("new" : Str), l1, zints N₂)] ρ s → Ev W A (callEnvC (fdOf "forwarded" (st 11) doc pm an cdv ct) L f) [] s.heap (.Subscript (.Name "forward" p) (.Name "a" q) r) (.int d) := fun ha hl hd y => by
      subst hd
      exact ev_item (ds := zints _) (j := a) (ev_mu0 y (.head _)) (ev_nm y ha) h0 (ints_get h0 hl) (by lia)
    have hbl : (blkI m a).length = (m.getD a.toNat 0 + 1).toNat := by unfold blkI; rw [List.length_take, List.length_drop]; lia
    refine tri_cons (tri_if (b := decide (Fo.getD a.toNat 0 < 0)) (fun Kp γ s y => bt_ltI (fo rfl h1 rfl y) ev_int) ?_)
    rw [decide_eq_true h2]
    refine tri_cons (tri_forR (N := m.getD a.toNat 0 + 1) (X := []) (fun j μ ρ => μ = [(("forward" : Str), l2, zints Fo), (("new" : Str), l1, zints (wr N tn ((blkI m a).take j)))] ∧ ρ = [(("a" : Str), V.int a), (("mem" : Str), V.old (.lst (zints m))), (("top" : Str), V.int (tn : Int)), (("w" : Str), V.int w)]) (.inl rfl) (fun Kp γ s y => evv_built y.cx F.N.range.1 F.N.range.2) (fun Kp γ s y => ev_add (ev_item (ds := zints m) (j := a) (by (focus ((repeat' (first | exact ev_int | exact ev_none | exact ev_bool | exact ev_str | exact ev_nm (by assumption) (by rfl) | exact ev_rho (by assumption) (by rfl) | exact ev_nm (by assumption) (by assumption) | exact ev_rho (by assumption) (by assumption) | exact ev_nmO (by assumption) (by rfl) | exact ev_old (by assumption) (by rfl) | exact Ev.sub (ev_rho (by assumption) (by rfl)) sub_l | exact ev_mu0 (by assumption) (List.Mem.head _) | exact ev_mu0 (by assumption) (List.Mem.tail _ (List.Mem.head _)) | exact Ev.flat (ev_nm (by assumption) (by rfl)) (by rfl) | refine ev_add ?_ ?_ | refine ev_sub ?_ ?_ | refine ev_mulL ?_ ?_ | refine ev_mod ?_ ?_ | refine ev_div ?_ ?_ | refine ev_neg ?_ | refine ev_ltI ?_ ?_ | refine ev_abs (evv_built (Sat.cx (by assumption)) (Fns.N (by assumption)).abs.1 (Fns.N (by assumption)).abs.2) ?_ | refine ev_len (evv_built (Sat.cx (by assumption)) (Fns.N (by assumption)).len.1 (Fns.N (by assumption)).len.2) ?_ ?_ | assumption | lia | (rw [ints_len]; lia))); done))) (by (focus ((repeat' (first | exact ev_int | exact ev_none | exact ev_bool | exact ev_str | exact ev_nm (by assumption) (by rfl) | exact ev_rho (by assumption) (by rfl) | exact ev_nm (by assumption) (by assumption) | exact ev_rho (by assumption) (by assumption) | exact ev_nmO (by assumption) (by rfl) | exact ev_old (by assumption) (by rfl) | exact Ev.sub (ev_rho (by assumption) (by rfl)) sub_l | exact ev_mu0 (by assumption) (List.Mem.head _) | exact ev_mu0 (by assumption) (List.Mem.tail _ (List.Mem.head _)) | exact Ev.flat (ev_nm (by assumption) (by rfl)) (by rfl) | refine ev_add ?_ ?_ | refine ev_sub ?_ ?_ | refine ev_mulL ?_ ?_ | refine ev_mod ?_ ?_ | refine ev_div ?_ ?_ | refine ev_neg ?_ | refine ev_ltI ?_ ?_ | refine ev_abs (evv_built (Sat.cx (by assumption)) (Fns.N (by assumption)).abs.1 (Fns.N (by assumption)).abs.2) ?_ | refine ev_len (evv_built (Sat.cx (by assumption)) (Fns.N (by assumption)).len.1 (Fns.N (by assumption)).len.2) ?_ ?_ | assumption | lia | (rw [ints_len]; lia))); done))) h0 (ints_get h0 (by lia)) (by lia)) ev_int) (by lia) (by lia) ⟨by rw [List.take_zero, wr_nil], rfl⟩ ?_ ?_ ?_)
    · rintro i μ' ρ' ⟨rfl, _⟩
      rfl
    · rintro j μ' ρ' hj ⟨rfl, rfl⟩
      have hjb : j < (blkI m a).length := by rw [hbl]; exact hj
      have hjl : ((blkI m a).take j).length = j := by rw [List.length_take]; lia
      refine tri_cons (tri_setitem (μ₁ := [(("forward" : Str), l2, zints Fo)]) (μ₂ := []) (d := .int (m.getD (a + (j : Int)).toNat 0)) (j := (tn : Int) + (j : Int)) rfl (fun Kp γ s y => (ev_item (X := []) (ds := zints m) (j := a + (j : Int)) (by (focus ((repeat' (first | exact ev_int | exact ev_none | exact ev_bool | exact ev_str | exact ev_nm (by assumption) (by rfl) | exact ev_rho (by assumption) (by rfl) | exact ev_nm (by assumption) (by assumption) | exact ev_rho (by assumption) (by assumption) | exact ev_nmO (by assumption) (by rfl) | exact ev_old (by assumption) (by rfl) | exact Ev.sub (ev_rho (by assumption) (by rfl)) sub_l | exact ev_mu0 (by assumption) (List.Mem.head _) | exact ev_mu0 (by assumption) (List.Mem.tail _ (List.Mem.head _)) | exact Ev.flat (ev_nm (by assumption) (by rfl)) (by rfl) | refine ev_add ?_ ?_ | refine ev_sub ?_ ?_ | refine ev_mulL ?_ ?_ | refine ev_mod ?_ ?_ | refine ev_div ?_ ?_ | refine ev_neg ?_ | refine ev_ltI ?_ ?_ | refine ev_abs (evv_built (Sat.cx (by assumption)) (Fns.N (by assumption)).abs.1 (Fns.N (by assumption)).abs.2) ?_ | refine ev_len (evv_built (Sat.cx (by assumption)) (Fns.N (by assumption)).len.1 (Fns.N (by assumption)).len.2) ?_ ?_ | assumption | lia | (rw [ints_len]; lia))); done))) (by (focus ((repeat' (first | exact ev_int | exact ev_none | exact ev_bool | exact ev_str | exact ev_nm (by assumption) (by rfl) | exact ev_rho (by assumption) (by rfl) | exact ev_nm (by assumption) (by assumption) | exact ev_rho (by assumption) (by assumption) | exact ev_nmO (by assumption) (by rfl) | exact ev_old (by assumption) (by rfl) | exact Ev.sub (ev_rho (by assumption) (by rfl)) sub_l | exact ev_mu0 (by assumption) (List.Mem.head _) | exact ev_mu0 (by assumption) (List.Mem.tail _ (List.Mem.head _)) | exact Ev.flat (ev_nm (by assumption) (by rfl)) (by rfl) | refine ev_add ?_ ?_ | refine ev_sub ?_ ?_ | refine ev_mulL ?_ ?_ | refine ev_mod ?_ ?_ | refine ev_div ?_ ?_ | refine ev_neg ?_ | refine ev_ltI ?_ ?_ | refine ev_abs (evv_built (Sat.cx (by assumption)) (Fns.N (by assumption)).abs.1 (Fns.N (by assumption)).abs.2) ?_ | refine ev_len (evv_built (Sat.cx (by assumption)) (Fns.N (by assumption)).len.1 (Fns.N (by assumption)).len.2) ?_ ?_ | assumption | lia | (rw [ints_len]; lia))); done))) (by lia) (ints_get (by lia) (by lia)) (by lia)).flat rfl) (fun Kp γ s y => by (focus ((repeat' (first | exact ev_int | exact ev_none | exact ev_bool | exact ev_str | exact ev_nm (by assumption) (by rfl) | exact ev_rho (by assumption) (by rfl) | exact ev_nm (by assumption) (by assumption) | exact ev_rho (by assumption) (by assumption) | exact ev_nmO (by assumption) (by rfl) | exact ev_old (by assumption) (by rfl) | exact Ev.sub (ev_rho (by assumption) (by rfl)) sub_l | exact ev_mu0 (by assumption) (List.Mem.head _) | exact ev_mu0 (by assumption) (List.Mem.tail _ (List.Mem.head _)) | exact Ev.flat (ev_nm (by assumption) (by rfl)) (by rfl) | refine ev_add ?_ ?_ | refine ev_sub ?_ ?_ | refine ev_mulL ?_ ?_ | refine ev_mod ?_ ?_ | refine ev_div ?_ ?_ | refine ev_neg ?_ | refine ev_ltI ?_ ?_ | refine ev_abs (evv_built (Sat.cx (by assumption)) (Fns.N (by assumption)).abs.1 (Fns.N (by assumption)).abs.2) ?_ | refine ev_len (evv_built (Sat.cx (by assumption)) (Fns.N (by assumption)).len.1 (Fns.N (by assumption)).len.2) ?_ ?_ | assumption | lia | (rw [ints_len]; lia))); done))) (by lia) (by lia) (by rw [ints_len, wr_len (by rw [hjl]; lia)]; lia) ?_)
      rw [zset]
      have e1 : (wr N tn ((blkI m a).take j)).set ((tn : Int) + (j : Int)).toNat (m.getD (a + (j : Int)).toNat 0) = wr N tn ((blkI m a).take (j + 1)) := by
        have q := wr_snoc (m := N) (a := tn) (xs := (blkI m a).take j) (x := (blkI m a)[j]) (by rw [hjl]; lia)
        rw [hjl] at q
        rw [show ((tn : Int) + (j : Int)).toNat = tn + j by lia, List.take_succ_eq_append_getElem hjb, ← q]
        have e2 : (blkI m a)[j]? = m[a.toNat + j]? := by unfold blkI; rw [List.getElem?_take_of_lt hj, List.getElem?_drop]
        rw [List.getElem?_eq_getElem hjb] at e2
        rw [List.getD_eq_getElem?_getD, show (a + (j : Int)).toNat = a.toNat + j by lia, ← e2]; rfl
      rw [e1]
      exact tri_end (ρ' := [(("a" : Str), V.int a), (("mem" : Str), V.old (.lst (zints m))), (("top" : Str), V.int (tn : Int)), (("w" : Str), V.int w)]) ⟨rfl, rfl, rfl, rfl, trivial⟩ ⟨rfl, rfl⟩
    · rintro μ' ρ' ⟨rfl, rfl⟩
      rw [List.take_of_length_le (by rw [hbl]; exact Nat.le_refl _)]
      refine tri_cons (tri_setitem (μ₁ := []) (μ₂ := [(("new" : Str), l1, zints (wr N tn (blkI m a)))]) (d := .int (tn : Int)) (j := a) rfl (fun Kp γ s y => by (focus ((repeat' (first | exact ev_int | exact ev_none | exact ev_bool | exact ev_str | exact ev_nm (by assumption) (by rfl) | exact ev_rho (by assumption) (by rfl) | exact ev_nm (by assumption) (by assumption) | exact ev_rho (by assumption) (by assumption) | exact ev_nmO (by assumption) (by rfl) | exact ev_old (by assumption) (by rfl) | exact Ev.sub (ev_rho (by assumption) (by rfl)) sub_l | exact ev_mu0 (by assumption) (List.Mem.head _) | exact ev_mu0 (by assumption) (List.Mem.tail _ (List.Mem.head _)) | exact Ev.flat (ev_nm (by assumption) (by rfl)) (by rfl) | refine ev_add ?_ ?_ | refine ev_sub ?_ ?_ | refine ev_mulL ?_ ?_ | refine ev_mod ?_ ?_ | refine ev_div ?_ ?_ | refine ev_neg ?_ | refine ev_ltI ?_ ?_ | refine ev_abs (evv_built (Sat.cx (by assumption)) (Fns.N (by assumption)).abs.1 (Fns.N (by assumption)).abs.2) ?_ | refine ev_len (evv_built (Sat.cx (by assumption)) (Fns.N (by assumption)).len.1 (Fns.N (by assumption)).len.2) ?_ ?_ | assumption | lia | (rw [ints_len]; lia))); done))) (fun Kp γ s y => by (focus ((repeat' (first | exact ev_int | exact ev_none | exact ev_bool | exact ev_str | exact ev_nm (by assumption) (by rfl) | exact ev_rho (by assumption) (by rfl) | exact ev_nm (by assumption) (by assumption) | exact ev_rho (by assumption) (by assumption) | exact ev_nmO (by assumption) (by rfl) | exact ev_old (by assumption) (by rfl) | exact Ev.sub (ev_rho (by assumption) (by rfl)) sub_l | exact ev_mu0 (by assumption) (List.Mem.head _) | exact ev_mu0 (by assumption) (List.Mem.tail _ (List.Mem.head _)) | exact Ev.flat (ev_nm (by assumption) (by rfl)) (by rfl) | refine ev_add ?_ ?_ | refine ev_sub ?_ ?_ | refine ev_mulL ?_ ?_ | refine ev_mod ?_ ?_ | refine ev_div ?_ ?_ | refine ev_neg ?_ | refine ev_ltI ?_ ?_ | refine ev_abs (evv_built (Sat.cx (by assumption)) (Fns.N (by assumption)).abs.1 (Fns.N (by assumption)).abs.2) ?_ | refine ev_len (evv_built (Sat.cx (by assumption)) (Fns.N (by assumption)).len.1 (Fns.N (by assumption)).len.2) ?_ ?_ | assumption | lia | (rw [ints_len]; lia))); done))) h0 (by lia) (by rw [ints_len]; lia) ?_)
      rw [zset]
      dsimp only [List.nil_append]
      refine tri_cons (tri_assign (d := .int ((tn : Int) + m.getD a.toNat 0 + 1)) (.inl rfl) (fun Kp γ s y => ev_add (ev_add (by (focus ((repeat' (first | exact ev_int | exact ev_none | exact ev_bool | exact ev_str | exact ev_nm (by assumption) (by rfl) | exact ev_rho (by assumption) (by rfl) | exact ev_nm (by assumption) (by assumption) | exact ev_rho (by assumption) (by assumption) | exact ev_nmO (by assumption) (by rfl) | exact ev_old (by assumption) (by rfl) | exact Ev.sub (ev_rho (by assumption) (by rfl)) sub_l | exact ev_mu0 (by assumption) (List.Mem.head _) | exact ev_mu0 (by assumption) (List.Mem.tail _ (List.Mem.head _)) | exact Ev.flat (ev_nm (by assumption) (by rfl)) (by rfl) | refine ev_add ?_ ?_ | refine ev_sub ?_ ?_ | refine ev_mulL ?_ ?_ | refine ev_mod ?_ ?_ | refine ev_div ?_ ?_ | refine ev_neg ?_ | refine ev_ltI ?_ ?_ | refine ev_abs (evv_built (Sat.cx (by assumption)) (Fns.N (by assumption)).abs.1 (Fns.N (by assumption)).abs.2) ?_ | refine ev_len (evv_built (Sat.cx (by assumption)) (Fns.N (by assumption)).len.1 (Fns.N (by assumption)).len.2) ?_ ?_ | assumption | lia | (rw [ints_len]; lia))); done))) (ev_item (ds := zints m) (j := a) (by (focus ((repeat' (first | exact ev_int | exact ev_none | exact ev_bool | exact ev_str | exact ev_nm (by assumption) (by rfl) | exact ev_rho (by assumption) (by rfl) | exact ev_nm (by assumption) (by assumption) | exact ev_rho (by assumption) (by assumption) | exact ev_nmO (by assumption) (by rfl) | exact ev_old (by assumption) (by rfl) | exact Ev.sub (ev_rho (by assumption) (by rfl)) sub_l | exact ev_mu0 (by assumption) (List.Mem.head _) | exact ev_mu0 (by assumption) (List.Mem.tail _ (List.Mem.head _)) | exact Ev.flat (ev_nm (by assumption) (by rfl)) (by rfl) | refine ev_add ?_ ?_ | refine ev_sub ?_ ?_ | refine ev_mulL ?_ ?_ | refine ev_mod ?_ ?_ | refine ev_div ?_ ?_ | refine ev_neg ?_ | refine ev_ltI ?_ ?_ | refine ev_abs (evv_built (Sat.cx (by assumption)) (Fns.N (by assumption)).abs.1 (Fns.N (by assumption)).abs.2) ?_ | refine ev_len (evv_built (Sat.cx (by assumption)) (Fns.N (by assumption)).len.1 (Fns.N (by assumption)).len.2) ?_ ?_ | assumption | lia | (rw [ints_len]; lia))); done))) (by (focus ((repeat' (first | exact ev_int | exact ev_none | exact ev_bool | exact ev_str | exact ev_nm (by assumption) (by rfl) | exact ev_rho (by assumption) (by rfl) | exact ev_nm (by assumption) (by assumption) | exact ev_rho (by assumption) (by assumption) | exact ev_nmO (by assumption) (by rfl) | exact ev_old (by assumption) (by rfl) | exact Ev.sub (ev_rho (by assumption) (by rfl)) sub_l | exact ev_mu0 (by assumption) (List.Mem.head _) | exact ev_mu0 (by assumption) (List.Mem.tail _ (List.Mem.head _)) | exact Ev.flat (ev_nm (by assumption) (by rfl)) (by rfl) | refine ev_add ?_ ?_ | refine ev_sub ?_ ?_ | refine ev_mulL ?_ ?_ | refine ev_mod ?_ ?_ | refine ev_div ?_ ?_ | refine ev_neg ?_ | refine ev_ltI ?_ ?_ | refine ev_abs (evv_built (Sat.cx (by assumption)) (Fns.N (by assumption)).abs.1 (Fns.N (by assumption)).abs.2) ?_ | refine ev_len (evv_built (Sat.cx (by assumption)) (Fns.N (by assumption)).len.1 (Fns.N (by assumption)).len.2) ?_ ?_ | assumption | lia | (rw [ints_len]; lia))); done))) h0 (ints_get h0 (by lia)) (by lia))) ev_int) ?_)
      refine tri_nil (tri_cons (tri_ret (es_two (.tail _ (.head _)) (.head _) (by decide) (fun Kp γ s y => eva_cons (by (focus ((repeat' (first | exact ev_int | exact ev_none | exact ev_bool | exact ev_str | exact ev_nm (by assumption) (by rfl) | exact ev_rho (by assumption) (by rfl) | exact ev_nm (by assumption) (by assumption) | exact ev_rho (by assumption) (by assumption) | exact ev_nmO (by assumption) (by rfl) | exact ev_old (by assumption) (by rfl) | exact Ev.sub (ev_rho (by assumption) (by rfl)) sub_l | exact ev_mu0 (by assumption) (List.Mem.head _) | exact ev_mu0 (by assumption) (List.Mem.tail _ (List.Mem.head _)) | exact Ev.flat (ev_nm (by assumption) (by rfl)) (by rfl) | refine ev_add ?_ ?_ | refine ev_sub ?_ ?_ | refine ev_mulL ?_ ?_ | refine ev_mod ?_ ?_ | refine ev_div ?_ ?_ | refine ev_neg ?_ | refine ev_ltI ?_ ?_ | refine ev_abs (evv_built (Sat.cx (by assumption)) (Fns.N (by assumption)).abs.1 (Fns.N (by assumption)).abs.2) ?_ | refine ev_len (evv_built (Sat.cx (by assumption)) (Fns.N (by assumption)).len.1 (Fns.N (by assumption)).len.2) ?_ ?_ | assumption | lia | (rw [ints_len]; lia))); done))) (eva_cons ((ev_fn (X := []) (d := .int (2 * (tn : Int) + 1)) y F.ptr (fun f doc pm an cdv ct h => ptr_c F h) sub_nil (eva_cons (fo (d := (tn : Int)) rfl (by rw [List.length_set]; exact h1) (by rw [List.getD_eq_getElem?_getD, List.getElem?_set_self (by lia)]; rfl) y) eva_nil)).flat rfl) eva_nil)) (show (4 : Nat) ≤ sizeLine by decide)) (.inl rfl)))



noncomputable abbrev CB (W : Wd) (k : Nat) (A : Around) (h₀ : Heap) (L f : Addr) (X₀ : List Addr) (s₀ : Shared) (doc pm cdv ct : Value) (an : Option Addr) : Bd := ⟨W, k + 1 + 1, A, h₀, callEnvC (fdOf "collected_by_copying" (st 12) doc pm an cdv ct) L f, X₀, s₀⟩
noncomputable def rawN (m o : List Int) : List Int := (o.map (blkI m)).flatten ++ List.replicate (m.length - offO m o) 0
noncomputable def cRho (m roots : List Int) (o : List Int) : Rho := [(("top" : Str), V.int (offO m o : Int)), (("forward" : Str), V.lst (zints (fwdL m o m.length))), (("size" : Str), V.int (m.length : Int)), (("mem" : Str), V.old (.lst (zints m))), (("roots" : Str), V.old (.lst (zints roots)))]
/-- the objects of S lie within the memory, each at its place -/
structure Lies (m S : List Int) : Prop where
  at' : ∀ a ∈ S, 0 ≤ a ∧ 0 ≤ m.getD a.toNat 0 ∧ a + m.getD a.toNat 0 < m.length
  room : ∀ o : List Int, o.Nodup → (∀ a ∈ o, a ∈ S) → offO m o ≤ m.length
theorem blkI_len {m S : List Int} (h : Lies m S) {a : Int} (ha : a ∈ S) : (blkI m a).length = objN m a := by
  obtain ⟨h0, h1, h2⟩ := h.at' a ha
  unfold blkI objN
  generalize m.getD a.toNat 0 = g at h1 h2
  obtain ⟨a, rfl⟩ := Int.eq_ofNat_of_zero_le h0
  obtain ⟨g, rfl⟩ := Int.eq_ofNat_of_zero_le h1
  rw [List.length_take, List.length_drop]
  exact Nat.min_eq_left (show g + 1 ≤ m.length - a by lia)
theorem raw_len {m S : List Int} (h : Lies m S) : ∀ {o : List Int}, (∀ a ∈ o, a ∈ S) → ((o.map (blkI m)).flatten).length = offO m o
  | [], _ => rfl
  | a :: r, ho => by
    rw [List.map_cons, List.flatten_cons, List.length_append, blkI_len h (ho a (.head _)), raw_len h fun b hb => ho b (.tail _ hb)]
    simp [offO]
theorem rawN_len {m S o : List Int} (h : Lies m S) (hn : o.Nodup) (ho : ∀ a ∈ o, a ∈ S) : (rawN m o).length = m.length := by
  unfold rawN
  rw [List.length_append, raw_len h ho, List.length_replicate]
  have := h.room o hn ho
  lia
theorem rawN_new {m S o : List Int} {a : Int} (h : Lies m S) (hn : (o ++ [a]).Nodup) (ho : ∀ b ∈ o ++ [a], b ∈ S) : wr (rawN m o) (offO m o) (blkI m a) = rawN m (o ++ [a]) := by
  have ho' : ∀ b ∈ o, b ∈ S := fun b hb => ho b (List.mem_append.mpr (.inl hb))
  have ha := ho a (List.mem_append.mpr (.inr (.head _)))
  have hr := h.room _ hn ho
  rw [offO_append, offO_one] at hr
  have hl := blkI_len h ha
  have q := wr_piece (u := (o.map (blkI m)).flatten) (p := List.replicate (m.length - offO m o) 0) (v := []) (xs := blkI m a) (by rw [hl, List.length_replicate]; lia)
  rw [List.append_nil, List.append_nil, raw_len h ho', hl, List.drop_replicate] at q
  unfold rawN
  rw [q, List.map_append, List.flatten_append, offO_append, offO_one]
  simp only [List.map_cons, List.map_nil, List.flatten_cons, List.flatten_nil, List.append_nil, List.append_assoc]
  congr 3
  lia
/-- forwarded, seen from the search -/
theorem fw_of {m S o R N N' : List Int} {w : Int} (h : Lies m S) (hn : (stepW o w).Nodup) (ho : ∀ a ∈ stepW o w, a ∈ S) (hp : stepW o w <+: R) (hN : N.length = m.length) (hN' : N' = if stepW o w = o then N else wr N (offO m o) (blkI m (w / 2))) :
    Fw m N (fwdL m o m.length) (offO m o : Int) w N' (fwdL m (stepW o w) m.length) (offO m (stepW o w) : Int) (mendW m R w) := by
  rcases step_case (m := m) hp with ⟨h1, h2, h3⟩ | ⟨h1, h2, h3, h4⟩ | ⟨h1, h2, h3, h4⟩
  · rw [if_pos h2] at hN'
    subst hN'
    rw [h2, h3]
    exact .num h1
  · rw [if_pos h3] at hN'
    subst hN'
    rw [h3] at ho
    obtain ⟨q0, q1, q2⟩ := h.at' _ (ho _ h2)
    have hl : w / 2 < ((m.length : Nat) : Int) := by lia
    have e := fwdL_get (m := m) (o := o) q0 hl
    rw [if_pos h2] at e
    rw [h3, h4, ← e]
    exact .old h1 q0 (by rw [fwdL_len]; exact hl) (by rw [e]; lia)
  · have hne : ¬ stepW o w = o := by
      rw [h3]
      intro q
      have := congrArg List.length q
      simp at this
    rw [if_neg hne] at hN'
    subst hN'
    have ha := ho (w / 2) (by rw [h3]; exact List.mem_append.mpr (.inr (.head _)))
    obtain ⟨q0, q1, q2⟩ := h.at' _ ha
    have hl : w / 2 < ((m.length : Nat) : Int) := by lia
    have e := fwdL_get (m := m) (o := o) q0 hl
    rw [if_neg h2] at e
    have hr := h.room _ hn ho
    rw [h3, offO_append, offO_one] at hr
    unfold objN at hr
    rw [h3, h4, ← fwdL_new q0 hl h2, offO_append, offO_one]
    have hob : ((objN m (w / 2) : Nat) : Int) = m.getD (w / 2).toNat 0 + 1 := by unfold objN; lia
    rw [show (((offO m o + objN m (w / 2) : Nat)) : Int) = (offO m o : Int) + m.getD (w / 2).toNat 0 + 1 by lia]
    have := Fw.new (m := m) (N := N) (F := fwdL m o m.length) (top := (offO m o : Int)) h1 q0 (by rw [fwdL_len]; exact hl) (by rw [e]; lia) (by lia) q1 q2 (by rw [hN]; lia)
    rw [Int.toNat_natCast] at this
    exact this



theorem Sat.swap {B : Bd} {Kp γ s} {p q : Str × Addr × List V} {μ : Mu} {ρ : Rho} (y : Sat B Kp γ (p :: q :: μ) ρ s) : Sat B Kp γ (q :: p :: μ) ρ s := by
  have m1 : ∀ a, a ∈ Mu.at (q :: p :: μ) → a ∈ Mu.at (p :: q :: μ) := fun a h => by
    rcases List.mem_cons.mp h with e | h
    · exact .tail _ (e ▸ .head _)
    · rcases List.mem_cons.mp h with e | h
      · exact e ▸ .head _
      · exact .tail _ (.tail _ h)
  have m2 : ∀ a, a ∈ Mu.at (q :: p :: μ) ++ B.X₀ → a ∈ Mu.at (p :: q :: μ) ++ B.X₀ := fun a h => (List.mem_append.mp h).elim (fun h => List.mem_append.mpr (.inl (m1 a h))) fun h => List.mem_append.mpr (.inr h)
  refine ⟨y.wf, y.cn, y.same, y.h₀kp, fun b o k => ?_, y.cells, fun x hx => (y.gam x hx).sub m1, fun z d hz => ?_, fun x hx => ?_, ?_⟩
  · have := y.kp b o k
    exact ⟨this.1, this.2.1, this.2.2.1, fun h => this.2.2.2 (m1 _ h)⟩
  · obtain ⟨v, h1, h2⟩ := y.vars z d hz
    exact ⟨v, h1, h2.move (fun r => r.sub m1) (fun r => r.sub m2)⟩
  · have hx' : x ∈ p :: q :: μ := by
      rcases List.mem_cons.mp hx with e | h
      · exact .tail _ (e ▸ .head _)
      · rcases List.mem_cons.mp h with e | h
        · exact e ▸ .head _
        · exact .tail _ (.tail _ h)
    obtain ⟨h1, h2, vs, n, h3, h4⟩ := y.muts x hx'
    exact ⟨h1, h2, vs, n, h3, h4.sub m2⟩
  · have nd := y.nd
    unfold Mu.at at nd ⊢
    rw [List.map_cons, List.map_cons] at nd ⊢
    exact (List.Perm.swap _ _ _).nodup_iff.mp nd
theorem Tri.swap {B : Bd} {p q : Str × Addr × List V} {μ : Mu} {ρ : Rho} {body : List Stmt} {Post : Fl → Mu → Rho → Prop} (h : Tri B (q :: p :: μ) ρ body Post) : Tri B (p :: q :: μ) ρ body Post := fun Kp γ s E y => h Kp γ s E (L21.Sat.swap y)
theorem off_new {l1 l2 : Addr} {xs ys : List V} : Mu.off [(("new" : Str), l1, xs), (("moved" : Str), l2, ys)] ("new" : Str) = [(("moved" : Str), l2, ys)] := by rfl
set_option maxHeartbeats 4000000 in
theorem copy_roots {W : Wd} {A : Around} {h₀ : Heap} {L f : Addr} {X₀ : List Addr} {s₀ : Shared} {k : Nat} {doc pm cdv ct : Value} {an : Option Addr} (F : Fns W) {m roots S R : List Int} (hz : m.length < 2 ^ 19) (hrl : roots.length < 1000) (hL : Lies m S) (c : Closed (fldI m) roots S) (h1 : Fix (fldI m) roots R) {Post : Fl → Mu → Rho → Prop}
    (h : ∀ l1 l2, Tri (CB W k A h₀ L f X₀ s₀ doc pm cdv ct an) [(("new" : Str), l1, zints (rawN m (addAll [] roots))), (("moved" : Str), l2, zints (roots.map (mendW m R)))] (cRho m roots (addAll [] roots)) ((fnBody (st 12)).drop 6) Post) :
    Tri (CB W k A h₀ L f X₀ s₀ doc pm cdv ct an) [] [(("mem" : Str), V.old (.lst (zints m))), (("roots" : Str), V.old (.lst (zints roots)))] (fnBody (st 12)) Post := by
  have hsl : (2 : Nat) ^ 20 ≤ sizeLine := by decide
  refine tri_cons (tri_assign (d := .int (m.length : Int)) (.inl rfl) (fun Kp γ s y => by rw [← ints_len m]; (focus ((repeat' (first | exact ev_int | exact ev_none | exact ev_bool | exact ev_str | exact ev_nm (by assumption) (by rfl) | exact ev_rho (by assumption) (by rfl) | exact ev_nm (by assumption) (by assumption) | exact ev_rho (by assumption) (by assumption) | exact ev_nmO (by assumption) (by rfl) | exact ev_old (by assumption) (by rfl) | exact Ev.sub (ev_rho (by assumption) (by rfl)) sub_l | exact ev_mu0 (by assumption) (List.Mem.head _) | exact ev_mu0 (by assumption) (List.Mem.tail _ (List.Mem.head _)) | exact Ev.flat (ev_nm (by assumption) (by rfl)) (by rfl) | refine ev_add ?_ ?_ | refine ev_sub ?_ ?_ | refine ev_mulL ?_ ?_ | refine ev_mod ?_ ?_ | refine ev_div ?_ ?_ | refine ev_neg ?_ | refine ev_ltI ?_ ?_ | refine ev_abs (evv_built (Sat.cx (by assumption)) (Fns.N (by assumption)).abs.1 (Fns.N (by assumption)).abs.2) ?_ | refine ev_len (evv_built (Sat.cx (by assumption)) (Fns.N (by assumption)).len.1 (Fns.N (by assumption)).len.2) ?_ ?_ | assumption | lia | (rw [ints_len]; lia))); done))) ?_)
  refine tri_cons (tri_assignM (ds := zints (rawN m [])) (.inl rfl) (fun Kp γ s y => ?_) (fun l1 => ?_))
  · rw [show zints (rawN m []) = List.replicate ((m.length : Int)).toNat (V.int 0) by unfold rawN; rw [Int.toNat_natCast, zrep]; simp [offO]]
    exact evf_mul y.cx (EvF.ev (evf_list y.cx (eva_cons (by (focus ((repeat' (first | exact ev_int | exact ev_none | exact ev_bool | exact ev_str | exact ev_nm (by assumption) (by rfl) | exact ev_rho (by assumption) (by rfl) | exact ev_nm (by assumption) (by assumption) | exact ev_rho (by assumption) (by assumption) | exact ev_nmO (by assumption) (by rfl) | exact ev_old (by assumption) (by rfl) | exact Ev.sub (ev_rho (by assumption) (by rfl)) sub_l | exact ev_mu0 (by assumption) (List.Mem.head _) | exact ev_mu0 (by assumption) (List.Mem.tail _ (List.Mem.head _)) | exact Ev.flat (ev_nm (by assumption) (by rfl)) (by rfl) | refine ev_add ?_ ?_ | refine ev_sub ?_ ?_ | refine ev_mulL ?_ ?_ | refine ev_mod ?_ ?_ | refine ev_div ?_ ?_ | refine ev_neg ?_ | refine ev_ltI ?_ ?_ | refine ev_abs (evv_built (Sat.cx (by assumption)) (Fns.N (by assumption)).abs.1 (Fns.N (by assumption)).abs.2) ?_ | refine ev_len (evv_built (Sat.cx (by assumption)) (Fns.N (by assumption)).len.1 (Fns.N (by assumption)).len.2) ?_ ?_ | assumption | lia | (rw [ints_len]; lia))); done))) eva_nil))) (by (focus ((repeat' (first | exact ev_int | exact ev_none | exact ev_bool | exact ev_str | exact ev_nm (by assumption) (by rfl) | exact ev_rho (by assumption) (by rfl) | exact ev_nm (by assumption) (by assumption) | exact ev_rho (by assumption) (by assumption) | exact ev_nmO (by assumption) (by rfl) | exact ev_old (by assumption) (by rfl) | exact Ev.sub (ev_rho (by assumption) (by rfl)) sub_l | exact ev_mu0 (by assumption) (List.Mem.head _) | exact ev_mu0 (by assumption) (List.Mem.tail _ (List.Mem.head _)) | exact Ev.flat (ev_nm (by assumption) (by rfl)) (by rfl) | refine ev_add ?_ ?_ | refine ev_sub ?_ ?_ | refine ev_mulL ?_ ?_ | refine ev_mod ?_ ?_ | refine ev_div ?_ ?_ | refine ev_neg ?_ | refine ev_ltI ?_ ?_ | refine ev_abs (evv_built (Sat.cx (by assumption)) (Fns.N (by assumption)).abs.1 (Fns.N (by assumption)).abs.2) ?_ | refine ev_len (evv_built (Sat.cx (by assumption)) (Fns.N (by assumption)).len.1 (Fns.N (by assumption)).len.2) ?_ ?_ | assumption | lia | (rw [ints_len]; lia))); done))) (by lia) (by lia)
  refine tri_cons (tri_assign (d := .lst (zints (fwdL m [] m.length))) (.inl rfl) (fun Kp γ s y => ?_) ?_)
  · rw [show zints (fwdL m [] m.length) = List.replicate ((m.length : Int)).toNat (V.int (-1)) by
      unfold fwdL zints
      rw [Int.toNat_natCast, List.map_map]
      apply List.ext_getElem?
      intro i
      rw [List.getElem?_map, List.getElem?_replicate]
      by_cases hi : i < m.length
      · rw [List.getElem?_range hi, if_pos hi]; simp
      · rw [List.getElem?_eq_none (by rw [List.length_range]; lia), if_neg hi]; rfl]
    exact EvF.ev (evf_mul y.cx (EvF.ev (evf_list y.cx (eva_cons (by (focus ((repeat' (first | exact ev_int | exact ev_none | exact ev_bool | exact ev_str | exact ev_nm (by assumption) (by rfl) | exact ev_rho (by assumption) (by rfl) | exact ev_nm (by assumption) (by assumption) | exact ev_rho (by assumption) (by assumption) | exact ev_nmO (by assumption) (by rfl) | exact ev_old (by assumption) (by rfl) | exact Ev.sub (ev_rho (by assumption) (by rfl)) sub_l | exact ev_mu0 (by assumption) (List.Mem.head _) | exact ev_mu0 (by assumption) (List.Mem.tail _ (List.Mem.head _)) | exact Ev.flat (ev_nm (by assumption) (by rfl)) (by rfl) | refine ev_add ?_ ?_ | refine ev_sub ?_ ?_ | refine ev_mulL ?_ ?_ | refine ev_mod ?_ ?_ | refine ev_div ?_ ?_ | refine ev_neg ?_ | refine ev_ltI ?_ ?_ | refine ev_abs (evv_built (Sat.cx (by assumption)) (Fns.N (by assumption)).abs.1 (Fns.N (by assumption)).abs.2) ?_ | refine ev_len (evv_built (Sat.cx (by assumption)) (Fns.N (by assumption)).len.1 (Fns.N (by assumption)).len.2) ?_ ?_ | assumption | lia | (rw [ints_len]; lia))); done))) eva_nil))) (by (focus ((repeat' (first | exact ev_int | exact ev_none | exact ev_bool | exact ev_str | exact ev_nm (by assumption) (by rfl) | exact ev_rho (by assumption) (by rfl) | exact ev_nm (by assumption) (by assumption) | exact ev_rho (by assumption) (by assumption) | exact ev_nmO (by assumption) (by rfl) | exact ev_old (by assumption) (by rfl) | exact Ev.sub (ev_rho (by assumption) (by rfl)) sub_l | exact ev_mu0 (by assumption) (List.Mem.head _) | exact ev_mu0 (by assumption) (List.Mem.tail _ (List.Mem.head _)) | exact Ev.flat (ev_nm (by assumption) (by rfl)) (by rfl) | refine ev_add ?_ ?_ | refine ev_sub ?_ ?_ | refine ev_mulL ?_ ?_ | refine ev_mod ?_ ?_ | refine ev_div ?_ ?_ | refine ev_neg ?_ | refine ev_ltI ?_ ?_ | refine ev_abs (evv_built (Sat.cx (by assumption)) (Fns.N (by assumption)).abs.1 (Fns.N (by assumption)).abs.2) ?_ | refine ev_len (evv_built (Sat.cx (by assumption)) (Fns.N (by assumption)).len.1 (Fns.N (by assumption)).len.2) ?_ ?_ | assumption | lia | (rw [ints_len]; lia))); done))) (by lia) (by lia))
  refine tri_cons (tri_assign (d := .int ((offO m [] : Nat) : Int)) (.inl rfl) (fun Kp γ s y => ev_int) ?_)
  refine tri_cons (tri_assignM (ds := zints []) (.inl rfl) (fun Kp γ s y => evf_list y.cx eva_nil) (fun l2 => ?_))
  refine L21.Tri.swap ?_
  have hin : ∀ j, ∀ a ∈ addAll [] (roots.take j), a ∈ S := fun j a ha => by
    rcases mem_addAll.mp ha with h | ⟨w, hw, q1, q2⟩
    · cases h
    · rw [← q2]; exact c.r w (List.mem_of_mem_take hw) q1
  have hnd : ∀ j, (addAll [] (roots.take j)).Nodup := fun j => addAll_nodup List.nodup_nil
  have hR0 : addAll [] roots <+: R := by
    have e : addAll [] roots = Gf (fldI m) roots [] := by unfold Gf; simp
    have := Gf_mono (fld := fldI m) (roots := roots) (List.nil_prefix (l := R))
    rw [h1, ← e] at this
    exact this
  have hpR : ∀ j, addAll [] (roots.take j) <+: R := fun j => List.IsPrefix.trans addAll_take hR0
  refine tri_cons (tri_forL (ds := zints roots) (fun j μ ρ => ∃ l1 l2, μ = [(("new" : Str), l1, zints (rawN m (addAll [] (roots.take j)))), (("moved" : Str), l2, zints ((roots.take j).map (mendW m R)))] ∧ ρ = cRho m roots (addAll [] (roots.take j))) (.inl rfl) (fun Kp γ s y => by (focus ((repeat' (first | exact ev_int | exact ev_none | exact ev_bool | exact ev_str | exact ev_nm (by assumption) (by rfl) | exact ev_rho (by assumption) (by rfl) | exact ev_nm (by assumption) (by assumption) | exact ev_rho (by assumption) (by assumption) | exact ev_nmO (by assumption) (by rfl) | exact ev_old (by assumption) (by rfl) | exact Ev.sub (ev_rho (by assumption) (by rfl)) sub_l | exact ev_mu0 (by assumption) (List.Mem.head _) | exact ev_mu0 (by assumption) (List.Mem.tail _ (List.Mem.head _)) | exact Ev.flat (ev_nm (by assumption) (by rfl)) (by rfl) | refine ev_add ?_ ?_ | refine ev_sub ?_ ?_ | refine ev_mulL ?_ ?_ | refine ev_mod ?_ ?_ | refine ev_div ?_ ?_ | refine ev_neg ?_ | refine ev_ltI ?_ ?_ | refine ev_abs (evv_built (Sat.cx (by assumption)) (Fns.N (by assumption)).abs.1 (Fns.N (by assumption)).abs.2) ?_ | refine ev_len (evv_built (Sat.cx (by assumption)) (Fns.N (by assumption)).len.1 (Fns.N (by assumption)).len.2) ?_ ?_ | assumption | lia | (rw [ints_len]; lia))); done))) ⟨l1, l2, rfl, rfl⟩ ?_ ?_ ?_)
  · rintro i μ' ρ' ⟨l1, l2, rfl, _⟩
    rfl
  · rintro j d μ' ρ' hd ⟨l1, l2, rfl, rfl⟩
    unfold zints at hd
    rw [List.getElem?_map] at hd
    obtain ⟨w, hw, rfl⟩ := Option.map_eq_some_iff.mp hd
    have hj : j < roots.length := (List.getElem?_eq_some_iff.mp hw).1
    have es : addAll [] (roots.take (j + 1)) = stepW (addAll [] (roots.take j)) w := by rw [List.take_succ_eq_append_getElem hj, addAll_snoc, (List.getElem?_eq_some_iff.mp hw).2]
    have er : (roots.take (j + 1)).map (mendW m R) = (roots.take j).map (mendW m R) ++ [mendW m R w] := by rw [List.take_succ_eq_append_getElem hj, List.map_append, (List.getElem?_eq_some_iff.mp hw).2]; rfl
    have q1 := hin (j + 1)
    have q2 := hnd (j + 1)
    have q3 := hpR (j + 1)
    have p1 := hin j
    have p2 := hnd j
    rw [es] at q1 q2 q3
    delta LoopP; dsimp only
    rw [es, er]
    generalize addAll [] (roots.take j) = o at q1 q2 q3 p1 p2 ⊢
    have hNl := rawN_len hL p2 p1
    have fw := fw_of (N := rawN m o) (N' := rawN m (stepW o w)) hL q2 q1 q3 hNl (by
      split
      · rename_i q; rw [q]
      · rename_i q
        rcases step_case (m := m) q3 with ⟨_, e, _⟩ | ⟨_, _, e, _⟩ | ⟨_, _, e, _⟩
        · exact absurd e q
        · exact absurd e q
        · rw [e] at q1 q2 ⊢
          exact (rawN_new hL q2 q1).symm)
    refine tri_unpack (ρ' := cRho m roots o) (.inl rfl) (.inl rfl) (by decide) (fun Kp γ s y => evt_fn y F.forw (fun f doc pm an cdv ct h => forw_c F h fw hz (by rw [hNl]; exact hz) (by rw [fwdL_len]; exact hz)) (eva_cons (by (focus ((repeat' (first | exact ev_int | exact ev_none | exact ev_bool | exact ev_str | exact ev_nm (by assumption) (by rfl) | exact ev_rho (by assumption) (by rfl) | exact ev_nm (by assumption) (by assumption) | exact ev_rho (by assumption) (by assumption) | exact ev_nmO (by assumption) (by rfl) | exact ev_old (by assumption) (by rfl) | exact Ev.sub (ev_rho (by assumption) (by rfl)) sub_l | exact ev_mu0 (by assumption) (List.Mem.head _) | exact ev_mu0 (by assumption) (List.Mem.tail _ (List.Mem.head _)) | exact Ev.flat (ev_nm (by assumption) (by rfl)) (by rfl) | refine ev_add ?_ ?_ | refine ev_sub ?_ ?_ | refine ev_mulL ?_ ?_ | refine ev_mod ?_ ?_ | refine ev_div ?_ ?_ | refine ev_neg ?_ | refine ev_ltI ?_ ?_ | refine ev_abs (evv_built (Sat.cx (by assumption)) (Fns.N (by assumption)).abs.1 (Fns.N (by assumption)).abs.2) ?_ | refine ev_len (evv_built (Sat.cx (by assumption)) (Fns.N (by assumption)).len.1 (Fns.N (by assumption)).len.2) ?_ ?_ | assumption | lia | (rw [ints_len]; lia))); done))) (eva_cons (by (focus ((repeat' (first | exact ev_int | exact ev_none | exact ev_bool | exact ev_str | exact ev_nm (by assumption) (by rfl) | exact ev_rho (by assumption) (by rfl) | exact ev_nm (by assumption) (by assumption) | exact ev_rho (by assumption) (by assumption) | exact ev_nmO (by assumption) (by rfl) | exact ev_old (by assumption) (by rfl) | exact Ev.sub (ev_rho (by assumption) (by rfl)) sub_l | exact ev_mu0 (by assumption) (List.Mem.head _) | exact ev_mu0 (by assumption) (List.Mem.tail _ (List.Mem.head _)) | exact Ev.flat (ev_nm (by assumption) (by rfl)) (by rfl) | refine ev_add ?_ ?_ | refine ev_sub ?_ ?_ | refine ev_mulL ?_ ?_ | refine ev_mod ?_ ?_ | refine ev_div ?_ ?_ | refine ev_neg ?_ | refine ev_ltI ?_ ?_ | refine ev_abs (evv_built (Sat.cx (by assumption)) (Fns.N (by assumption)).abs.1 (Fns.N (by assumption)).abs.2) ?_ | refine ev_len (evv_built (Sat.cx (by assumption)) (Fns.N (by assumption)).len.1 (Fns.N (by assumption)).len.2) ?_ ?_ | assumption | lia | (rw [ints_len]; lia))); done))) (eva_cons (by (focus ((repeat' (first | exact ev_int | exact ev_none | exact ev_bool | exact ev_str | exact ev_nm (by assumption) (by rfl) | exact ev_rho (by assumption) (by rfl) | exact ev_nm (by assumption) (by assumption) | exact ev_rho (by assumption) (by assumption) | exact ev_nmO (by assumption) (by rfl) | exact ev_old (by assumption) (by rfl) | exact Ev.sub (ev_rho (by assumption) (by rfl)) sub_l | exact ev_mu0 (by assumption) (List.Mem.head _) | exact ev_mu0 (by assumption) (List.Mem.tail _ (List.Mem.head _)) | exact Ev.flat (ev_nm (by assumption) (by rfl)) (by rfl) | refine ev_add ?_ ?_ | refine ev_sub ?_ ?_ | refine ev_mulL ?_ ?_ | refine ev_mod ?_ ?_ | refine ev_div ?_ ?_ | refine ev_neg ?_ | refine ev_ltI ?_ ?_ | refine ev_abs (evv_built (Sat.cx (by assumption)) (Fns.N (by assumption)).abs.1 (Fns.N (by assumption)).abs.2) ?_ | refine ev_len (evv_built (Sat.cx (by assumption)) (Fns.N (by assumption)).len.1 (Fns.N (by assumption)).len.2) ?_ ?_ | assumption | lia | (rw [ints_len]; lia))); done))) (eva_cons (by (focus ((repeat' (first | exact ev_int | exact ev_none | exact ev_bool | exact ev_str | exact ev_nm (by assumption) (by rfl) | exact ev_rho (by assumption) (by rfl) | exact ev_nm (by assumption) (by assumption) | exact ev_rho (by assumption) (by assumption) | exact ev_nmO (by assumption) (by rfl) | exact ev_old (by assumption) (by rfl) | exact Ev.sub (ev_rho (by assumption) (by rfl)) sub_l | exact ev_mu0 (by assumption) (List.Mem.head _) | exact ev_mu0 (by assumption) (List.Mem.tail _ (List.Mem.head _)) | exact Ev.flat (ev_nm (by assumption) (by rfl)) (by rfl) | refine ev_add ?_ ?_ | refine ev_sub ?_ ?_ | refine ev_mulL ?_ ?_ | refine ev_mod ?_ ?_ | refine ev_div ?_ ?_ | refine ev_neg ?_ | refine ev_ltI ?_ ?_ | refine ev_abs (evv_built (Sat.cx (by assumption)) (Fns.N (by assumption)).abs.1 (Fns.N (by assumption)).abs.2) ?_ | refine ev_len (evv_built (Sat.cx (by assumption)) (Fns.N (by assumption)).len.1 (Fns.N (by assumption)).len.2) ?_ ?_ | assumption | lia | (rw [ints_len]; lia))); done))) (eva_cons (by (focus ((repeat' (first | exact ev_int | exact ev_none | exact ev_bool | exact ev_str | exact ev_nm (by assumption) (by rfl) | exact ev_rho (by assumption) (by rfl) | exact ev_nm (by assumption) (by assumption) | exact ev_rho (by assumption) (by assumption) | exact ev_nmO (by assumption) (by rfl) | exact ev_old (by assumption) (by rfl) | exact Ev.sub (ev_rho (by assumption) (by rfl)) sub_l | exact ev_mu0 (by assumption) (List.Mem.head _) | exact ev_mu0 (by assumption) (List.Mem.tail _ (List.Mem.head _)) | exact Ev.flat (ev_nm (by assumption) (by rfl)) (by rfl) | refine ev_add ?_ ?_ | refine ev_sub ?_ ?_ | refine ev_mulL ?_ ?_ | refine ev_mod ?_ ?_ | refine ev_div ?_ ?_ | refine ev_neg ?_ | refine ev_ltI ?_ ?_ | refine ev_abs (evv_built (Sat.cx (by assumption)) (Fns.N (by assumption)).abs.1 (Fns.N (by assumption)).abs.2) ?_ | refine ev_len (evv_built (Sat.cx (by assumption)) (Fns.N (by assumption)).len.1 (Fns.N (by assumption)).len.2) ?_ ?_ | assumption | lia | (rw [ints_len]; lia))); done))) eva_nil)))))) ⟨rfl, rfl, rfl, rfl, rfl, trivial⟩ rfl rfl flat_ints flat_ints (by intro x hx; simp only [List.mem_cons, List.not_mem_nil, or_false] at hx; rcases hx with rfl | rfl <;> rfl) fun l => ?_
    rw [off_new]
    refine tri_cons (tri_assign (d := .lst (zints (fwdL m (stepW o w) m.length))) (.inl rfl) (fun Kp γ s y => ev_itemT (ds := [.any, .lst (zints (fwdL m (stepW o w) m.length)), .int (offO m (stepW o w) : Int), .int (mendW m R w)]) (j := 1) (ev_rho y rfl) ev_int (by decide) rfl (by decide)) ?_)
    refine tri_cons (tri_assign (d := .int (offO m (stepW o w) : Int)) (.inl rfl) (fun Kp γ s y => ev_itemT (ds := [.any, .lst (zints (fwdL m (stepW o w) m.length)), .int (offO m (stepW o w) : Int), .int (mendW m R w)]) (j := 2) (ev_rho y rfl) ev_int (by decide) rfl (by decide)) ?_)
    refine tri_cons (tri_append (μ₁ := [(("new" : Str), l, zints (rawN m (stepW o w)))]) (μ₂ := []) (d := .int (mendW m R w)) rfl (fun Kp γ s y => ev_itemT (ds := [.any, .lst (zints (fwdL m (stepW o w) m.length)), .int (offO m (stepW o w) : Int), .int (mendW m R w)]) (j := 3) (ev_rho y rfl) ev_int (by decide) rfl (by decide)) (by rw [ints_len, List.length_map, List.length_take]; lia) ?_)
    refine tri_end (ρ' := cRho m roots (stepW o w)) ⟨rfl, rfl, rfl, rfl, rfl, trivial⟩ ⟨l, l2, ?_, rfl⟩
    rw [show zints ((roots.take j).map (mendW m R) ++ [mendW m R w]) = zints ((roots.take j).map (mendW m R)) ++ [V.int (mendW m R w)] by simp [zints]]
    rfl
  · rintro μ' ρ' ⟨l1, l2, rfl, rfl⟩
    rw [ints_len, List.take_length]
    exact h l1 l2
theorem fldI_len {m S : List Int} (h : Lies m S) {a : Int} (ha : a ∈ S) : ((fldI m a).length : Int) = m.getD a.toNat 0 := by
  obtain ⟨h0, h1, h2⟩ := h.at' a ha
  unfold fldI cut
  generalize m.getD a.toNat 0 = g at h1 h2
  obtain ⟨a, rfl⟩ := Int.eq_ofNat_of_zero_le h0
  obtain ⟨g, rfl⟩ := Int.eq_ofNat_of_zero_le h1
  exact congrArg Nat.cast (cut_len (l := m) (a := a + 1) (n := g) (by lia) rfl rfl)
theorem blkI_cons {m S : List Int} (h : Lies m S) {a : Int} (ha : a ∈ S) : blkI m a = m.getD a.toNat 0 :: fldI m a := by
  obtain ⟨h0, h1, h2⟩ := h.at' a ha
  have hl : a.toNat < m.length := by lia
  unfold blkI fldI cut
  simp only [Option.elim]
  rw [List.drop_eq_getElem_cons hl, show (m.getD a.toNat 0 + 1).toNat = (m.getD a.toNat 0).toNat + 1 by lia, List.take_succ_cons]
  congr 1
  · rw [List.getD_eq_getElem?_getD, List.getElem?_eq_getElem hl]; rfl
  · generalize m.getD a.toNat 0 = g at h1
    obtain ⟨a, rfl⟩ := Int.eq_ofNat_of_zero_le h0
    obtain ⟨g, rfl⟩ := Int.eq_ofNat_of_zero_le h1
    rw [List.drop_take]
    show _ = List.take (a + 1 + g - (a + 1)) _
    rw [Nat.add_sub_cancel_left]
    rfl
/-- an object as the copy leaves it -/
noncomputable def doneP (m R : List Int) (a : Int) : List Int := m.getD a.toNat 0 :: (fldI m a).map (mendW m R)
noncomputable def scN (m R o : List Int) (p : Nat) : List Int := ((o.take p).map (doneP m R)).flatten ++ (((o.drop p).map (blkI m)).flatten ++ List.replicate (m.length - offO m o) 0)
/-- the object at place p, i of its fields mended -/
noncomputable def midN (m R o : List Int) (p : Nat) (a : Int) (i : Nat) : List Int :=
  ((o.take p).map (doneP m R)).flatten ++ (m.getD a.toNat 0 :: (((fldI m a).take i).map (mendW m R) ++ ((fldI m a).drop i ++ (((o.drop (p + 1)).map (blkI m)).flatten ++ List.replicate (m.length - offO m o) 0))))
theorem scN_zero {m R o : List Int} : scN m R o 0 = rawN m o := by unfold scN rawN; simp
theorem mid_start {m S R o : List Int} {p : Nat} {a : Int} (h : Lies m S) (ha : o[p]? = some a) (haS : a ∈ S) : midN m R o p a 0 = scN m R o p := by
  unfold midN scN
  have hp := (List.getElem?_eq_some_iff.mp ha).1
  rw [List.drop_eq_getElem_cons hp, (List.getElem?_eq_some_iff.mp ha).2, List.map_cons, List.flatten_cons, blkI_cons h haS]
  simp
theorem mid_end {m S R o : List Int} {p : Nat} {a : Int} (h : Lies m S) (ha : o[p]? = some a) (haS : a ∈ S) : midN m R o p a (fldI m a).length = scN m R o (p + 1) := by
  unfold midN scN
  have hp := (List.getElem?_eq_some_iff.mp ha).1
  rw [List.take_succ_eq_append_getElem hp, (List.getElem?_eq_some_iff.mp ha).2, List.take_length, List.drop_length]
  simp [doneP]
theorem done_len {m S R : List Int} (h : Lies m S) : ∀ {o : List Int}, (∀ a ∈ o, a ∈ S) → ((o.map (doneP m R)).flatten).length = offO m o
  | [], _ => rfl
  | a :: r, ho => by
    have e := fldI_len h (ho a (.head _))
    obtain ⟨h0, h1, h2⟩ := h.at' a (ho a (.head _))
    rw [List.map_cons, List.flatten_cons, List.length_append, done_len h fun b hb => ho b (.tail _ hb)]
    unfold doneP
    rw [List.length_cons, List.length_map]
    simp only [offO, List.map_cons, List.sum_cons, objN]
    lia
/-- one field: forwarded's list, then the mended word in its place -/
theorem mid_step {m S R o : List Int} {p i : Nat} {a w : Int} (h : Lies m S) (ha : o[p]? = some a) (ho : ∀ b ∈ stepW o w, b ∈ S) (hn : (stepW o w).Nodup) (hp : stepW o w <+: R) (hi : (fldI m a)[i]? = some w) :
    (if stepW o w = o then midN m R o p a i else wr (midN m R o p a i) (offO m o) (blkI m (w / 2))).set (offO m (o.take p) + 1 + i) (mendW m R w) = midN m R (stepW o w) p a (i + 1) := by
  have hpl := (List.getElem?_eq_some_iff.mp ha).1
  have hil := (List.getElem?_eq_some_iff.mp hi).1
  have hoS : ∀ b ∈ o, b ∈ S := fun b hb => ho b (mem_stepW.mpr (.inl hb))
  have haS := hoS a (List.mem_of_getElem? ha)
  have dl : (((o.take p).map (doneP m R)).flatten).length = offO m (o.take p) := done_len h fun b hb => hoS b (List.mem_of_mem_take hb)
  -- setting the field
  have ef : (fldI m a).drop i = w :: (fldI m a).drop (i + 1) := by rw [List.drop_eq_getElem_cons hil, (List.getElem?_eq_some_iff.mp hi).2]
  have et : ((fldI m a).take (i + 1)).map (mendW m R) = ((fldI m a).take i).map (mendW m R) ++ [mendW m R w] := by rw [List.take_succ_eq_append_getElem hil, List.map_append, (List.getElem?_eq_some_iff.mp hi).2]; rfl
  have st : ∀ T : List Int, (((o.take p).map (doneP m R)).flatten ++ (m.getD a.toNat 0 :: (((fldI m a).take i).map (mendW m R) ++ ((fldI m a).drop i ++ T)))).set (offO m (o.take p) + 1 + i) (mendW m R w) = ((o.take p).map (doneP m R)).flatten ++ (m.getD a.toNat 0 :: (((fldI m a).take (i + 1)).map (mendW m R) ++ ((fldI m a).drop (i + 1) ++ T))) := by
    intro T
    rw [ef, et, List.set_append_right (h := by lia), dl, show offO m (o.take p) + 1 + i - offO m (o.take p) = i + 1 by lia, List.set_cons_succ, List.set_append_right (h := by rw [List.length_map, List.length_take]; lia), List.length_map, List.length_take, show i - min i (fldI m a).length = 0 by lia]
    simp
  rcases step_case (m := m) hp with ⟨_, e, _⟩ | ⟨_, _, e, _⟩ | ⟨q1, q2, e, _⟩
  · rw [if_pos e, e]; exact st _
  · rw [if_pos e, e]; exact st _
  · have hne : ¬ stepW o w = o := by
      rw [e]
      intro q
      have := congrArg List.length q
      simp at this
    rw [if_neg hne, e]
    rw [e] at ho hn
    have hbS := ho (w / 2) (List.mem_append.mpr (.inr (.head _)))
    have hbl := blkI_len h hbS
    have hr := h.room _ hn ho
    rw [offO_append, offO_one] at hr
    have rl : (((o.drop (p + 1)).map (blkI m)).flatten).length = offO m (o.drop (p + 1)) := raw_len h fun b hb => hoS b (List.mem_of_mem_drop hb)
    have eo : offO m o = offO m (o.take p) + (objN m a + offO m (o.drop (p + 1))) := by
      conv => lhs; rw [← List.take_append_drop p o, List.drop_eq_getElem_cons hpl, (List.getElem?_eq_some_iff.mp ha).2]
      rw [offO_append]
      congr 1
    have fl := fldI_len h haS
    have hob : ((objN m a : Nat) : Int) = m.getD a.toNat 0 + 1 := by
      obtain ⟨_, q, _⟩ := h.at' a haS
      unfold objN; lia
    have hU : (((o.take p).map (doneP m R)).flatten ++ (m.getD a.toNat 0 :: (((fldI m a).take i).map (mendW m R) ++ ((fldI m a).drop i ++ ((o.drop (p + 1)).map (blkI m)).flatten)))).length = offO m o := by
      rw [List.length_append, dl, List.length_cons, List.length_append, List.length_map, List.length_take, List.length_append, List.length_drop, rl]
      lia
    have q := wr_piece (u := ((o.take p).map (doneP m R)).flatten ++ (m.getD a.toNat 0 :: (((fldI m a).take i).map (mendW m R) ++ ((fldI m a).drop i ++ ((o.drop (p + 1)).map (blkI m)).flatten)))) (p := List.replicate (m.length - offO m o) 0) (v := []) (xs := blkI m (w / 2)) (by rw [hbl, List.length_replicate]; lia)
    rw [List.append_nil, List.append_nil, hU, hbl, List.drop_replicate] at q
    have em : midN m R o p a i = (((o.take p).map (doneP m R)).flatten ++ (m.getD a.toNat 0 :: (((fldI m a).take i).map (mendW m R) ++ ((fldI m a).drop i ++ ((o.drop (p + 1)).map (blkI m)).flatten)))) ++ List.replicate (m.length - offO m o) 0 := by unfold midN; simp
    rw [em, q]
    have s2 := st (((o.drop (p + 1)).map (blkI m)).flatten ++ (blkI m (w / 2) ++ List.replicate (m.length - offO m o - objN m (w / 2)) 0))
    have eL : (((o.take p).map (doneP m R)).flatten ++ (m.getD a.toNat 0 :: (((fldI m a).take i).map (mendW m R) ++ ((fldI m a).drop i ++ ((o.drop (p + 1)).map (blkI m)).flatten)))) ++ (blkI m (w / 2) ++ List.replicate (m.length - offO m o - objN m (w / 2)) 0) = ((o.take p).map (doneP m R)).flatten ++ (m.getD a.toNat 0 :: (((fldI m a).take i).map (mendW m R) ++ ((fldI m a).drop i ++ (((o.drop (p + 1)).map (blkI m)).flatten ++ (blkI m (w / 2) ++ List.replicate (m.length - offO m o - objN m (w / 2)) 0))))) := by simp
    rw [eL, s2]
    unfold midN
    rw [List.take_append_of_le_length (by lia), List.drop_append_of_le_length (by lia), List.map_append, List.flatten_append, offO_append, offO_one, Nat.sub_sub]
    simp



theorem scN_len {m S R o : List Int} {p : Nat} (h : Lies m S) (hn : o.Nodup) (ho : ∀ a ∈ o, a ∈ S) : (scN m R o p).length = m.length := by
  unfold scN
  rw [List.length_append, done_len h (fun b hb => ho b (List.mem_of_mem_take hb)), List.length_append, raw_len h (fun b hb => ho b (List.mem_of_mem_drop hb)), List.length_replicate]
  have e : offO m o = offO m (o.take p) + offO m (o.drop p) := by conv => lhs; rw [← List.take_append_drop p o, offO_append]
  have := h.room o hn ho
  lia
theorem midN_len {m S R o : List Int} {p i : Nat} {a : Int} (h : Lies m S) (hn : o.Nodup) (ho : ∀ a ∈ o, a ∈ S) (ha : o[p]? = some a) : (midN m R o p a i).length = m.length := by
  have haS := ho a (List.mem_of_getElem? ha)
  have e1 := congrArg List.length (mid_start (R := R) h ha haS)
  rw [scN_len h hn ho] at e1
  rw [← e1]
  unfold midN
  have e2 : ∀ i, ((((fldI m a).take i).map (mendW m R)).length + ((fldI m a).drop i).length) = (fldI m a).length := fun i => by
    rw [List.length_map, ← List.length_append, List.take_append_drop]
  simp only [List.length_append, List.length_cons]
  have e3 := e2 i
  have e4 := e2 0
  lia
theorem midN_get {m S R o : List Int} {p i : Nat} {a w : Int} (h : Lies m S) (ho : ∀ a ∈ o, a ∈ S) (ha : o[p]? = some a) (hi : (fldI m a)[i]? = some w) : (midN m R o p a i).getD (offO m (o.take p) + 1 + i) 0 = w := by
  have hil := (List.getElem?_eq_some_iff.mp hi).1
  have dl : (((o.take p).map (doneP m R)).flatten).length = offO m (o.take p) := done_len h fun b hb => ho b (List.mem_of_mem_take hb)
  unfold midN
  rw [List.getD_eq_getElem?_getD, List.getElem?_append_right (by lia), dl, show offO m (o.take p) + 1 + i - offO m (o.take p) = i + 1 by lia, List.getElem?_cons_succ, List.getElem?_append_right (by rw [List.length_map, List.length_take]; lia), List.length_map, List.length_take, show i - min i (fldI m a).length = 0 by lia, List.drop_eq_getElem_cons hil, (List.getElem?_eq_some_iff.mp hi).2]
  rfl
theorem scN_head {m S R o : List Int} {p : Nat} {a : Int} (h : Lies m S) (ho : ∀ a ∈ o, a ∈ S) (ha : o[p]? = some a) : (scN m R o p).getD (offO m (o.take p)) 0 = m.getD a.toNat 0 ∧ (scN m R o (p + 1)).getD (offO m (o.take p)) 0 = m.getD a.toNat 0 := by
  have haS := ho a (List.mem_of_getElem? ha)
  have dl : (((o.take p).map (doneP m R)).flatten).length = offO m (o.take p) := done_len h fun b hb => ho b (List.mem_of_mem_take hb)
  have key : ∀ i, (midN m R o p a i).getD (offO m (o.take p)) 0 = m.getD a.toNat 0 := fun i => by
    unfold midN
    rw [List.getD_eq_getElem?_getD, List.getElem?_append_right (by lia), dl, Nat.sub_self]
    rfl
  rw [← mid_start (R := R) h ha haS, ← mid_end (R := R) h ha haS]
  exact ⟨key _, key _⟩



theorem off_newM {l1 l2 : Addr} {xs ys : List V} : Mu.off [(("new" : Str), l1, xs), (("moved" : Str), l2, ys)] ("new" : Str) = [(("moved" : Str), l2, ys)] := rfl
noncomputable def sRho (m roots : List Int) (o : List Int) (p : Nat) : Rho := (("scan" : Str), V.int (offO m (o.take p) : Int)) :: cRho m roots o

set_option maxHeartbeats 4000000 in
/-- one object scanned -/
theorem copy_turn {W : Wd} {A : Around} {h₀ : Heap} {L f : Addr} {X₀ : List Addr} {s₀ : Shared} {k : Nat} {doc pm cdv ct : Value} {an : Option Addr} (F : Fns W) {m roots S R o mv : List Int} {p : Nat} {a : Int} {l1 l2 : Addr} (hz : m.length < 2 ^ 19) (hL : Lies m S) (c : Closed (fldI m) roots S) (b : BfsI (fldI m) roots S o p) (hR : addAll o (fldI m a) <+: R) (ha : o[p]? = some a) {Post : Fl → Mu → Rho → Prop}
    (h : ∀ l1, Post .next [(("new" : Str), l1, zints (scN m R (addAll o (fldI m a)) (p + 1))), (("moved" : Str), l2, zints mv)] (sRho m roots (addAll o (fldI m a)) (p + 1))) :
    Tri (CB W k A h₀ L f X₀ s₀ doc pm cdv ct an) [(("new" : Str), l1, zints (scN m R o p)), (("moved" : Str), l2, zints mv)] (sRho m roots o p) (whileBody ((fnBody (st 12)).getD 7 (.Pass ⟨0, 0, 0, 0⟩))) Post := by
  have hoS := b.sub
  have hon : o.Nodup := by rw [b.eq]; exact Gf_nodup
  have haS := hoS a (List.mem_of_getElem? ha)
  have hpl := (List.getElem?_eq_some_iff.mp ha).1
  obtain ⟨a0, a1, a2⟩ := hL.at' a haS
  have fl := fldI_len hL haS
  have hroom := hL.room o hon hoS
  have hin : ∀ i, ∀ x ∈ addAll o ((fldI m a).take i), x ∈ S := fun i x hx => by
    rcases mem_addAll.mp hx with h | ⟨w, hw, q1, q2⟩
    · exact hoS x h
    · rw [← q2]; exact c.f a haS w (List.mem_of_mem_take hw) q1
  have hnd : ∀ i, (addAll o ((fldI m a).take i)).Nodup := fun i => addAll_nodup hon
  have hpR : ∀ i, addAll o ((fldI m a).take i) <+: R := fun i => List.IsPrefix.trans addAll_take hR
  have htk : ∀ i, (addAll o ((fldI m a).take i)).take p = o.take p ∧ (addAll o ((fldI m a).take i))[p]? = some a := fun i => by
    obtain ⟨t, e⟩ := addAll_prefix (m := o) (ws := (fldI m a).take i)
    rw [← e, List.take_append_of_le_length (by lia), List.getElem?_append_left hpl]
    exact ⟨rfl, ha⟩
  have hsc : offO m (o.take p) + objN m a ≤ m.length := by
    have : offO m o = offO m (o.take p) + offO m (o.drop p) := by conv => lhs; rw [← List.take_append_drop p o, offO_append]
    rw [List.drop_eq_getElem_cons hpl, (List.getElem?_eq_some_iff.mp ha).2] at this
    have e2 : offO m (a :: o.drop (p + 1)) = objN m a + offO m (o.drop (p + 1)) := by simp [offO]
    lia
  have hob : ((objN m a : Nat) : Int) = m.getD a.toNat 0 + 1 := by unfold objN; lia
  have hd1 := scN_head (R := R) hL hoS ha
  have sl := scN_len (R := R) (p := p) hL hon hoS
  refine tri_cons (tri_forR (N := m.getD a.toNat 0) (X := []) (fun i μ ρ => ∃ l1, μ = [(("new" : Str), l1, zints (midN m R (addAll o ((fldI m a).take i)) p a i)), (("moved" : Str), l2, zints mv)] ∧ ρ = sRho m roots (addAll o ((fldI m a).take i)) p) (.inl rfl) (fun Kp γ s y => evv_built y.cx F.N.range.1 F.N.range.2) (fun Kp γ s y => ?_) (by lia) (by lia) ⟨l1, by rw [List.take_zero]; show _ = [(_, _, zints (midN m R o p a 0)), _]; rw [mid_start hL ha haS], rfl⟩ ?_ ?_ ?_)
  · rw [← hd1.1]
    exact ev_item (ds := zints (scN m R o p)) (j := (offO m (o.take p) : Int)) (ev_mu0 y (.head _)) (by (focus ((repeat' (first | exact ev_int | exact ev_none | exact ev_bool | exact ev_str | exact ev_nm (by assumption) (by rfl) | exact ev_rho (by assumption) (by rfl) | exact ev_nm (by assumption) (by assumption) | exact ev_rho (by assumption) (by assumption) | exact ev_nmO (by assumption) (by rfl) | exact ev_old (by assumption) (by rfl) | exact Ev.sub (ev_rho (by assumption) (by rfl)) sub_l | exact ev_mu0 (by assumption) (List.Mem.head _) | exact ev_mu0 (by assumption) (List.Mem.tail _ (List.Mem.head _)) | exact Ev.flat (ev_nm (by assumption) (by rfl)) (by rfl) | refine ev_add ?_ ?_ | refine ev_sub ?_ ?_ | refine ev_mulL ?_ ?_ | refine ev_mod ?_ ?_ | refine ev_div ?_ ?_ | refine ev_neg ?_ | refine ev_ltI ?_ ?_ | refine ev_abs (evv_built (Sat.cx (by assumption)) (Fns.N (by assumption)).abs.1 (Fns.N (by assumption)).abs.2) ?_ | refine ev_len (evv_built (Sat.cx (by assumption)) (Fns.N (by assumption)).len.1 (Fns.N (by assumption)).len.2) ?_ ?_ | assumption | lia | (rw [ints_len]; lia))); done))) (by lia) (by rw [ints_get (by lia) (by lia), Int.toNat_natCast]) (by lia)
  · rintro i μ' ρ' ⟨l1, rfl, _⟩
    rfl
  · rintro i μ' ρ' hi ⟨l1, rfl, rfl⟩
    have hil : i < (fldI m a).length := by lia
    obtain ⟨w, hw⟩ : ∃ w, (fldI m a)[i]? = some w := ⟨_, List.getElem?_eq_getElem hil⟩
    have es : addAll o ((fldI m a).take (i + 1)) = stepW (addAll o ((fldI m a).take i)) w := by rw [List.take_succ_eq_append_getElem hil, addAll_snoc, (List.getElem?_eq_some_iff.mp hw).2]
    have q1 := hin (i + 1)
    have q2 := hnd (i + 1)
    have q3 := hpR (i + 1)
    have p1 := hin i
    have p2 := hnd i
    obtain ⟨t1, t2⟩ := htk i
    obtain ⟨t3, t4⟩ := htk (i + 1)
    rw [es] at q1 q2 q3 t3 t4
    delta LoopP; dsimp only
    rw [es]
    generalize addAll o ((fldI m a).take i) = oi at q1 q2 q3 p1 p2 t1 t2 t3 t4 ⊢
    have hNl := midN_len (R := R) (i := i) hL p2 p1 t2
    have gt := midN_get (R := R) hL p1 t2 hw
    have ms := mid_step hL t2 q1 q2 q3 hw
    have fw := fw_of (N := midN m R oi p a i) hL q2 q1 q3 hNl rfl
    have hNl' : (if stepW oi w = oi then midN m R oi p a i else wr (midN m R oi p a i) (offO m oi) (blkI m (w / 2))).length = m.length := by
      have := congrArg List.length ms
      rw [List.length_set] at this
      rw [this, midN_len hL q2 q1 t4]
    generalize (if stepW oi w = oi then midN m R oi p a i else wr (midN m R oi p a i) (offO m oi) (blkI m (w / 2))) = N' at ms fw hNl'
    rw [t1] at gt ms
    unfold sRho
    rw [t1, t3]
    refine tri_unpack (ρ' := [(("i" : Str), V.int (i : Int)), (("scan" : Str), V.int (offO m (o.take p) : Int)), (("size" : Str), V.int (m.length : Int)), (("mem" : Str), V.old (.lst (zints m))), (("roots" : Str), V.old (.lst (zints roots)))]) (.inl rfl) (.inl rfl) (by decide) (fun Kp γ s y => evt_fn y F.forw (fun f doc pm an cdv ct h => forw_c F h fw hz (by rw [hNl]; exact hz) (by rw [fwdL_len]; exact hz)) (eva_cons (by (focus ((repeat' (first | exact ev_int | exact ev_none | exact ev_bool | exact ev_str | exact ev_nm (by assumption) (by rfl) | exact ev_rho (by assumption) (by rfl) | exact ev_nm (by assumption) (by assumption) | exact ev_rho (by assumption) (by assumption) | exact ev_nmO (by assumption) (by rfl) | exact ev_old (by assumption) (by rfl) | exact Ev.sub (ev_rho (by assumption) (by rfl)) sub_l | exact ev_mu0 (by assumption) (List.Mem.head _) | exact ev_mu0 (by assumption) (List.Mem.tail _ (List.Mem.head _)) | exact Ev.flat (ev_nm (by assumption) (by rfl)) (by rfl) | refine ev_add ?_ ?_ | refine ev_sub ?_ ?_ | refine ev_mulL ?_ ?_ | refine ev_mod ?_ ?_ | refine ev_div ?_ ?_ | refine ev_neg ?_ | refine ev_ltI ?_ ?_ | refine ev_abs (evv_built (Sat.cx (by assumption)) (Fns.N (by assumption)).abs.1 (Fns.N (by assumption)).abs.2) ?_ | refine ev_len (evv_built (Sat.cx (by assumption)) (Fns.N (by assumption)).len.1 (Fns.N (by assumption)).len.2) ?_ ?_ | assumption | lia | (rw [ints_len]; lia))); done))) (eva_cons (by (focus ((repeat' (first | exact ev_int | exact ev_none | exact ev_bool | exact ev_str | exact ev_nm (by assumption) (by rfl) | exact ev_rho (by assumption) (by rfl) | exact ev_nm (by assumption) (by assumption) | exact ev_rho (by assumption) (by assumption) | exact ev_nmO (by assumption) (by rfl) | exact ev_old (by assumption) (by rfl) | exact Ev.sub (ev_rho (by assumption) (by rfl)) sub_l | exact ev_mu0 (by assumption) (List.Mem.head _) | exact ev_mu0 (by assumption) (List.Mem.tail _ (List.Mem.head _)) | exact Ev.flat (ev_nm (by assumption) (by rfl)) (by rfl) | refine ev_add ?_ ?_ | refine ev_sub ?_ ?_ | refine ev_mulL ?_ ?_ | refine ev_mod ?_ ?_ | refine ev_div ?_ ?_ | refine ev_neg ?_ | refine ev_ltI ?_ ?_ | refine ev_abs (evv_built (Sat.cx (by assumption)) (Fns.N (by assumption)).abs.1 (Fns.N (by assumption)).abs.2) ?_ | refine ev_len (evv_built (Sat.cx (by assumption)) (Fns.N (by assumption)).len.1 (Fns.N (by assumption)).len.2) ?_ ?_ | assumption | lia | (rw [ints_len]; lia))); done))) (eva_cons (by (focus ((repeat' (first | exact ev_int | exact ev_none | exact ev_bool | exact ev_str | exact ev_nm (by assumption) (by rfl) | exact ev_rho (by assumption) (by rfl) | exact ev_nm (by assumption) (by assumption) | exact ev_rho (by assumption) (by assumption) | exact ev_nmO (by assumption) (by rfl) | exact ev_old (by assumption) (by rfl) | exact Ev.sub (ev_rho (by assumption) (by rfl)) sub_l | exact ev_mu0 (by assumption) (List.Mem.head _) | exact ev_mu0 (by assumption) (List.Mem.tail _ (List.Mem.head _)) | exact Ev.flat (ev_nm (by assumption) (by rfl)) (by rfl) | refine ev_add ?_ ?_ | refine ev_sub ?_ ?_ | refine ev_mulL ?_ ?_ | refine ev_mod ?_ ?_ | refine ev_div ?_ ?_ | refine ev_neg ?_ | refine ev_ltI ?_ ?_ | refine ev_abs (evv_built (Sat.cx (by assumption)) (Fns.N (by assumption)).abs.1 (Fns.N (by assumption)).abs.2) ?_ | refine ev_len (evv_built (Sat.cx (by assumption)) (Fns.N (by assumption)).len.1 (Fns.N (by assumption)).len.2) ?_ ?_ | assumption | lia | (rw [ints_len]; lia))); done))) (eva_cons (by (focus ((repeat' (first | exact ev_int | exact ev_none | exact ev_bool | exact ev_str | exact ev_nm (by assumption) (by rfl) | exact ev_rho (by assumption) (by rfl) | exact ev_nm (by assumption) (by assumption) | exact ev_rho (by assumption) (by assumption) | exact ev_nmO (by assumption) (by rfl) | exact ev_old (by assumption) (by rfl) | exact Ev.sub (ev_rho (by assumption) (by rfl)) sub_l | exact ev_mu0 (by assumption) (List.Mem.head _) | exact ev_mu0 (by assumption) (List.Mem.tail _ (List.Mem.head _)) | exact Ev.flat (ev_nm (by assumption) (by rfl)) (by rfl) | refine ev_add ?_ ?_ | refine ev_sub ?_ ?_ | refine ev_mulL ?_ ?_ | refine ev_mod ?_ ?_ | refine ev_div ?_ ?_ | refine ev_neg ?_ | refine ev_ltI ?_ ?_ | refine ev_abs (evv_built (Sat.cx (by assumption)) (Fns.N (by assumption)).abs.1 (Fns.N (by assumption)).abs.2) ?_ | refine ev_len (evv_built (Sat.cx (by assumption)) (Fns.N (by assumption)).len.1 (Fns.N (by assumption)).len.2) ?_ ?_ | assumption | lia | (rw [ints_len]; lia))); done))) (eva_cons (ev_item (ds := zints (midN m R oi p a i)) (j := (offO m (o.take p) : Int) + 1 + (i : Int)) (ev_mu0 y (.head _)) (by (focus ((repeat' (first | exact ev_int | exact ev_none | exact ev_bool | exact ev_str | exact ev_nm (by assumption) (by rfl) | exact ev_rho (by assumption) (by rfl) | exact ev_nm (by assumption) (by assumption) | exact ev_rho (by assumption) (by assumption) | exact ev_nmO (by assumption) (by rfl) | exact ev_old (by assumption) (by rfl) | exact Ev.sub (ev_rho (by assumption) (by rfl)) sub_l | exact ev_mu0 (by assumption) (List.Mem.head _) | exact ev_mu0 (by assumption) (List.Mem.tail _ (List.Mem.head _)) | exact Ev.flat (ev_nm (by assumption) (by rfl)) (by rfl) | refine ev_add ?_ ?_ | refine ev_sub ?_ ?_ | refine ev_mulL ?_ ?_ | refine ev_mod ?_ ?_ | refine ev_div ?_ ?_ | refine ev_neg ?_ | refine ev_ltI ?_ ?_ | refine ev_abs (evv_built (Sat.cx (by assumption)) (Fns.N (by assumption)).abs.1 (Fns.N (by assumption)).abs.2) ?_ | refine ev_len (evv_built (Sat.cx (by assumption)) (Fns.N (by assumption)).len.1 (Fns.N (by assumption)).len.2) ?_ ?_ | assumption | lia | (rw [ints_len]; lia))); done))) (by lia) (by rw [ints_get (by lia) (by lia), show ((offO m (o.take p) : Int) + 1 + (i : Int)).toNat = offO m (o.take p) + 1 + i by lia, gt]) (by lia)) eva_nil)))))) ⟨rfl, rfl, rfl, rfl, rfl, trivial⟩ rfl rfl flat_ints flat_ints (by intro x hx; simp only [List.mem_cons, List.not_mem_nil, or_false] at hx; rcases hx with rfl | rfl <;> rfl) fun l => ?_
    rw [off_newM]
    refine tri_cons (tri_assign (d := .lst (zints (fwdL m (stepW oi w) m.length))) (.inl rfl) (fun Kp γ s y => ev_itemT (ds := [.any, .lst (zints (fwdL m (stepW oi w) m.length)), .int (offO m (stepW oi w) : Int), .int (mendW m R w)]) (j := 1) (ev_rho y rfl) ev_int (by decide) rfl (by decide)) ?_)
    refine tri_cons (tri_assign (d := .int (offO m (stepW oi w) : Int)) (.inl rfl) (fun Kp γ s y => ev_itemT (ds := [.any, .lst (zints (fwdL m (stepW oi w) m.length)), .int (offO m (stepW oi w) : Int), .int (mendW m R w)]) (j := 2) (ev_rho y rfl) ev_int (by decide) rfl (by decide)) ?_)
    refine tri_cons (tri_setitem (μ₁ := []) (μ₂ := [(("moved" : Str), l2, zints mv)]) (d := .int (mendW m R w)) (j := (offO m (o.take p) : Int) + 1 + (i : Int)) rfl (fun Kp γ s y => ev_itemT (ds := [.any, .lst (zints (fwdL m (stepW oi w) m.length)), .int (offO m (stepW oi w) : Int), .int (mendW m R w)]) (j := 3) (ev_rho y rfl) ev_int (by decide) rfl (by decide)) (fun Kp γ s y => by (focus ((repeat' (first | exact ev_int | exact ev_none | exact ev_bool | exact ev_str | exact ev_nm (by assumption) (by rfl) | exact ev_rho (by assumption) (by rfl) | exact ev_nm (by assumption) (by assumption) | exact ev_rho (by assumption) (by assumption) | exact ev_nmO (by assumption) (by rfl) | exact ev_old (by assumption) (by rfl) | exact Ev.sub (ev_rho (by assumption) (by rfl)) sub_l | exact ev_mu0 (by assumption) (List.Mem.head _) | exact ev_mu0 (by assumption) (List.Mem.tail _ (List.Mem.head _)) | exact Ev.flat (ev_nm (by assumption) (by rfl)) (by rfl) | refine ev_add ?_ ?_ | refine ev_sub ?_ ?_ | refine ev_mulL ?_ ?_ | refine ev_mod ?_ ?_ | refine ev_div ?_ ?_ | refine ev_neg ?_ | refine ev_ltI ?_ ?_ | refine ev_abs (evv_built (Sat.cx (by assumption)) (Fns.N (by assumption)).abs.1 (Fns.N (by assumption)).abs.2) ?_ | refine ev_len (evv_built (Sat.cx (by assumption)) (Fns.N (by assumption)).len.1 (Fns.N (by assumption)).len.2) ?_ ?_ | assumption | lia | (rw [ints_len]; lia))); done))) (by lia) (by lia) (by rw [ints_len, hNl']; lia) ?_)
    rw [zset, show ((offO m (o.take p) : Int) + 1 + (i : Int)).toNat = offO m (o.take p) + 1 + i by lia, ms]
    exact tri_end (ρ' := (("scan" : Str), V.int (offO m (o.take p) : Int)) :: cRho m roots (stepW oi w)) ⟨rfl, rfl, rfl, rfl, rfl, rfl, trivial⟩ ⟨l, rfl, rfl⟩
  · rintro μ' ρ' ⟨l1, rfl, rfl⟩
    have hN : (m.getD a.toNat 0).toNat = (fldI m a).length := by lia
    rw [hN]
    obtain ⟨t1, t2⟩ := htk (fldI m a).length
    have p1 := hin (fldI m a).length
    have p2 := hnd (fldI m a).length
    rw [List.take_length] at t1 t2 p1 p2 ⊢
    rw [mid_end hL t2 haS]
    have hl2 := scN_len (R := R) (p := p + 1) hL p2 p1
    have hd2 := (scN_head (R := R) hL p1 t2).2
    rw [t1] at hd2
    have hpo : p < (addAll o (fldI m a)).length := (List.getElem?_eq_some_iff.mp t2).1
    have et : offO m ((addAll o (fldI m a)).take (p + 1)) = offO m (o.take p) + objN m a := by
      rw [List.take_succ_eq_append_getElem hpo, (List.getElem?_eq_some_iff.mp t2).2, t1, offO_append, offO_one]
    refine tri_cons (tri_assign (d := .int (offO m ((addAll o (fldI m a)).take (p + 1)) : Int)) (.inl rfl) (fun Kp γ s y => ?_) ?_)
    · rw [show ((offO m ((addAll o (fldI m a)).take (p + 1)) : Nat) : Int) = (offO m (o.take p) : Int) + m.getD a.toNat 0 + 1 by rw [et]; lia]
      refine ev_add (ev_add (ev_nm y (by unfold sRho; rw [t1]; rfl)) ?_) ev_int
      rw [← hd2]
      exact ev_item (ds := zints (scN m R (addAll o (fldI m a)) (p + 1))) (j := (offO m (o.take p) : Int)) (ev_mu0 y (.head _)) (ev_nm y (by unfold sRho; rw [t1]; rfl)) (by lia) (by rw [ints_get (by lia) (by lia), Int.toNat_natCast]) (by lia)
    exact tri_end (ρ' := sRho m roots (addAll o (fldI m a)) (p + 1)) ⟨rfl, rfl, rfl, rfl, rfl, rfl, trivial⟩ (h l1)




theorem off_lt {m S o : List Int} {p : Nat} (h : Lies m S) (ho : ∀ a ∈ o, a ∈ S) (hp : p ≤ o.length) : offO m (o.take p) < offO m o ↔ p < o.length := by
  have e : offO m o = offO m (o.take p) + offO m (o.drop p) := by conv => lhs; rw [← List.take_append_drop p o, offO_append]
  constructor
  · intro q
    by_cases hl : p < o.length
    · exact hl
    · rw [List.drop_of_length_le (by lia)] at e
      simp [offO] at e q
      lia
  · intro q
    rw [List.drop_eq_getElem_cons q] at e
    have e2 : offO m (o[p] :: o.drop (p + 1)) = objN m o[p] + offO m (o.drop (p + 1)) := by
      rw [show o[p] :: o.drop (p + 1) = [o[p]] ++ o.drop (p + 1) from rfl, offO_append, offO_one]
    have := h.at' o[p] (ho _ (List.getElem_mem q))
    have : 1 ≤ objN m o[p] := by unfold objN; lia
    lia
theorem two_tup {X : List Addr} {h : Heap} {v : Value} {xs ys : List V} (r : Rd X h v (.two xs ys [])) : Rd X h v (.tup [.lst xs, .lst ys]) := by
  cases r with
  | two e1 x1 e2 x2 r2 e3 x3 r3 ne r => cases r; exact .tup e1 x1 (.cons (.lst e2 x2 r2) (.cons (.lst e3 x3 r3) .nil))
noncomputable def scanGo (ρ : Rho) : Bool := match ρ.lookup ("scan" : Str), ρ.lookup ("top" : Str) with
  | some (.int a), some (.int b) => decide (a < b)
  | _, _ => false
/-- the copy's memory -/
noncomputable def copyM (m R : List Int) : List Int := (R.map (doneP m R)).flatten ++ freeI (m.length - offO m R)




theorem scN_end {m S R : List Int} (h : Lies m S) (hn : R.Nodup) (hR : ∀ a ∈ R, a ∈ S) : scN m R R R.length = (R.map (doneP m R)).flatten ++ List.replicate (m.length - offO m R) 0 := by
  unfold scN; rw [List.take_length, List.drop_length]; simp
set_option maxHeartbeats 4000000 in
theorem copy_c {W : Wd} {f : Addr} {doc pm cdv ct : Value} {an : Option Addr} {k : Nat} (F : Fns W) (hd : W.defs f (fdOf "collected_by_copying" (st 12) doc pm an cdv ct)) {m roots S R : List Int} (hz : m.length < 2 ^ 19) (hrl : roots.length < 1000) (hL : Lies m S) (c : Closed (fldI m) roots S) (h1 : Fix (fldI m) roots R) (h2 : Prod' (fldI m) roots R) :
    FnC W (k + 1 + 1 + 1) f [.lst (zints m), .lst (zints roots)] (.tup [.lst (zints (copyM m R)), .lst (zints (roots.map (mendW m R)))]) := by
  refine fnc_def (ps := ["mem", "roots"]) hd ?_ (by decide) rfl ?_ (by decide) rfl rfl rfl ?_
  · exact bind2 fun _ _ => rfl
  · intro n x hx
    simp only [List.mem_cons, List.not_mem_nil, or_false] at hx
    rcases hx with rfl | rfl <;> exact .inl rfl
  intro A h₀ L X₀ s₀
  refine copy_roots F hz hrl hL c h1 fun l1 l2 => ?_
  rw [← scN_zero (R := R)]
  refine tri_cons (tri_assign (d := .int ((0 : Nat) : Int)) (.inl rfl) (fun Kp γ s y => ev_int) ?_)
  refine tri_cons (tri_while S.length (fun i μ ρ => ∃ l1 o, μ = [(("new" : Str), l1, zints (scN m R o i)), (("moved" : Str), l2, zints (roots.map (mendW m R)))] ∧ ρ = sRho m roots o i ∧ BfsI (fldI m) roots S o i ∧ o <+: R) (fun i μ ρ => scanGo ρ) ?_ ?_ ?_ ?_)
  · refine ⟨l1, _, rfl, rfl, bfs_start c, ?_⟩
    exact bfs_prefix h1 (bfs_start c) List.nil_prefix
  · rintro i μ' ρ' ⟨l1, o, rfl, rfl, b, hp⟩ Kp γ s y
    exact bt_ltI (by (focus ((repeat' (first | exact ev_int | exact ev_none | exact ev_bool | exact ev_str | exact ev_nm (by assumption) (by rfl) | exact ev_rho (by assumption) (by rfl) | exact ev_nm (by assumption) (by assumption) | exact ev_rho (by assumption) (by assumption) | exact ev_nmO (by assumption) (by rfl) | exact ev_old (by assumption) (by rfl) | exact Ev.sub (ev_rho (by assumption) (by rfl)) sub_l | exact ev_mu0 (by assumption) (List.Mem.head _) | exact ev_mu0 (by assumption) (List.Mem.tail _ (List.Mem.head _)) | exact Ev.flat (ev_nm (by assumption) (by rfl)) (by rfl) | refine ev_add ?_ ?_ | refine ev_sub ?_ ?_ | refine ev_mulL ?_ ?_ | refine ev_mod ?_ ?_ | refine ev_div ?_ ?_ | refine ev_neg ?_ | refine ev_ltI ?_ ?_ | refine ev_abs (evv_built (Sat.cx (by assumption)) (Fns.N (by assumption)).abs.1 (Fns.N (by assumption)).abs.2) ?_ | refine ev_len (evv_built (Sat.cx (by assumption)) (Fns.N (by assumption)).len.1 (Fns.N (by assumption)).len.2) ?_ ?_ | assumption | lia | (rw [ints_len]; lia))); done))) (by (focus ((repeat' (first | exact ev_int | exact ev_none | exact ev_bool | exact ev_str | exact ev_nm (by assumption) (by rfl) | exact ev_rho (by assumption) (by rfl) | exact ev_nm (by assumption) (by assumption) | exact ev_rho (by assumption) (by assumption) | exact ev_nmO (by assumption) (by rfl) | exact ev_old (by assumption) (by rfl) | exact Ev.sub (ev_rho (by assumption) (by rfl)) sub_l | exact ev_mu0 (by assumption) (List.Mem.head _) | exact ev_mu0 (by assumption) (List.Mem.tail _ (List.Mem.head _)) | exact Ev.flat (ev_nm (by assumption) (by rfl)) (by rfl) | refine ev_add ?_ ?_ | refine ev_sub ?_ ?_ | refine ev_mulL ?_ ?_ | refine ev_mod ?_ ?_ | refine ev_div ?_ ?_ | refine ev_neg ?_ | refine ev_ltI ?_ ?_ | refine ev_abs (evv_built (Sat.cx (by assumption)) (Fns.N (by assumption)).abs.1 (Fns.N (by assumption)).abs.2) ?_ | refine ev_len (evv_built (Sat.cx (by assumption)) (Fns.N (by assumption)).len.1 (Fns.N (by assumption)).len.2) ?_ ?_ | assumption | lia | (rw [ints_len]; lia))); done)))
  · rintro i μ' ρ' ⟨l1, o, rfl, rfl, b, hp⟩ hg
    have hlt : i < o.length := (off_lt hL b.sub b.le).mp (by have := of_decide_eq_true hg; lia)
    obtain ⟨a, ha⟩ : ∃ a, o[i]? = some a := ⟨_, List.getElem?_eq_getElem hlt⟩
    have b' := bfs_step c b ha
    have hp' : addAll o (fldI m a) <+: R := by
      refine bfs_prefix h1 b' ?_
      obtain ⟨t, e⟩ := addAll_prefix (m := o) (ws := fldI m a)
      rw [← e, List.take_append_of_le_length (by lia)]
      exact take_prefix hp
    exact ⟨by have := bfs_len b; lia, copy_turn F hz hL c b hp' ha fun l => ⟨l, _, rfl, rfl, b', hp'⟩⟩
  · rintro i μ' ρ' ⟨l1, o, rfl, rfl, b, hp⟩ hg
    have hge : o.length ≤ i := by
      by_cases q : i < o.length
      · have q2 := (off_lt hL b.sub b.le).mpr q
        have := of_decide_eq_false hg
        lia
      · lia
    obtain ⟨f1, f2⟩ := bfs_end b hge
    obtain rfl := fix_unique h1 h2 f1 f2
    obtain rfl : i = R.length := by have := b.le; lia
    have hn : R.Nodup := by rw [b.eq]; exact Gf_nodup
    have hroom := hL.room R hn b.sub
    have dl : ((R.map (doneP m R)).flatten).length = offO m R := done_len hL b.sub
    rw [scN_end hL hn b.sub]
    refine tri_cons (tri_if (b := decide ((offO m R : Int) < (m.length : Int))) (fun Kp γ s y => by (focus (((first | refine bt_eqI ?_ ?_ | refine bt_neI ?_ ?_ | refine bt_ltI ?_ ?_ | refine bt_leI ?_ ?_ | refine bt_gtI ?_ ?_ | refine bt_geI ?_ ?_) <;> (focus ((repeat' (first | exact ev_int | exact ev_none | exact ev_bool | exact ev_str | exact ev_nm (by assumption) (by rfl) | exact ev_rho (by assumption) (by rfl) | exact ev_nm (by assumption) (by assumption) | exact ev_rho (by assumption) (by assumption) | exact ev_nmO (by assumption) (by rfl) | exact ev_old (by assumption) (by rfl) | exact Ev.sub (ev_rho (by assumption) (by rfl)) sub_l | exact ev_mu0 (by assumption) (List.Mem.head _) | exact ev_mu0 (by assumption) (List.Mem.tail _ (List.Mem.head _)) | exact Ev.flat (ev_nm (by assumption) (by rfl)) (by rfl) | refine ev_add ?_ ?_ | refine ev_sub ?_ ?_ | refine ev_mulL ?_ ?_ | refine ev_mod ?_ ?_ | refine ev_div ?_ ?_ | refine ev_neg ?_ | refine ev_ltI ?_ ?_ | refine ev_abs (evv_built (Sat.cx (by assumption)) (Fns.N (by assumption)).abs.1 (Fns.N (by assumption)).abs.2) ?_ | refine ev_len (evv_built (Sat.cx (by assumption)) (Fns.N (by assumption)).len.1 (Fns.N (by assumption)).len.2) ?_ ?_ | assumption | lia | (rw [ints_len]; lia))); done)))))) ?_)
    have fin : ∀ {l : Addr} {N : List Int} {ρ : Rho}, N = copyM m R → Tri (CB W k A h₀ L f X₀ s₀ doc pm cdv ct an) [(("new" : Str), l, zints N), (("moved" : Str), l2, zints (roots.map (mendW m R)))] ρ ((fnBody (st 12)).drop 9) (fun fl _ _ => fl = .ret (.tup [.lst (zints (copyM m R)), .lst (zints (roots.map (mendW m R)))])) := by
      rintro l N ρ rfl
      have e2 : ∀ {p1 p2 pos n}, Es (CB W k A h₀ L f X₀ s₀ doc pm cdv ct an) [(("new" : Str), l, zints (copyM m R)), (("moved" : Str), l2, zints (roots.map (mendW m R)))] ρ X₀ (.Tuple [.Name "new" p1, .Name "moved" p2] n pos) (.two (zints (copyM m R)) (zints (roots.map (mendW m R))) []) := es_two (.head _) (.tail _ (.head _)) (by decide) (fun Kp γ s y => eva_nil) (show (2 : Nat) ≤ sizeLine by decide)
      exact tri_cons (tri_ret (fun Kp γ s y s₁ Q E le g => e2 Kp γ s y s₁ Q E le fun v s' g' r => g v s' g' (two_tup r)) rfl)
    by_cases hlt : offO m R < m.length
    · rw [decide_eq_true (by lia)]
      refine tri_cons (tri_setitem (μ₁ := []) (μ₂ := [(("moved" : Str), l2, zints (roots.map (mendW m R)))]) (d := .int ((offO m R : Int) - (m.length : Int))) (j := (offO m R : Int)) rfl (fun Kp γ s y => by (focus ((repeat' (first | exact ev_int | exact ev_none | exact ev_bool | exact ev_str | exact ev_nm (by assumption) (by rfl) | exact ev_rho (by assumption) (by rfl) | exact ev_nm (by assumption) (by assumption) | exact ev_rho (by assumption) (by assumption) | exact ev_nmO (by assumption) (by rfl) | exact ev_old (by assumption) (by rfl) | exact Ev.sub (ev_rho (by assumption) (by rfl)) sub_l | exact ev_mu0 (by assumption) (List.Mem.head _) | exact ev_mu0 (by assumption) (List.Mem.tail _ (List.Mem.head _)) | exact Ev.flat (ev_nm (by assumption) (by rfl)) (by rfl) | refine ev_add ?_ ?_ | refine ev_sub ?_ ?_ | refine ev_mulL ?_ ?_ | refine ev_mod ?_ ?_ | refine ev_div ?_ ?_ | refine ev_neg ?_ | refine ev_ltI ?_ ?_ | refine ev_abs (evv_built (Sat.cx (by assumption)) (Fns.N (by assumption)).abs.1 (Fns.N (by assumption)).abs.2) ?_ | refine ev_len (evv_built (Sat.cx (by assumption)) (Fns.N (by assumption)).len.1 (Fns.N (by assumption)).len.2) ?_ ?_ | assumption | lia | (rw [ints_len]; lia))); done))) (fun Kp γ s y => by (focus ((repeat' (first | exact ev_int | exact ev_none | exact ev_bool | exact ev_str | exact ev_nm (by assumption) (by rfl) | exact ev_rho (by assumption) (by rfl) | exact ev_nm (by assumption) (by assumption) | exact ev_rho (by assumption) (by assumption) | exact ev_nmO (by assumption) (by rfl) | exact ev_old (by assumption) (by rfl) | exact Ev.sub (ev_rho (by assumption) (by rfl)) sub_l | exact ev_mu0 (by assumption) (List.Mem.head _) | exact ev_mu0 (by assumption) (List.Mem.tail _ (List.Mem.head _)) | exact Ev.flat (ev_nm (by assumption) (by rfl)) (by rfl) | refine ev_add ?_ ?_ | refine ev_sub ?_ ?_ | refine ev_mulL ?_ ?_ | refine ev_mod ?_ ?_ | refine ev_div ?_ ?_ | refine ev_neg ?_ | refine ev_ltI ?_ ?_ | refine ev_abs (evv_built (Sat.cx (by assumption)) (Fns.N (by assumption)).abs.1 (Fns.N (by assumption)).abs.2) ?_ | refine ev_len (evv_built (Sat.cx (by assumption)) (Fns.N (by assumption)).len.1 (Fns.N (by assumption)).len.2) ?_ ?_ | assumption | lia | (rw [ints_len]; lia))); done))) (by lia) (by lia) (by rw [ints_len, List.length_append, dl, List.length_replicate]; lia) ?_)
      rw [zset, Int.toNat_natCast]
      refine tri_nil (Tri.mono (fin ?_) fun fl _ _ h => .inl h)
      unfold copyM freeI
      rw [List.set_append_right (h := by lia), dl, Nat.sub_self, if_neg (by lia), show m.length - offO m R = (m.length - offO m R - 1) + 1 by lia, List.replicate_succ, List.set_cons_zero]
      congr 2
      lia
    · rw [decide_eq_false (by lia)]
      refine tri_nil (Tri.mono (fin ?_) fun fl _ _ h => .inl h)
      unfold copyM freeI
      rw [show m.length - offO m R = 0 by lia]
      rfl

noncomputable abbrev lz (p : List Int) : V := .lst (zints p)
theorem range_map {α β : Type} (F : α → β) (d : α) : ∀ l : List α, (List.range l.length).map (fun i => F (l.getD i d)) = l.map F := by
  intro l
  apply List.ext_getElem?
  intro i
  rw [List.getElem?_map, List.getElem?_map]
  by_cases h : i < l.length
  · rw [List.getElem?_range h, List.getElem?_eq_getElem h, Option.map_some, Option.map_some, List.getD_eq_getElem?_getD, List.getElem?_eq_getElem h]; rfl
  · rw [List.getElem?_eq_none (by simpa using h), List.getElem?_eq_none (by lia)]; rfl
theorem zgetD {ws : List Int} {i : Nat} (h : i < ws.length) : (zints ws).getD i .none = .int (ws.getD i 0) := by
  unfold zints
  rw [List.getD_eq_getElem?_getD, List.getElem?_map, List.getD_eq_getElem?_getD, List.getElem?_eq_getElem h]; rfl
theorem Src.flat {W : Wd} {A : Around} {env : Env} {X Y : List Addr} {h : Heap} {iter : Expr} {n : Nat} {it : Nat → V} (x : Src W A env Y h iter n it) (hf : ∀ i, i < n → (it i).flat = true) : Src W A env X h iter n it := fun s Q E l f =>
  x s Q E l fun I fp P St s' g hn Wk st hfp hIs hit => f I fp P St s' g hn Wk st hfp hIs fun i v h' hi hP hk => (hit i v h' hi hP hk).flat (hf i hi)
theorem zhead {p : List Int} (h : 1 ≤ p.length) : (zints p)[(0 : Int).toNat]? = some (.int (p.headD 0)) := by
  cases p with
  | nil => simp at h
  | cons a r => rfl
theorem zfree2 {n : Nat} : cut ([V.int (-(n : Int))] ++ List.replicate (n : Int).toNat (V.int 0)) none (some (n : Int)) = zints (freeI n) := by
  unfold cut freeI
  simp only [Option.elim, Int.toNat_natCast, List.drop_zero]
  cases n with
  | zero => simp [zints]
  | succ m =>
    rw [if_neg (by lia), List.singleton_append, List.take_succ_cons, List.take_replicate]
    unfold zints
    rw [List.map_cons, List.map_replicate]
    congr 2
    lia

theorem free_c {W : Wd} {f : Addr} {doc pm cdv ct : Value} {an : Option Addr} {k : Nat} (F : Fns W) (hd : W.defs f (fdOf "_law_free" (st 15) doc pm an cdv ct)) {n : Nat} (hn : n < 1000) :
    FnC W (k + 1) f [.int (n : Int)] (lz (freeI n)) := by
  refine fnc_def (ps := ["n"]) hd ?_ (by decide) rfl ?_ (by decide) rfl rfl rfl ?_
  · exact bind1 fun _ => rfl
  · intro n x hx
    rw [List.mem_singleton.mp hx]; exact .inl rfl
  · intro A h₀ L X₀ s₀
    have hsl : (2000 : Nat) ≤ sizeLine := by decide
    refine tri_cons (tri_ret (d := .lst (zints (freeI n))) (fun Kp γ s y => ?_) (.inl rfl))
    rw [← zfree2]
    refine EvF.ev (evf_slice (y.cx.sub fun a ha => List.mem_append.mpr (.inr ha)) (Y := []) (EvF.ev (evf_addX (y.cx.sub sub_nil) (EvF.ev (evf_list (y.cx.sub sub_nil) (eva_cons (by (focus ((repeat' (first | exact ev_int | exact ev_none | exact ev_bool | exact ev_str | exact ev_nm (by assumption) (by rfl) | exact ev_rho (by assumption) (by rfl) | exact ev_nm (by assumption) (by assumption) | exact ev_rho (by assumption) (by assumption) | exact ev_nmO (by assumption) (by rfl) | exact ev_old (by assumption) (by rfl) | exact Ev.sub (ev_rho (by assumption) (by rfl)) sub_l | exact ev_mu0 (by assumption) (List.Mem.head _) | exact ev_mu0 (by assumption) (List.Mem.tail _ (List.Mem.head _)) | exact Ev.flat (ev_nm (by assumption) (by rfl)) (by rfl) | refine ev_add ?_ ?_ | refine ev_sub ?_ ?_ | refine ev_mulL ?_ ?_ | refine ev_mod ?_ ?_ | refine ev_div ?_ ?_ | refine ev_neg ?_ | refine ev_ltI ?_ ?_ | refine ev_abs (evv_built (Sat.cx (by assumption)) (Fns.N (by assumption)).abs.1 (Fns.N (by assumption)).abs.2) ?_ | refine ev_len (evv_built (Sat.cx (by assumption)) (Fns.N (by assumption)).len.1 (Fns.N (by assumption)).len.2) ?_ ?_ | assumption | lia | (rw [ints_len]; lia))); done))) eva_nil))) (EvF.ev (evf_mul (y.cx.sub sub_nil) (EvF.ev (evf_list (y.cx.sub sub_nil) (eva_cons (by (focus ((repeat' (first | exact ev_int | exact ev_none | exact ev_bool | exact ev_str | exact ev_nm (by assumption) (by rfl) | exact ev_rho (by assumption) (by rfl) | exact ev_nm (by assumption) (by assumption) | exact ev_rho (by assumption) (by assumption) | exact ev_nmO (by assumption) (by rfl) | exact ev_old (by assumption) (by rfl) | exact Ev.sub (ev_rho (by assumption) (by rfl)) sub_l | exact ev_mu0 (by assumption) (List.Mem.head _) | exact ev_mu0 (by assumption) (List.Mem.tail _ (List.Mem.head _)) | exact Ev.flat (ev_nm (by assumption) (by rfl)) (by rfl) | refine ev_add ?_ ?_ | refine ev_sub ?_ ?_ | refine ev_mulL ?_ ?_ | refine ev_mod ?_ ?_ | refine ev_div ?_ ?_ | refine ev_neg ?_ | refine ev_ltI ?_ ?_ | refine ev_abs (evv_built (Sat.cx (by assumption)) (Fns.N (by assumption)).abs.1 (Fns.N (by assumption)).abs.2) ?_ | refine ev_len (evv_built (Sat.cx (by assumption)) (Fns.N (by assumption)).len.1 (Fns.N (by assumption)).len.2) ?_ ?_ | assumption | lia | (rw [ints_len]; lia))); done))) eva_nil))) (by (focus ((repeat' (first | exact ev_int | exact ev_none | exact ev_bool | exact ev_str | exact ev_nm (by assumption) (by rfl) | exact ev_rho (by assumption) (by rfl) | exact ev_nm (by assumption) (by assumption) | exact ev_rho (by assumption) (by assumption) | exact ev_nmO (by assumption) (by rfl) | exact ev_old (by assumption) (by rfl) | exact Ev.sub (ev_rho (by assumption) (by rfl)) sub_l | exact ev_mu0 (by assumption) (List.Mem.head _) | exact ev_mu0 (by assumption) (List.Mem.tail _ (List.Mem.head _)) | exact Ev.flat (ev_nm (by assumption) (by rfl)) (by rfl) | refine ev_add ?_ ?_ | refine ev_sub ?_ ?_ | refine ev_mulL ?_ ?_ | refine ev_mod ?_ ?_ | refine ev_div ?_ ?_ | refine ev_neg ?_ | refine ev_ltI ?_ ?_ | refine ev_abs (evv_built (Sat.cx (by assumption)) (Fns.N (by assumption)).abs.1 (Fns.N (by assumption)).abs.2) ?_ | refine ev_len (evv_built (Sat.cx (by assumption)) (Fns.N (by assumption)).len.1 (Fns.N (by assumption)).len.2) ?_ ?_ | assumption | lia | (rw [ints_len]; lia))); done))) (by lia) (by lia))) (by simp; lia))) (show EvP _ _ _ _ none none from trivial) (show EvP _ _ _ _ (some _) (some (n : Int)) from by show Ev _ _ _ _ _ _ _; (focus ((repeat' (first | exact ev_int | exact ev_none | exact ev_bool | exact ev_str | exact ev_nm (by assumption) (by rfl) | exact ev_rho (by assumption) (by rfl) | exact ev_nm (by assumption) (by assumption) | exact ev_rho (by assumption) (by assumption) | exact ev_nmO (by assumption) (by rfl) | exact ev_old (by assumption) (by rfl) | exact Ev.sub (ev_rho (by assumption) (by rfl)) sub_l | exact ev_mu0 (by assumption) (List.Mem.head _) | exact ev_mu0 (by assumption) (List.Mem.tail _ (List.Mem.head _)) | exact Ev.flat (ev_nm (by assumption) (by rfl)) (by rfl) | refine ev_add ?_ ?_ | refine ev_sub ?_ ?_ | refine ev_mulL ?_ ?_ | refine ev_mod ?_ ?_ | refine ev_div ?_ ?_ | refine ev_neg ?_ | refine ev_ltI ?_ ?_ | refine ev_abs (evv_built (Sat.cx (by assumption)) (Fns.N (by assumption)).abs.1 (Fns.N (by assumption)).abs.2) ?_ | refine ev_len (evv_built (Sat.cx (by assumption)) (Fns.N (by assumption)).len.1 (Fns.N (by assumption)).len.2) ?_ ?_ | assumption | lia | (rw [ints_len]; lia))); done))) (fun _ h => (nomatch h)) (fun i h => by cases h; lia) (fun _ _ r => r.flat ?_) (by simp; lia))
    intro x hx
    rcases List.mem_append.mp hx with h | h
    · rw [List.mem_singleton.mp h]; rfl
    · rw [List.eq_of_mem_replicate h]; rfl

/-- a word as the table mends it -/
noncomputable def mendL (l : List (Int × Int)) (w : Int) : Int := if w % 2 = 1 then 2 * (l.lookup (w / 2)).getD 0 + 1 else w
theorem mended_c {W : Wd} {f : Addr} {doc pm cdv ct : Value} {an : Option Addr} {k : Nat} (F : Fns W) (hd : W.defs f (fdOf "_law_mended" (st 16) doc pm an cdv ct)) {ws : List Int} {l : List (Int × Int)} {pd : V} (hz : ws.length < 1000) (hw : ∀ w ∈ ws, w % 2 = 1 → pd = .dct l ∧ ∃ x, l.lookup (w / 2) = some x) :
    FnC W (k + 1) f [lz ws, pd] (lz (ws.map (mendL l))) := by
  refine fnc_def (ps := ["words", "place"]) hd ?_ (by decide) rfl ?_ (by decide) rfl rfl rfl ?_
  · exact bind2 fun _ _ => rfl
  · intro n x hx
    simp only [List.mem_cons, List.not_mem_nil, or_false] at hx
    rcases hx with rfl | rfl
    · exact .inl rfl
    · exact .inr ⟨rfl, rfl⟩
  · intro A h₀ L X₀ s₀
    have hsl : (2000 : Nat) ≤ sizeLine := by decide
    refine tri_cons (tri_ret (d := .lst (zints (ws.map (mendL l)))) (fun Kp γ s y => ?_) (.inl rfl))
    have cx := y.cx
    have e : zints (ws.map (mendL l)) = picked (zints ws).length (fun _ => true) fun i => .int (mendL l (ws.getD i 0)) := by
      rw [picked_all, ints_len, range_map (fun w => V.int (mendL l w)) 0]
      unfold zints; rw [List.map_map]; rfl
    rw [e]
    refine EvF.ev (evf_compF (cl := [("place", L + 1)]) (it := fun i => (zints ws).getD i .none) (fun _ => true) (fun i => .int (mendL l (ws.getD i 0))) (X := X₀) cx rfl (by decide) rfl (by decide) rfl (Src.flat (src_list (ds := zints ws) (Y := []) cx.cn.hand (ev_nmO y rfl)) fun i hi => by rw [zgetD (by rwa [ints_len] at hi)]; rfl) (by rw [ints_len]; lia) (fun i C v s' E Q hi l cx' vx r f => no_tests f) ?_ (fun i hi => rfl))
    intro i C v h' hi _ le cx' vx r
    rw [ints_len] at hi
    rw [zgetD hi] at r
    have hm : ws.getD i 0 ∈ ws := by rw [List.getD_eq_getElem?_getD, List.getElem?_eq_getElem hi]; exact List.getElem_mem hi
    have own : ∀ {p}, Ev W A _ [] h' (.Name "w" p) (.int (ws.getD i 0)) := fun {p} => ev_own cx' vx r
    unfold mendL
    refine ev_if (b := decide (ws.getD i 0 % 2 = 1)) (bt_eqI (ev_mod own ev_int) ev_int) ?_
    by_cases ho : ws.getD i 0 % 2 = 1
    · rw [decide_eq_true ho, if_pos ho]
      obtain ⟨hpd, x, hx⟩ := hw _ hm ho
      subst hpd
      rw [hx]
      exact ev_add (ev_mulL ev_int (ev_itemD (ev_freeO y le cx' rfl sub_nil) (ev_div own ev_int) hx)) ev_int
    · rw [decide_eq_false ho, if_neg ho]
      exact Ev.flat own rfl

theorem last_get {O : List (List Int)} : (([0] :: O).map lz)[((-1 : Int) + ((([0] :: O).map lz).length : Nat)).toNat]? = some (lz (lastP ([0] :: O))) := by
  have e : ((-1 : Int) + ((([0] :: O).map lz).length : Nat)).toNat = O.length := by rw [List.length_map, List.length_cons]; lia
  rw [e, List.getElem?_map]
  unfold lastP
  rw [List.getLastD_eq_getLast?, List.getLast?_eq_getElem?]
  simp
theorem split_map {O : List (List Int)} (h : (lastP O).headD 0 < 0) : (([0] :: O).map lz) = ([0] :: O.dropLast).map lz ++ [lz (lastP O)] := by
  conv => lhs; rw [split_last h]
  simp
theorem joinP_pos {ps : List (List Int)} : (∀ p ∈ ps, 1 ≤ p.length) → ∀ p ∈ joinP ps, 1 ≤ p.length := by
  refine snoc_ind (P := fun ps => (∀ p ∈ ps, 1 ≤ p.length) → ∀ p ∈ joinP ps, 1 ≤ p.length) (fun _ p hp => by cases hp) (fun ps q ih h p hp => ?_) ps
  have ih := ih fun p hp => h p (List.mem_append.mpr (.inl hp))
  have hq := h q (List.mem_append.mpr (.inr (.head _)))
  rw [joinP_snoc] at hp
  unfold joinStep at hp
  split at hp
  · rcases List.mem_append.mp hp with hp | hp
    · exact ih p (List.dropLast_subset _ hp)
    · rw [List.mem_singleton.mp hp, freeI_len]; lia
  · rcases List.mem_append.mp hp with hp | hp
    · exact ih p hp
    · rw [List.mem_singleton.mp hp]; exact hq
theorem last_pos {O : List (List Int)} (h : ∀ q ∈ O, 1 ≤ q.length) : 1 ≤ (lastP ([0] :: O)).length := by
  unfold lastP
  rw [List.getLastD_eq_getLast?, List.getLast?_eq_some_getLast (by simp)]
  rcases List.mem_cons.mp (List.getLast_mem (l := [0] :: O) (by simp)) with e | e
  · rw [Option.getD_some, e]; decide
  · exact h _ e
set_option maxHeartbeats 4000000 in
theorem joined_c {W : Wd} {f : Addr} {doc pm cdv ct : Value} {an : Option Addr} {k : Nat} (F : Fns W) (hd : W.defs f (fdOf "_law_joined" (st 17) doc pm an cdv ct)) {ps : List (List Int)} (hp : ∀ p ∈ ps, 1 ≤ p.length) (hz : ps.flatten.length < 900) (hz2 : ps.length < 900) :
    FnO W (k + 1 + 1) f [.lst (ps.map lz)] (.lst ((joinP ps).map lz)) := by
  refine fno_def (ps := ["pieces"]) hd ?_ (by decide) rfl ?_ (by decide) rfl rfl rfl ?_
  · exact bind1 fun _ => rfl
  · intro n x hx
    rw [List.mem_singleton.mp hx]; exact .inl rfl
  intro A h₀ L s₀
  have hsl : (2000 : Nat) ≤ sizeLine := by decide
  refine tri_cons (tri_assignM (ds := ([0] :: joinP []).map lz) (.inl rfl) (fun Kp γ s y => evf_list y.cx (eva_cons (EvF.ev (evf_list y.cx (eva_cons ev_int eva_nil))) eva_nil)) fun l => ?_)
  refine tri_cons (tri_forL (ds := ps.map lz) (fun i μ ρ => μ = [(("out" : Str), l, ([0] :: joinP (ps.take i)).map lz)] ∧ ρ = [(("pieces" : Str), .old (.lst (ps.map lz)))]) (.inl rfl) (fun Kp γ s y => ev_old y rfl) ⟨by rw [List.take_zero], rfl⟩ ?_ ?_ ?_)
  · rintro i μ ρ ⟨rfl, rfl⟩; rfl
  · rintro i d μ ρ hdi ⟨rfl, rfl⟩
    rw [List.getElem?_map] at hdi
    obtain ⟨p, hpi, rfl⟩ := Option.map_eq_some_iff.mp hdi
    have hip := (List.getElem?_eq_some_iff.mp hpi).1
    have hpm : p ∈ ps := List.mem_of_getElem? hpi
    have hpl := hp p hpm
    have htk : ps.take (i + 1) = ps.take i ++ [p] := by rw [List.take_succ_eq_append_getElem hip, (List.getElem?_eq_some_iff.mp hpi).2]
    have hjl : (joinP (ps.take i)).length < 900 := Nat.lt_of_le_of_lt joinP_count (by rw [List.length_take]; lia)
    have hfl : (joinP (ps.take i)).flatten.length + p.length < 900 := by
      rw [joinP_len]
      have e1 : (ps.take (i + 1)).flatten.length = (ps.take i).flatten.length + p.length := by rw [htk, flat_snoc, List.length_append]
      have e2 : (ps.take (i + 1)).flatten.length ≤ ps.flatten.length := by
        conv => rhs; rw [← List.take_append_drop (i + 1) ps, List.flatten_append, List.length_append]
        lia
      lia
    show Tri _ _ ((("p" : Str), .old (lz p)) :: _) _ _
    generalize hO : joinP (ps.take i) = O at hjl hfl ⊢
    have hnext : joinStep O p = joinP (ps.take (i + 1)) := by rw [htk, joinP_snoc, hO]
    have hlen : (-(((([0] :: O).map lz).length : Nat) : Int)) ≤ -1 := by rw [List.length_map, List.length_cons]; lia
    refine tri_cons (tri_if (b := decide (p.headD 0 < 0) && (decide ((lastP ([0] :: O)).headD 0 < 0) && true)) (fun Kp γ s y => ?_) ?_)
    · refine bt_and (bt_ltI (ev_item (ds := zints p) (j := 0) (ev_nmO y rfl) ev_int (by decide) (zhead hpl) (by decide)) ev_int) fun _ => bt_and (bt_ltI (ev_item (ds := zints (lastP ([0] :: O))) (j := 0) (ev_itemN (ds := ([0] :: O).map lz) (j := -1) (ev_mu0 y (.head _)) (ev_neg ev_int) (by decide) hlen last_get (by decide)) ev_int (by decide) (zhead ?_) (by decide)) ev_int) fun _ => bt_and_nil
      exact last_pos fun q hq => joinP_pos (fun q hq => hp q (List.mem_of_mem_take hq)) q (hO ▸ hq)
    · by_cases hc : p.headD 0 < 0 ∧ (lastP O).headD 0 < 0
      · rw [decide_eq_true hc.1, decide_eq_true (joined_last.mpr hc.2)]
        have hsp := split_map hc.2
        have hll : (lastP O).length + p.length < 900 := by
          have e1 : O.flatten.length = O.dropLast.flatten.length + (lastP O).length := by conv => lhs; rw [split_last hc.2, flat_snoc, List.length_append]
          lia
        refine tri_cons (tri_popfree (ds := ([0] :: O.dropLast).map lz) (u := lastP O) (v := p) (w := freeI ((lastP O).length + p.length)) (.inl rfl) (by rw [hsp]) (by decide) rfl F.N.len F.free (fun f doc pm an cdv ct h => free_c F h (by lia)) (by lia) (by simp; lia) ?_)
        refine tri_nil (tri_cons (tri_append (μ₁ := []) (μ₂ := []) (d := lz (freeI ((lastP O).length + p.length))) rfl (fun Kp γ s y => ev_old y rfl) (by simp; lia) (tri_end (ρ' := [(("pieces" : Str), .old (.lst (ps.map lz)))]) ⟨rfl, trivial⟩ ⟨?_, rfl⟩)))
        rw [← hnext]
        unfold joinStep
        rw [if_pos hc]
        simp
      · have hb : (decide (p.headD 0 < 0) && (decide ((lastP ([0] :: O)).headD 0 < 0) && true)) = false := by
          rw [Bool.and_true]
          by_cases h1 : p.headD 0 < 0
          · have h2 : ¬ (lastP ([0] :: O)).headD 0 < 0 := fun q => hc ⟨h1, joined_last.mp q⟩
            rw [decide_eq_false h2, Bool.and_false]
          · rw [decide_eq_false h1, Bool.false_and]
        rw [hb]
        refine tri_nil (tri_cons (tri_append (μ₁ := []) (μ₂ := []) (d := lz p) rfl (fun Kp γ s y => ev_old y rfl) (by simp; lia) (tri_end (ρ' := [(("pieces" : Str), .old (.lst (ps.map lz)))]) ⟨rfl, trivial⟩ ⟨?_, rfl⟩)))
        rw [← hnext]
        unfold joinStep
        rw [if_neg hc]
        simp
  · rintro μ ρ ⟨rfl, rfl⟩
    have e : (ps.map lz).length = ps.length := List.length_map ..
    rw [e, List.take_length]
    have hcut : cut (([0] :: joinP ps).map lz) (some 1) none = (joinP ps).map lz := by unfold cut; simp
    refine tri_cons (tri_ret (d := .lst ((joinP ps).map lz)) (fun Kp γ s y => ?_) rfl)
    rw [← hcut]
    refine EvF.ev (evf_slice (y.cx.sub sub_nil) (Y := []) (ev_mu0 y (.head _)) (show EvP _ _ _ _ (some _) (some 1) from by show Ev _ _ _ _ _ _ _; exact ev_int) (show EvP _ _ _ _ none none from trivial) (fun i h => by cases h; decide) (fun _ h => (nomatch h)) (fun _ _ r => r) ?_)
    have := joinP_count (ps := ps)
    simp
    lia

noncomputable def pRho (fs : List Int) (ps : List (List Int)) (r : List Int × Int) : Rho := [(("out" : Str), lz r.1), (("at" : Str), .int r.2), (("pieces" : Str), .old (.lst (ps.map lz))), (("fields" : Str), .old (lz fs))]
theorem plStep_len {fs : List Int} {r : List Int × Int} {p : List Int} : (plStep fs r p).1.length = r.1.length + p.length := by
  unfold plStep
  split
  · rename_i h
    rw [List.length_append, List.length_cons, List.length_append, freeI_len]; lia
  · rw [List.length_append]
theorem placedI_len {fs : List Int} {ps : List (List Int)} : (placedI fs ps).1.length = ps.flatten.length := by
  refine snoc_ind (P := fun ps => (placedI fs ps).1.length = ps.flatten.length) rfl (fun ps q ih => ?_) ps
  rw [placedI_snoc, plStep_len, ih, flat_snoc, List.length_append]
set_option maxHeartbeats 4000000 in
theorem placed_c {W : Wd} {f : Addr} {doc pm cdv ct : Value} {an : Option Addr} {k : Nat} (F : Fns W) (hd : W.defs f (fdOf "_law_placed" (st 18) doc pm an cdv ct)) {fs : List Int} {ps : List (List Int)} (hz : ps.flatten.length < 900) (hf : fs.length < 900) :
    FnC W (k + 1 + 1) f [.lst (ps.map lz), lz fs] (.tup [lz (placedI fs ps).1, .int (placedI fs ps).2]) := by
  refine fnc_def (ps := ["pieces", "fields"]) hd ?_ (by decide) rfl ?_ (by decide) rfl rfl rfl ?_
  · exact bind2 fun _ _ => rfl
  · intro n x hx
    simp only [List.mem_cons, List.not_mem_nil, or_false] at hx
    rcases hx with rfl | rfl <;> exact .inl rfl
  intro A h₀ L X₀ s₀
  have hsl : (2000 : Nat) ≤ sizeLine := by decide
  refine tri_cons (tri_assign2S (d1 := .lst []) (d2 := .int (-1)) (.inl rfl) (.inl rfl) (fun Kp γ s y => ev_tup y.cx (eva_cons (EvF.ev (evf_list y.cx eva_nil)) (eva_cons (ev_neg ev_int) eva_nil))) ?_)
  refine tri_cons (tri_forL (ds := ps.map lz) (fun i μ ρ => μ = [] ∧ ρ = pRho fs ps (placedI fs (ps.take i))) (.inl rfl) (fun Kp γ s y => ev_old y rfl) ⟨rfl, by rw [List.take_zero]; rfl⟩ ?_ ?_ ?_)
  · rintro i μ ρ ⟨rfl, rfl⟩; rfl
  · rintro i d μ ρ hdi ⟨rfl, rfl⟩
    rw [List.getElem?_map] at hdi
    obtain ⟨p, hpi, rfl⟩ := Option.map_eq_some_iff.mp hdi
    have hip := (List.getElem?_eq_some_iff.mp hpi).1
    have htk : ps.take (i + 1) = ps.take i ++ [p] := by rw [List.take_succ_eq_append_getElem hip, (List.getElem?_eq_some_iff.mp hpi).2]
    have hnext : placedI fs (ps.take (i + 1)) = plStep fs (placedI fs (ps.take i)) p := by rw [htk, placedI_snoc]
    have hfl : (placedI fs (ps.take i)).1.length + p.length < 900 := by
      rw [placedI_len]
      have e1 : (ps.take (i + 1)).flatten.length = (ps.take i).flatten.length + p.length := by rw [htk, flat_snoc, List.length_append]
      have e2 : (ps.take (i + 1)).flatten.length ≤ ps.flatten.length := by
        conv => rhs; rw [← List.take_append_drop (i + 1) ps, List.flatten_append, List.length_append]
        lia
      lia
    show Tri _ _ ((("p" : Str), .old (lz p)) :: _) _ _
    delta LoopP; dsimp only
    rw [hnext]
    generalize placedI fs (ps.take i) = r at hfl ⊢
    obtain ⟨w, at'⟩ := r
    dsimp only at hfl
    refine tri_cons (tri_assign (d := .int ((p.length : Int) - fs.length - 1)) (.inl rfl) (fun Kp γ s y => ?_) ?_)
    · have e1 : ((zints p).length : Int) - ((zints fs).length : Int) - 1 = (p.length : Int) - fs.length - 1 := by rw [ints_len, ints_len]
      rw [← e1]
      exact ev_sub (ev_sub (ev_len (evv_built y.cx F.N.len.1 F.N.len.2) (ev_nmO y rfl) (by rw [ints_len]; lia)) (ev_len (evv_built y.cx F.N.len.1 F.N.len.2) (ev_nmO y rfl) (by rw [ints_len]; lia))) ev_int
    have key : ∀ (hp : 0 ≤ (p.length : Int) - fs.length - 1), 1 ≤ p.length := fun _ => by lia
    refine tri_cons (tri_if (b := decide (at' < 0) && (decide (0 ≤ (p.length : Int) - fs.length - 1) && (decide (p.headD 0 < 0) && true))) (fun Kp γ s y => bt_and (bt_ltI (ev_nm y rfl) ev_int) fun _ => bt_and (bt_geI (ev_nm y rfl) ev_int) fun hl => bt_and (bt_ltI (ev_item (ds := zints p) (j := 0) (ev_nmO y rfl) ev_int (by decide) (zhead (key (of_decide_eq_true hl))) (by decide)) ev_int) fun _ => bt_and_nil) ?_)
    by_cases hc : at' < 0 ∧ 0 ≤ (p.length : Int) - fs.length - 1 ∧ p.headD 0 < 0
    · rw [decide_eq_true hc.1, decide_eq_true hc.2.1, decide_eq_true hc.2.2]
      have hnn : ((p.length : Int) - fs.length - 1) = (((p.length : Int) - fs.length - 1).toNat : Int) := by lia
      have e2 : plStep fs (w, at') p = (w ++ ((fs.length : Int) :: (fs ++ freeI ((p.length : Int) - fs.length - 1).toNat)), (w.length : Int)) := by unfold plStep; rw [if_pos hc]
      rw [e2]
      generalize hn : ((p.length : Int) - fs.length - 1).toNat = n at hnn e2 ⊢
      refine tri_cons (tri_assign (d := .int (w.length : Int)) (.inl rfl) (fun Kp γ s y => ?_) ?_)
      · rw [show (w.length : Int) = ((zints w).length : Int) by rw [ints_len]]
        exact ev_len (evv_built y.cx F.N.len.1 F.N.len.2) (ev_nm y rfl) (by rw [ints_len]; lia)
      refine tri_cons (tri_assign (d := lz ((fs.length : Int) :: (fs ++ freeI n))) (.inl rfl) (fun Kp γ s y => ?_) ?_)
      · have e3 : zints ((fs.length : Int) :: (fs ++ freeI n)) = ([V.int ((zints fs).length : Int)] ++ zints fs) ++ zints (freeI n) := by rw [ints_len]; simp [zints]
        show Ev _ _ _ _ _ _ (.lst _)
        rw [e3]
        refine EvF.ev (evf_addF y.cx (EvF.ev (evf_addF (y.cx.sub sub_nil) (EvF.ev (evf_list (y.cx.sub sub_nil) (eva_cons (ev_len (evv_built y.cx F.N.len.1 F.N.len.2) (ev_nmO y rfl) (by rw [ints_len]; lia)) eva_nil))) (ev_nmO y rfl) (by rw [ints_len]; simp; lia) ?_ flat_ints)) (ev_fn (X := []) (ds := [.int (n : Int)]) y F.free (fun f doc pm an cdv ct h => free_c F h (by lia)) sub_nil (eva_cons (by rw [← hnn]; exact ev_nm y rfl) eva_nil)) ?_ ?_ flat_ints)
        · intro x hx; rw [List.mem_singleton.mp hx]; rfl
        · simp only [List.length_append, List.length_singleton, ints_len, freeI_len]; lia
        · intro x hx
          rcases List.mem_append.mp hx with hx | hx
          · rw [List.mem_singleton.mp hx]; rfl
          · exact flat_ints x hx
      refine tri_nil (tri_cons (tri_assign (d := lz (w ++ ((fs.length : Int) :: (fs ++ freeI n)))) (.inl rfl) (fun Kp γ s y => ?_) ?_))
      · show Ev _ _ _ _ _ _ (.lst _)
        rw [← cat_ints]
        refine EvF.ev (evf_addF y.cx (ev_nm y rfl) (ev_nm y rfl) ?_ flat_ints flat_ints)
        simp only [ints_len, List.length_cons, List.length_append, freeI_len]; lia
      · exact tri_end (ρ' := pRho fs ps (w ++ ((fs.length : Int) :: (fs ++ freeI n)), (w.length : Int))) ⟨rfl, rfl, rfl, rfl, trivial⟩ ⟨rfl, rfl⟩
    · have hb : (decide (at' < 0) && (decide (0 ≤ (p.length : Int) - fs.length - 1) && (decide (p.headD 0 < 0) && true))) = false := by
        rw [Bool.and_true]
        by_cases h1 : at' < 0
        · by_cases h2 : 0 ≤ (p.length : Int) - fs.length - 1
          · rw [decide_eq_false (fun h3 => hc ⟨h1, h2, h3⟩), Bool.and_false, Bool.and_false]
          · rw [decide_eq_false h2, Bool.false_and, Bool.and_false]
        · rw [decide_eq_false h1, Bool.false_and]
      rw [hb]
      have e2 : plStep fs (w, at') p = (w ++ p, at') := by unfold plStep; rw [if_neg hc]
      rw [e2]
      refine tri_nil (tri_cons (tri_assign (d := lz (w ++ p)) (.inl rfl) (fun Kp γ s y => ?_) ?_))
      · show Ev _ _ _ _ _ _ (.lst _)
        rw [← cat_ints]
        refine EvF.ev (evf_addF y.cx (ev_nm y rfl) (ev_nmO y rfl) ?_ flat_ints flat_ints)
        simp only [ints_len]; lia
      · exact tri_end (ρ' := pRho fs ps (w ++ p, at')) ⟨rfl, rfl, rfl, rfl, trivial⟩ ⟨rfl, rfl⟩
  · rintro μ ρ ⟨rfl, rfl⟩
    rw [List.length_map, List.take_length]
    exact tri_cons (tri_ret (fun Kp γ s y => ev_tup (y.cx.sub sub_r) (eva_cons (Ev.sub (ev_rho y rfl) sub_r) (eva_cons (Ev.sub (ev_rho y rfl) sub_r) eva_nil))) (.inl rfl))

theorem aoc_bind {fs : FuncData} (h : ∀ a b c d : Value, bindArgs fs ⟨[a, b, c, d], []⟩ = pure ((["mem", "roots", "fields", "how"] : List Str).zip [a, b, c, d])) : ∀ vs : List Value, vs.length = 4 → bindArgs fs ⟨vs, []⟩ = pure ((["mem", "roots", "fields", "how"] : List Str).zip vs) := by
  intro vs hv
  obtain ⟨a, r, rfl, h1⟩ := len_cons hv
  obtain ⟨b, r, rfl, h2⟩ := len_cons h1
  obtain ⟨c, r, rfl, h3⟩ := len_cons h2
  obtain ⟨d, r, rfl, h4⟩ := len_cons h3
  obtain rfl := List.eq_nil_of_length_eq_zero h4
  exact h a b c d
theorem aoc_kind : ∀ n, ∀ x ∈ (["mem", "roots", "fields", "how"] : List Str), (fnScope (st 13)).names.lookup x = some .local ∨ ((fnScope (st 13)).names.lookup x = some .cell ∧ ((cellsFrom n (fnScope (st 13)).names []).lookup x).isSome = true) := by
  intro n x hx
  simp only [List.mem_cons, List.not_mem_nil, or_false] at hx
  rcases hx with rfl | rfl | rfl | rfl <;> exact .inl rfl
set_option maxHeartbeats 4000000 in
/-- room at once -/
theorem aoc_fit {W : Wd} {f : Addr} {doc pm cdv ct : Value} {an : Option Addr} {k : Nat} (F : Fns W) (hd : W.defs f (fdOf "allocate_or_collect" (st 13) doc pm an cdv ct)) {ns fs roots : List Int} {how : Str} {pre post : List (List Int)} {p : List Int} (hm : ns = (pre ++ p :: post).flatten) (hok : ∀ p' ∈ pre ++ p :: post, OkP p') (hz : ns.length < 2 ^ 19) (hf : fs.length < 900) (hr : roots.length < 900) (hn : ∀ q ∈ pre, fits (fs.length + 1) q = false) (hp : fits (fs.length + 1) p = true) :
    FnC W (k + 1 + 1 + 1) f [lz ns, lz roots, lz fs, .str how] (.tup [lz (wr ns pre.flatten.length (fitW fs p)), lz roots, .int (pre.flatten.length : Int)]) := by
  refine fnc_def (ps := ["mem", "roots", "fields", "how"]) hd (aoc_bind fun _ _ _ _ => rfl) (by decide) rfl aoc_kind (by decide) rfl rfl rfl ?_
  intro A h₀ L X₀ s₀
  have hsl : (2000 : Nat) ≤ sizeLine := by decide
  refine tri_cons (tri_assign (d := .none) (.inl rfl) (fun Kp γ s y => ev_none) ?_)
  refine tri_cons (tri_tryN (tri_cons (tri_assign (d := .tup [lz (wr ns pre.flatten.length (fitW fs p)), .int (pre.flatten.length : Int)]) (.inl rfl) (fun Kp γ s y => ev_fn y F.alloc (fun f doc pm an cdv ct h => alloc_c F h hm hok (by lia) (by lia) hn hp) sub_self (eva_cons (ev_nmO y rfl) (eva_cons (ev_nmO y rfl) eva_nil))) (tri_nil ?_))))
  refine tri_cons (tri_if (b := true) (fun Kp γ s y => bt_isNotN (d := .tup [lz (wr ns pre.flatten.length (fitW fs p)), .int (pre.flatten.length : Int)]) (ev_nm y rfl) ev_none) ?_)
  refine tri_cons (tri_ret (fun Kp γ s y => ?_) (.inl rfl))
  exact ev_tup (y.cx.sub sub_r) (eva_cons (ev_itemT (j := 0) (Ev.sub (ev_rho y rfl) sub_r) ev_int (by decide) rfl (by decide)) (eva_cons (EvF.ev (evf_copy (y.cx.sub sub_r) (Y := []) (evv_built y.cx F.N.list.1 F.N.list.2) (ev_nmO y rfl) (fun _ _ r => r.flat flat_ints) (by rw [ints_len]; lia))) (eva_cons (ev_itemT (j := 1) (Ev.sub (ev_rho y rfl) sub_r) ev_int (by decide) rfl (by decide)) eva_nil)))

noncomputable def rho1 (m roots fs : List Int) (how : Str) : Rho := [(("got" : Str), .none), (("got" : Str), .none), (("mem" : Str), .old (lz m)), (("roots" : Str), .old (lz roots)), (("fields" : Str), .old (lz fs)), (("how" : Str), .str how)]
noncomputable def rho2 (dm : V) (roots fs : List Int) : Rho := [(("mem" : Str), dm), (("roots" : Str), lz roots), (("fields" : Str), .old (lz fs))]
/-- how a collection turns memory and roots -/
inductive Coll (m roots : List Int) (ps : List (List Int)) (S R : List Int) : Str → V → List Int → List Int → Prop
  | sweep : Coll m roots ps S R "sweep" (lz (joinP (afterP R 0 ps)).flatten) (joinP (afterP R 0 ps)).flatten roots
  | copy : Coll m roots ps S R "copy" (lz (copyM m R)) (copyM m R) (roots.map (mendW m R))
  | none (how : Str) : how ≠ "sweep" → how ≠ "copy" → Coll m roots ps S R how (.old (lz m)) m roots
/-- what is known of a memory and its roots -/
structure Snd (m roots : List Int) (ps : List (List Int)) (S R : List Int) : Prop where
  hm : m = ps.flatten
  ok : ∀ p ∈ ps, OkP p
  hz : m.length < 900
  hr : roots.length < 900
  hS : S.length < 900
  lies : Lies m S
  cl : Closed (fldI m) roots S
  fx : Fix (fldI m) roots R
  pr : Prod' (fldI m) roots R
theorem mid1 {B : Bd} {m roots fs : List Int} {how : Str} {ds : List V} {body : List Stmt} {pos p1 p2 : Pos} {c : Nat} : Tr1 B [] (rho1 m roots fs how) (.If (.Compare (.Name "got" p1) [.IsNot] [.Constant .none c p2] pos) body [] pos) fun f μ r => f = .next ∧ μ = [] ∧ r = rho1 m roots fs how :=
  tri_if (b := false) (fun Kp γ s y => bt_isNotN (d := .none) (ev_nm y rfl) ev_none) (tri_nil ⟨rfl, rfl, rfl⟩)
noncomputable abbrev AB (W : Wd) (k : Nat) (A : Around) (h₀ : Heap) (L f : Addr) (X₀ : List Addr) (s₀ : Shared) (doc pm cdv ct : Value) (an : Option Addr) : Bd := ⟨W, k + 1 + 1 + 1, A, h₀, callEnvC (fdOf "allocate_or_collect" (st 13) doc pm an cdv ct) L f, X₀, s₀⟩
set_option maxHeartbeats 4000000 in
theorem mid2 {W : Wd} {k : Nat} {A : Around} {h₀ : Heap} {L f : Addr} {X₀ : List Addr} {s₀ : Shared} {doc pm cdv ct : Value} {an : Option Addr} (F : Fns W) {m roots fs S R m2 r2 : List Int} {ps : List (List Int)} {how : Str} {dm : V} (hs : Snd m roots ps S R) (hc : Coll m roots ps S R how dm m2 r2) :
    Tr1 (AB W k A h₀ L f X₀ s₀ doc pm cdv ct an) [] (rho1 m roots fs how) ((fnBody (st 13)).getD 3 (.Pass ⟨0, 0, 0, 0⟩)) fun f μ r => f = .next ∧ μ = [] ∧ r = rho2 dm r2 fs := by
  have hsl : (2000 : Nat) ≤ sizeLine := by decide
  have hz := hs.hz
  have hr := hs.hr
  have hS := hs.hS
  cases hc with
  | sweep =>
    refine tri_if (b := true) (fun Kp γ s y => bt_eqS (a := "sweep") (b := "sweep") (ev_nm y rfl) ev_str) ?_
    refine tri_cons (tri_assign (d := lz (joinP (afterP R 0 ps)).flatten) (.inl rfl) (fun Kp γ s y => ev_fn y F.bysweep (fun f doc pm an cdv ct h => bysweep_c F h hs.hm hs.ok (by lia) (by lia) (by lia) (fun a ha => ⟨(hs.lies.at' a ha).1, by have := hs.lies.at' a ha; lia, (hs.lies.at' a ha).2.1⟩) hs.cl hs.fx hs.pr) sub_self (eva_cons (ev_nmO y rfl) (eva_cons (ev_nmO y rfl) eva_nil))) ?_)
    refine tri_cons (tri_assign (d := lz roots) (.inl rfl) (fun Kp γ s y => EvF.ev (evf_copy y.cx (Y := []) (evv_built y.cx F.N.list.1 F.N.list.2) (ev_nmO y rfl) (fun _ _ r => r.flat flat_ints) (by rw [ints_len]; lia))) ?_)
    exact tri_end (ρ' := rho2 (lz (joinP (afterP R 0 ps)).flatten) roots fs) ⟨rfl, rfl, rfl, trivial⟩ ⟨rfl, rfl, rfl⟩
  | copy =>
    refine tri_if (b := false) (fun Kp γ s y => bt_eqS (a := "copy") (b := "sweep") (ev_nm y rfl) ev_str) ?_
    refine tri_cons (tri_if (b := true) (fun Kp γ s y => bt_eqS (a := "copy") (b := "copy") (ev_nm y rfl) ev_str) ?_)
    refine tri_cons (tri_assign (d := .tup [lz (copyM m R), lz (roots.map (mendW m R))]) (.inl rfl) (fun Kp γ s y => ev_fn y F.bycopy (fun f doc pm an cdv ct h => copy_c F h (by lia) (by lia) hs.lies hs.cl hs.fx hs.pr) sub_self (eva_cons (ev_nmO y rfl) (eva_cons (ev_nmO y rfl) eva_nil))) ?_)
    refine tri_cons (tri_assign (d := lz (copyM m R)) (.inl rfl) (fun Kp γ s y => ev_itemT (j := 0) (ev_rho y rfl) ev_int (by decide) rfl (by decide)) ?_)
    refine tri_cons (tri_assign (d := lz (roots.map (mendW m R))) (.inl rfl) (fun Kp γ s y => ev_itemT (j := 1) (ev_rho y rfl) ev_int (by decide) rfl (by decide)) ?_)
    exact tri_end (ρ' := rho2 (lz (copyM m R)) (roots.map (mendW m R)) fs) ⟨rfl, rfl, rfl, trivial⟩ (tri_nil ⟨rfl, rfl, rfl⟩)
  | none _ h1 h2 =>
    refine tri_if (b := false) (fun Kp γ s y => by rw [← decide_eq_false h1]; exact bt_eqS (ev_nm y rfl) ev_str) ?_
    refine tri_cons (tri_if (b := false) (fun Kp γ s y => by rw [← decide_eq_false h2]; exact bt_eqS (ev_nm y rfl) ev_str) ?_)
    refine tri_cons (tri_assign (d := lz roots) (.inl rfl) (fun Kp γ s y => EvF.ev (evf_copy y.cx (Y := []) (evv_built y.cx F.N.list.1 F.N.list.2) (ev_nmO y rfl) (fun _ _ r => r.flat flat_ints) (by rw [ints_len]; lia))) ?_)
    exact tri_end (ρ' := rho2 (.old (lz m)) roots fs) ⟨rfl, rfl, rfl, trivial⟩ (tri_nil ⟨rfl, rfl, rfl⟩)
set_option maxHeartbeats 4000000 in
/-- room after a collection -/
theorem aoc_coll {W : Wd} {f C : Addr} {doc pm cdv ct : Value} {an : Option Addr} {k : Nat} (F : Fns W) (G0 : Gr W W.root) (O : Oom W "OutOfMemory" C) (hd : W.defs f (fdOf "allocate_or_collect" (st 13) doc pm an cdv ct)) {m roots fs S R m2 r2 : List Int} {ps : List (List Int)} {how : Str} (hs : Snd m roots ps S R) (hc : Coll m roots ps S R how (lz m2) m2 r2) (hf : fs.length < 900) (hno : ∀ q ∈ ps, fits (fs.length + 1) q = false)
    {pre post : List (List Int)} {p : List Int} (hm : m2 = (pre ++ p :: post).flatten) (hok : ∀ p' ∈ pre ++ p :: post, OkP p') (hz : m2.length < 2 ^ 19) (hn : ∀ q ∈ pre, fits (fs.length + 1) q = false) (hp : fits (fs.length + 1) p = true) :
    FnCx W (k + 1 + 1 + 1 + 1) f [lz m, lz roots, lz fs, .str how] (.tup [lz (wr m2 pre.flatten.length (fitW fs p)), lz r2, .int (pre.flatten.length : Int)]) := by
  intro A h₀ L X s vs l Q E cn hl hX ra hQ
  refine call_in (ps := ["mem", "roots", "fields", "how"]) hd (aoc_bind fun _ _ _ _ => rfl) (by decide) rfl aoc_kind (by decide) rfl rfl rfl cn hl hX ra ?_
  intro L' s₁ B hfr sat
  have hz0 := hs.hz
  refine wpAny_execs_cons (wpAny_mono ((tri_assign (B := B) (μ := []) (d := .none) (Post := fun f μ r => f = .next ∧ μ = [] ∧ r = (("got" : Str), V.none) :: ((["mem", "roots", "fields", "how"] : List Str).zip ([lz m, lz roots, lz fs, .str how].map tag))) (.inl rfl) (fun Kp γ s y => ev_none) ⟨rfl, rfl, rfl⟩) _ _ s₁ _ sat) (fun fl s' ou => ?_) fun _ _ e => e)
  obtain ⟨fd, μ', ρ', fi, y, rfl, rfl, rfl⟩ := ou
  cases fl <;> first | exact fi.elim | skip
  refine deep_try y G0 O hfr rfl rfl (fun Kp γ s y => evx_fn (X := []) y F.alloc (fun f doc pm an cdv ct h => alloc_o F O h hs.hm hs.ok (by lia) hf hno) sub_nil (eva_cons (ev_nmO y rfl) (eva_cons (ev_nmO y rfl) eva_nil))) (.inl rfl) any_none ?_
  intro h₀' s₂ T gx y₂
  have body : Tri (AB W k B.A h₀' L' f X { s with heap := h₀' } doc pm cdv ct an) [] (rho1 m roots fs how) ((fnBody (st 13)).drop 2) fun fl _ _ => fl = .ret (.tup [lz (wr m2 pre.flatten.length (fitW fs p)), lz r2, .int (pre.flatten.length : Int)]) := by
    refine tri_cons (Tr1.mono (mid1 (ds := [])) ?_)
    rintro f μ r ⟨rfl, rfl, rfl⟩
    refine tri_cons (Tr1.mono (mid2 F hs hc) ?_)
    rintro f μ r ⟨rfl, rfl, rfl⟩
    refine tri_cons (tri_assign (d := .tup [lz (wr m2 pre.flatten.length (fitW fs p)), .int (pre.flatten.length : Int)]) (.inl rfl) (fun Kp γ s y => ev_fn y F.alloc (fun f doc pm an cdv ct h => alloc_c F h hm hok (by lia) (by lia) hn hp) sub_self (eva_cons (ev_nm y rfl) (eva_cons (ev_nmO y rfl) eva_nil))) ?_)
    refine tri_cons (tri_ret (fun Kp γ s y => ?_) rfl)
    exact ev_tup (y.cx.sub sub_r) (eva_cons (ev_itemT (j := 0) (Ev.sub (ev_rho y rfl) sub_r) ev_int (by decide) rfl (by decide)) (eva_cons (Ev.sub (ev_rho y rfl) sub_r) (eva_cons (ev_itemT (j := 1) (Ev.sub (ev_rho y rfl) sub_r) ev_int (by decide) rfl (by decide)) eva_nil)))
  refine wpAny_mono (body _ _ s₂ _ y₂) (fun fl s' ou => ?_) fun _ _ e => e
  obtain ⟨fd', μ', ρ', fi', y', rfl⟩ := ou
  have gw : Gw { s with heap := h₀' } s' := ⟨y'.same, fun a o e => (y'.kp a o e).1⟩
  cases fl <;> first | exact fi'.elim | exact ⟨_, rfl, hQ _ s' (gx.trans gw.gx) fi'⟩

set_option maxHeartbeats 4000000 in
/-- no room even after the collection -/
theorem aoc_oom {W : Wd} {f C : Addr} {doc pm cdv ct : Value} {an : Option Addr} {k : Nat} (F : Fns W) (G0 : Gr W W.root) (O : Oom W "OutOfMemory" C) (hd : W.defs f (fdOf "allocate_or_collect" (st 13) doc pm an cdv ct)) {m roots fs S R m2 r2 : List Int} {ps ps2 : List (List Int)} {how : Str} {dm : V} (hs : Snd m roots ps S R) (hc : Coll m roots ps S R how dm m2 r2) (hf : fs.length < 900) (hno : ∀ q ∈ ps, fits (fs.length + 1) q = false)
    (hm : m2 = ps2.flatten) (hok : ∀ p' ∈ ps2, OkP p') (hz : m2.length < 2 ^ 19) (hn : ∀ q ∈ ps2, fits (fs.length + 1) q = false) :
    FnX W (k + 1 + 1 + 1 + 1) f [lz m, lz roots, lz fs, .str how] (.ref C) := by
  intro A h₀ L X s vs l Q E cn hl hX ra hQ
  refine call_in (ps := ["mem", "roots", "fields", "how"]) hd (aoc_bind fun _ _ _ _ => rfl) (by decide) rfl aoc_kind (by decide) rfl rfl rfl cn hl hX ra ?_
  intro L' s₁ B hfr sat
  have hz0 := hs.hz
  refine wpAny_execs_cons (wpAny_mono ((tri_assign (B := B) (μ := []) (d := .none) (Post := fun f μ r => f = .next ∧ μ = [] ∧ r = (("got" : Str), V.none) :: ((["mem", "roots", "fields", "how"] : List Str).zip ([lz m, lz roots, lz fs, .str how].map tag))) (.inl rfl) (fun Kp γ s y => ev_none) ⟨rfl, rfl, rfl⟩) _ _ s₁ _ sat) (fun fl s' ou => ?_) fun _ _ e => e)
  obtain ⟨fd, μ', ρ', fi, y, rfl, rfl, rfl⟩ := ou
  cases fl <;> first | exact fi.elim | skip
  refine deep_try y G0 O hfr rfl rfl (fun Kp γ s y => evx_fn (X := []) y F.alloc (fun f doc pm an cdv ct h => alloc_o F O h hs.hm hs.ok (by lia) hf hno) sub_nil (eva_cons (ev_nmO y rfl) (eva_cons (ev_nmO y rfl) eva_nil))) (.inl rfl) any_none ?_
  intro h₀' s₂ T gx y₂
  have body : TriX (AB W k B.A h₀' L' f X { s with heap := h₀' } doc pm cdv ct an) [] (rho1 m roots fs how) ((fnBody (st 13)).drop 2) (.ref C) := by
    refine trix_next (Tr1.mono (mid1 (ds := [])) ?_)
    rintro f μ r ⟨rfl, rfl, rfl⟩
    refine trix_next (Tr1.mono (mid2 F hs hc) ?_)
    rintro f μ r ⟨rfl, rfl, rfl⟩
    have hmem : ∀ Kp γ s, Sat (AB W k B.A h₀' L' f X { s with heap := h₀' } doc pm cdv ct an) Kp γ [] (rho2 dm r2 fs) s → True := fun _ _ _ _ => trivial
    refine trix_here (trx_assign (fun Kp γ s y => evx_fn (X := []) y F.alloc (fun f doc pm an cdv ct h => alloc_o F O h hm hok (by lia) hf hn) sub_nil (eva_cons ?_ (eva_cons (ev_nmO y rfl) eva_nil))))
    cases hc with
    | sweep => exact ev_nm y rfl
    | copy => exact ev_nm y rfl
    | none _ _ _ => exact ev_nmO y rfl
  exact body _ _ s₂ _ _ y₂ fun e s' rz => rz_leave (B := AB W k B.A h₀' L' f X { s with heap := h₀' } doc pm cdv ct an) hfr rfl rfl rfl rz fun s'' fl => hQ e s'' (fl.pre gx)

section
variable {W : Wd} {k : Nat} {A : Around} {h₀ : Heap} {L : Addr} {env : Env} {X Y : List Addr} {h : Heap}
/-- a comprehension over ints that gives ints -/
theorem comp_ints {elt iter : Expr} {x : Str} {px pos : Pos} {scope : Scope} {cl : List (Str × Addr)} {ws : List Int} (G : Int → Int) (c : Cx W k A h₀ L env X h)
    (hclos : closureFor scope env = pure cl) (hcell : ∀ y ∈ scope.names, y.2 ≠ .cell) (hkind : scope.kind = .function) (hnames : ∀ y ∈ scope.names, y.2 = .local → scope.names.lookup y.1 = some .local) (hx : scope.names.lookup x = some .local)
    (he : Ev W A env [] h iter (.lst (zints ws))) (hn : ws.length ≤ 1000)
    (helt : ∀ a C h', a ∈ ws → Le h h' → Cx W k A h₀ L (compEnvC scope cl C env) X h' → (∀ p, Ev W A (compEnvC scope cl C env) [] h' (.Name x p) (.int a)) → Ev W A (compEnvC scope cl C env) [] h' elt (.int (G a)))
    (hd : (x == ("__debug__" : Str)) = false := by decide) : CompR W A env X h (.ListComp elt [⟨.Name x px, iter, [], 0⟩] scope pos) iter scope cl (zints (ws.map G)) := by
  have hsl : (2000 : Nat) ≤ sizeLine := by decide
  have e : zints (ws.map G) = picked (zints ws).length (fun _ => true) fun i => .int (G (ws.getD i 0)) := by
    rw [picked_all, ints_len, range_map (fun w => V.int (G w)) 0]
    unfold zints; rw [List.map_map]; rfl
  rw [e]
  refine comp_r (it := fun i => (zints ws).getD i .none) (fun _ => true) (fun i => .int (G (ws.getD i 0))) c hclos hcell hkind hnames hx (Src.flat (src_list (ds := zints ws) (Y := []) c.cn.hand he) fun i hi => by rw [zgetD (by rwa [ints_len] at hi)]; rfl) (by rw [ints_len]; lia) (fun i C v s' E Q hi l cx' vx r f => no_tests f) ?_ (fun i hi => rfl)
  intro i C v h' hi _ le cx' vx r
  rw [ints_len] at hi
  rw [zgetD hi] at r
  have hm : ws.getD i 0 ∈ ws := by rw [List.getD_eq_getElem?_getD, List.getElem?_eq_getElem hi]; exact List.getElem_mem hi
  exact Ev.flat (helt _ C h' hm le cx' fun p => ev_own cx' vx r hd) rfl
/-- a comprehension over a range that gives ints -/
theorem comp_rng {elt e : Expr} {x rg : Str} {px pr rp pos : Pos} {scope : Scope} {cl : List (Str × Addr)} {N : Nat} (G : Nat → Int) (c : Cx W k A h₀ L env X h)
    (hclos : closureFor scope env = pure cl) (hcell : ∀ y ∈ scope.names, y.2 ≠ .cell) (hkind : scope.kind = .function) (hnames : ∀ y ∈ scope.names, y.2 = .local → scope.names.lookup y.1 = some .local) (hx : scope.names.lookup x = some .local)
    (hr : EvV W A env h (.Name rg pr) (.type "range")) (he : Ev W A env [] h e (.int (N : Nat))) (hn : N ≤ 1000)
    (helt : ∀ i C h', i < N → Le h h' → Cx W k A h₀ L (compEnvC scope cl C env) X h' → (∀ p, Ev W A (compEnvC scope cl C env) [] h' (.Name x p) (.int (i : Nat))) → Ev W A (compEnvC scope cl C env) [] h' elt (.int (G i)))
    (hd : (x == ("__debug__" : Str)) = false := by decide) (hse : starEach [e] env = [(false, eval e env)] := by rfl) : CompR W A env X h (.ListComp elt [⟨.Name x px, .Call (.Name rg pr) [e] [] rp, [], 0⟩] scope pos) (.Call (.Name rg pr) [e] [] rp) scope cl (zints ((List.range N).map G)) := by
  have hsl : (2000 : Nat) ≤ sizeLine := by decide
  have e' : zints ((List.range N).map G) = picked ((N : Int)).toNat (fun _ => true) fun i => .int (G i) := by
    rw [picked_all, Int.toNat_natCast]
    unfold zints; rw [List.map_map]; rfl
  rw [e']
  refine comp_r (it := fun i => .int (i : Nat)) (fun _ => true) (fun i => .int (G i)) c hclos hcell hkind hnames hx (src_range c.cn.hand hr he (by lia) (by lia) hse) (by lia) (fun i C v s' E Q hi l cx' vx r f => no_tests f) ?_ (fun i hi => rfl)
  intro i C v h' hi _ le cx' vx r
  exact Ev.flat (helt i C h' (by lia) le cx' fun p => ev_own cx' vx r hd) rfl
end
theorem zgetI {ws : List Int} {i : Nat} (h : i < ws.length) : (zints ws)[((i : Nat) : Int).toNat]? = some (.int (ws.getD i 0)) := by
  have := ints_get (ns := ws) (i := (i : Int)) (by lia) (by lia)
  simpa using this
theorem cutI {α : Type} {l : List α} {a b : Nat} : cut l (some (a : Int)) (some (b : Int)) = (l.take b).drop a := by unfold cut; simp
theorem cutR {α : Type} {l : List α} {b : Nat} : cut l none (some (b : Int)) = l.take b := by unfold cut; simp
theorem cutL {α : Type} {l : List α} {a : Nat} : cut l (some (a : Int)) none = l.drop a := by unfold cut; simp

noncomputable def howL (c : List Int) : Str := (["sweep", "copy", "none", "sweep", "copy", "", "sweeping", "copy"] : List Str).getD (c.getD 0 0 % 8).toNat ""
noncomputable def stsL (ks : List Int) : List Int := (List.range ks.length).map (stI ks)
noncomputable def seedsL (c : List Int) : List Int := (List.range 24).map (seedI c)
noncomputable abbrev LB (W : Wd) (k : Nat) (A : Around) (h₀ : Heap) (L f : Addr) (X₀ : List Addr) (s₀ : Shared) (doc pm cdv ct : Value) (an : Option Addr) : Bd := ⟨W, k + 1 + 1 + 1 + 1, A, h₀, callEnvC (fdOf "law" (st 19) doc pm an cdv ct) L f, X₀, s₀⟩
noncomputable def cellsI (ns : List Int) : List Int := ns ++ List.replicate 12 0
noncomputable def rhoA (c : List Int) : Rho := [(("seeds" : Str), lz (seedsL c)), (("heads" : Str), lz (headsL (ksL c))), (("starts" : Str), lz (stsL (ksL c))), (("kinds" : Str), lz (ksL c)), (("fields" : Str), lz (fsL c)), (("how" : Str), .str (howL c)), (("cells" : Str), lz c)]
noncomputable def rhoB (c : List Int) : Rho := [(("mem" : Str), lz (psL c).flatten), (("pieces" : Str), .lst ((psL c).map lz)), (("words" : Str), lz (wdsL c)), (("starts" : Str), lz (stsL (ksL c))), (("fields" : Str), lz (fsL c)), (("how" : Str), .str (howL c))]
set_option maxHeartbeats 4000000 in
theorem law_a {W : Wd} {k : Nat} {A : Around} {h₀ : Heap} {L f : Addr} {X₀ : List Addr} {s₀ : Shared} {doc pm cdv ct : Value} {an : Option Addr} (F : Fns W) {ns : List Int} (hz : ns.length < 900) {Post : Fl → Mu → Rho → Prop}
    (h : Tri (LB W k A h₀ L f X₀ s₀ doc pm cdv ct an) [] (rhoA (cellsI ns)) ((fnBody (st 19)).drop 7) Post) : Tri (LB W k A h₀ L f X₀ s₀ doc pm cdv ct an) [] [(("script" : Str), .old (lz ns))] (fnBody (st 19)) Post := by
  have hsl : (2000 : Nat) ≤ sizeLine := by decide
  have hcl : 12 ≤ (cellsI ns).length ∧ (cellsI ns).length < 920 := by unfold cellsI; rw [List.length_append, List.length_replicate]; lia
  refine tri_cons (tri_assign (d := lz (cellsI ns)) (.inr ⟨rfl, rfl⟩) (fun Kp γ s y => ?_) ?_)
  · have e : zints (cellsI ns) = zints ns ++ List.replicate ((12 : Int)).toNat (V.int 0) := by unfold cellsI; rw [← cat_ints]; rfl
    show Ev _ _ _ _ _ _ (.lst _)
    rw [e]
    refine EvF.ev (evf_addF y.cx (ev_nmO y rfl) (EvF.ev (evf_mul (y.cx.sub sub_nil) (EvF.ev (evf_list (y.cx.sub sub_nil) (eva_cons ev_int eva_nil))) ev_int (by decide) (by decide))) (by rw [ints_len, List.length_replicate]; show ns.length + 12 ≤ _; lia) flat_ints ?_)
    intro x hx
    rw [List.eq_of_mem_replicate hx]; rfl
  generalize cellsI ns = c at h hcl ⊢
  have it0 : ∀ {B : Bd} {μ ρ Kp γ s} {p1 p2 p3 : Pos} {n : Nat} {i : Nat}, i < 12 → Sat B Kp γ μ ρ s → ρ.lookup ("cells" : Str) = some (lz c) → Ev B.W B.A B.env [] s.heap (.Subscript (.Name "cells" p1) (.Constant (.int (i : Nat)) n p2) p3) (.int (c.getD i 0)) := fun {B μ ρ Kp γ s p1 p2 p3 n i} hi y hl =>
    ev_item (ds := zints c) (j := (i : Nat)) (ev_nm y hl) ev_int (by lia) (zgetI (by lia)) (by lia)
  refine tri_cons (tri_assign (d := .str (howL c)) (.inl rfl) (fun Kp γ s y => ?_) ?_)
  · have h0 : 0 ≤ c.getD 0 0 % 8 ∧ c.getD 0 0 % 8 < 8 := by lia
    refine ev_itemT (ds := [.str "sweep", .str "copy", .str "none", .str "sweep", .str "copy", .str "", .str "sweeping", .str "copy"]) (j := c.getD 0 0 % 8) (ev_tup y.cx (eva_cons ev_str (eva_cons ev_str (eva_cons ev_str (eva_cons ev_str (eva_cons ev_str (eva_cons ev_str (eva_cons ev_str (eva_cons ev_str eva_nil))))))))) (ev_mod (it0 (i := 0) (by decide) y rfl) ev_int) h0.1 ?_ (by lia)
    unfold howL
    generalize c.getD 0 0 % 8 = q at h0 ⊢
    have hq : q = 0 ∨ q = 1 ∨ q = 2 ∨ q = 3 ∨ q = 4 ∨ q = 5 ∨ q = 6 ∨ q = 7 := by lia
    rcases hq with rfl | rfl | rfl | rfl | rfl | rfl | rfl | rfl <;> rfl
  -- fields
  refine tri_cons (tri_assignC (cl := []) (ds := zints (fsL c)) (.inl rfl) rfl rfl rfl (by decide) (fun Kp γ s y => ?_) ?_)
  · have hb : (1 + c.getD 1 0 % 4) = (((1 + c.getD 1 0 % 4).toNat : Nat) : Int) := by lia
    refine comp_ints (ws := (c.take (1 + c.getD 1 0 % 4).toNat).drop 1) (fun x => 2 * (x.natAbs : Int)) y.cx rfl (by decide) rfl (by decide) rfl ?_ (by simp; lia) ?_
    · rw [← cutI (a := 1), ← cut_zints]
      exact EvF.ev (evf_slice (y.cx.sub sub_nil) (Y := []) (ev_nm y rfl) (show EvP _ _ _ _ (some _) (some 1) from by show Ev _ _ _ _ _ _ _; exact ev_int) (show EvP _ _ _ _ (some _) (some _) from by show Ev _ _ _ _ _ _ _; rw [← hb]; exact ev_add ev_int (ev_mod (it0 (i := 1) (by decide) y rfl) ev_int)) (fun i h => by cases h; decide) (fun i h => by cases h; lia) (fun _ _ r => r) (by rw [ints_len]; lia))
    · intro a C h' _ le cx' own
      exact ev_mulL ev_int (ev_abs (evv_built cx' F.N.abs.1 F.N.abs.2) (own _))
  -- kinds
  refine tri_cons (tri_assign (d := lz (ksL c)) (.inr ⟨rfl, rfl⟩) (fun Kp γ s y => ?_) ?_)
  · have hb : (3 + c.getD 0 0 % 5) = (((3 + c.getD 0 0 % 5).toNat : Nat) : Int) := by lia
    refine EvF.ev (evf_of (cl := []) rfl rfl (by decide) (comp_ints (ws := (c.take (3 + c.getD 0 0 % 5).toNat).drop 2) (fun x => x % 12) y.cx rfl (by decide) rfl (by decide) rfl ?_ (by simp; lia) ?_))
    · rw [← cutI (a := 2), ← cut_zints]
      exact EvF.ev (evf_slice (y.cx.sub sub_nil) (Y := []) (ev_nm y rfl) (show EvP _ _ _ _ (some _) (some 2) from by show Ev _ _ _ _ _ _ _; exact ev_int) (show EvP _ _ _ _ (some _) (some _) from by show Ev _ _ _ _ _ _ _; rw [← hb]; exact ev_add ev_int (ev_mod (it0 (i := 0) (by decide) y rfl) ev_int)) (fun i h => by cases h; decide) (fun i h => by cases h; lia) (fun _ _ r => r) (by rw [ints_len]; lia))
    · intro a C h' _ le cx' own
      exact ev_mod (own _) ev_int
  have hk5 := ks_len hcl.1
  -- starts
  refine tri_cons (tri_assignC (cl := [("kinds", L + 2)]) (ds := zints (stsL (ksL c))) (.inl rfl) rfl rfl rfl (by decide) (fun Kp γ s y => ?_) ?_)
  · refine comp_rng (N := (ksL c).length) (stI (ksL c)) y.cx rfl (by decide) rfl (by decide) rfl (evv_built y.cx F.N.range.1 F.N.range.2) ?_ (by lia) ?_
    · rw [← ints_len]
      exact ev_len (evv_built y.cx F.N.len.1 F.N.len.2) (ev_nm y rfl) (by rw [ints_len]; lia)
    · intro i C h' hi le cx' own
      unfold stI
      refine ev_sum cx'.cn.hand (evv_built cx' F.sum.1 F.sum.2) (EvF.ev (evf_of (cl := []) rfl rfl (by decide) (comp_ints (ws := (ksL c).take i) (fun g => 1 + g % 4) (cx'.sub sub_nil) rfl (by decide) rfl (by decide) rfl ?_ (by simp; lia) ?_)))
      · rw [← cutR, ← cut_zints]
        exact EvF.ev (evf_slice (cx'.sub sub_nil) (Y := []) (ev_free y le cx' rfl sub_nil) (show EvP _ _ _ _ none none from trivial) (show EvP _ _ _ _ (some _) (some _) from by show Ev _ _ _ _ _ _ _; exact own _) (fun _ h => (nomatch h)) (fun i h => by cases h; lia) (fun _ _ r => r) (by rw [ints_len]; lia))
      · intro a C' h'' _ le' cx'' own'
        exact ev_add ev_int (ev_mod (own' _) ev_int)
  -- heads
  refine tri_cons (tri_assign (d := lz (headsL (ksL c))) (.inr ⟨rfl, rfl⟩) (fun Kp γ s y => ?_) ?_)
  · have e : zints (headsL (ksL c)) = picked (ksL c).length (fun i => decide (0 < (ksL c).getD i 0 % 3)) fun i => .int (stI (ksL c) i) := by
      unfold headsL picked zints; rw [List.map_map]; rfl
    show Ev _ _ _ _ _ _ (.lst _)
    rw [e]
    have hst : ∀ {i : Nat}, i < (ksL c).length → (zints (stsL (ksL c))).getD i .none = .int (stI (ksL c) i) := fun {i} hi => by
      rw [zgetD (by unfold stsL; simpa using hi)]
      unfold stsL
      rw [List.getD_eq_getElem?_getD, List.getElem?_map, List.getElem?_range hi]; rfl
    refine EvF.ev (evf_of (cl := []) rfl rfl (by decide) fun RR s' E l fin => comp_genZ (xs := zints (ksL c)) (zs := zints (stsL (ksL c))) (n := (ksL c).length) (fun i => decide (0 < (ksL c).getD i 0 % 3)) (fun i => .int (stI (ksL c) i)) y.cx (by decide) rfl rfl rfl (by decide) (evv_built y.cx F.zip.1 F.zip.2) (ev_rho y rfl) (ev_rho y rfl) (ints_len _) (by rw [ints_len]; unfold stsL; simp) (by lia) ?_ ?_ RR l fin)
    · intro i C u v s' E Q hi le cx' va vb ru rv f
      rw [zgetD hi] at ru
      exact one_test (bt_gtI (ev_mod (ev_own cx' va ru) ev_int) ev_int) f
    · intro i C Z u v h' hi _ le hZ cx' va vb ru rv
      rw [hst hi] at rv
      exact ev_var cx' vb rv
  -- seeds
  refine tri_cons (tri_assignC (cl := [("cells", L + 1)]) (ds := zints (seedsL c)) (.inl rfl) rfl rfl rfl (by decide) (fun Kp γ s y => ?_) ?_)
  · refine comp_rng (N := 24) (seedI c) y.cx rfl (by decide) rfl (by decide) rfl (evv_built y.cx F.N.range.1 F.N.range.2) ev_int (by lia) ?_
    intro i C h' hi le cx' own
    unfold seedI
    refine ev_add (ev_item (ds := zints c) (j := ((7 + i % 5 : Nat) : Int)) (ev_free y le cx' rfl sub_nil) ?_ (by lia) (zgetI (by lia)) (by lia)) (own _)
    rw [show ((7 + i % 5 : Nat) : Int) = 7 + (i : Int) % 5 by lia]
    exact ev_add ev_int (ev_mod (own _) ev_int)
  exact Tri.weak h (Sub.look (show Sub _ _ from ⟨rfl, rfl, rfl, rfl, rfl, rfl, rfl, trivial⟩))

set_option maxHeartbeats 4000000 in
theorem law_b {W : Wd} {k : Nat} {A : Around} {h₀ : Heap} {L f : Addr} {X₀ : List Addr} {s₀ : Shared} {doc pm cdv ct : Value} {an : Option Addr} (F : Fns W) {c : List Int} (hc : 12 ≤ c.length) {Post : Fl → Mu → Rho → Prop}
    (h : Tri (LB W k A h₀ L f X₀ s₀ doc pm cdv ct an) [] (rhoB c) ((fnBody (st 19)).drop 10) Post) : Tri (LB W k A h₀ L f X₀ s₀ doc pm cdv ct an) [] (rhoA c) ((fnBody (st 19)).drop 7) Post := by
  have hsl : (2000 : Nat) ≤ sizeLine := by decide
  have hk5 := ks_len hc
  have hh5 := heads_len hc
  have hw := wds_len (c := c)
  -- words
  refine tri_cons (tri_assign (d := lz (wdsL c)) (.inr ⟨rfl, rfl⟩) (fun Kp γ s y => ?_) ?_)
  · have e : wdsL c = (seedsL c).map (wordI (headsL (ksL c))) := by unfold wdsL seedsL; rw [List.map_map]; rfl
    show Ev _ _ _ _ _ _ (.lst _)
    rw [e]
    refine EvF.ev (evf_of (cl := [("heads", L + 3)]) rfl rfl (by decide) (comp_ints (ws := seedsL c) (wordI (headsL (ksL c))) y.cx rfl (by decide) rfl (by decide) rfl (ev_nm y rfl) (by unfold seedsL; simp) ?_))
    intro a C h' _ le cx' own
    have hds : ∀ {p}, Ev W A _ [] h' (.Name "heads" p) (lz (headsL (ksL c))) := fun {p} => ev_free y le cx' rfl sub_nil
    have ln : ∀ {p1 p2 p3}, Ev W A _ [] h' (.Call (.Name "len" p1) [.Name "heads" p2] [] p3) (.int ((headsL (ksL c)).length : Int)) := fun {p1 p2 p3} => by
      rw [show ((headsL (ksL c)).length : Int) = ((zints (headsL (ksL c))).length : Int) by rw [ints_len]]
      exact ev_len (evv_built cx' F.N.len.1 F.N.len.2) hds (by rw [ints_len]; lia)
    unfold wordI
    refine ev_if (b := decide (a % 4 = 1) && (decide (0 < ((headsL (ksL c)).length : Int)) && true)) (bt_and (bt_eqI (ev_mod (own _) ev_int) ev_int) fun _ => bt_and (bt_gtI ln ev_int) fun _ => bt_and_nil) ?_
    by_cases hb : a % 4 = 1 ∧ 0 < (headsL (ksL c)).length
    · rw [if_pos hb, decide_eq_true hb.1, decide_eq_true (show 0 < ((headsL (ksL c)).length : Int) by have := hb.2; lia)]
      have hp : 0 < ((headsL (ksL c)).length : Int) := by have := hb.2; lia
      have h0 := Int.emod_nonneg (a / 4) (b := ((headsL (ksL c)).length : Int)) (by lia)
      have h1 := Int.emod_lt_of_pos (a / 4) hp
      exact ev_add (ev_mulL ev_int (ev_item (ds := zints (headsL (ksL c))) (j := a / 4 % ((headsL (ksL c)).length : Int)) hds (ev_mod (ev_div (own _) ev_int) ln hp) h0 (ints_get h0 h1) (by lia))) ev_int
    · have hbb : (decide (a % 4 = 1) && (decide (0 < ((headsL (ksL c)).length : Int)) && true)) = false := by
        rw [Bool.and_true]
        by_cases h1 : a % 4 = 1
        · rw [decide_eq_false (show ¬ 0 < ((headsL (ksL c)).length : Int) from fun h2 => hb ⟨h1, by lia⟩), Bool.and_false]
        · rw [decide_eq_false h1, Bool.false_and]
      rw [if_neg hb, hbb]
      exact ev_mulL ev_int (ev_abs (evv_built cx' F.N.abs.1 F.N.abs.2) (own _))
  -- pieces
  refine tri_cons (tri_assignC (cl := [("words", L + 4)]) (ds := (psL c).map lz) (.inl rfl) rfl rfl rfl (by decide) (fun Kp γ s y => ?_) ?_)
  · have e : (psL c).map lz = picked (ksL c).length (fun _ => true) fun i => lz (pieceI (ksL c) (wdsL c) i) := by
      rw [picked_all]; unfold psL piecesL; rw [List.map_map]; rfl
    rw [e]
    have hst : ∀ {i : Nat}, i < (ksL c).length → (zints (stsL (ksL c))).getD i .none = .int (stI (ksL c) i) := fun {i} hi => by
      rw [zgetD (by unfold stsL; simpa using hi)]
      unfold stsL
      rw [List.getD_eq_getElem?_getD, List.getElem?_map, List.getElem?_range hi]; rfl
    refine fun RR s' E l fin => comp_genZ (xs := zints (ksL c)) (zs := zints (stsL (ksL c))) (n := (ksL c).length) (fun _ => true) (fun i => lz (pieceI (ksL c) (wdsL c) i)) y.cx (by decide) rfl rfl rfl (by decide) (evv_built y.cx F.zip.1 F.zip.2) (ev_rho y rfl) (ev_rho y rfl) (ints_len _) (by rw [ints_len]; unfold stsL; simp) (by lia) (fun i C u v s' E Q hi le cx' va vb ru rv f => no_tests f) ?_ RR l fin
    intro i C Z u v h' hi _ le hZ cx' va vb ru rv
    rw [zgetD hi] at ru
    rw [hst hi] at rv
    have hs := stI_le (ks := ksL c) (i := i) (by lia)
    have og : ∀ {p}, Ev W A _ [] h' (.Name "g" p) (.int ((ksL c).getD i 0)) := fun {p} => ev_own cx' va ru
    have oa : ∀ {p}, Ev W A _ [] h' (.Name "a" p) (.int (stI (ksL c) i)) := fun {p} => ev_own cx' vb rv
    have cx0 := cx'.sub (Y := []) sub_nil
    unfold pieceI
    generalize hg : (ksL c).getD i 0 = g at og ⊢
    generalize ha : stI (ksL c) i = a at oa hs ⊢
    refine ev_if (b := decide (0 < g % 3)) (bt_gtI (ev_mod og ev_int) ev_int) ?_
    by_cases hb : 0 < g % 3
    · rw [if_pos hb, decide_eq_true hb]
      have ea : a = ((a.toNat : Nat) : Int) := by lia
      have eb : a + g % 4 = (((a + g % 4).toNat : Nat) : Int) := by lia
      have e3 : zints (g % 4 :: ((wdsL c).take (a + g % 4).toNat).drop a.toNat) = [V.int (g % 4)] ++ cut (zints (wdsL c)) (some ((a.toNat : Nat) : Int)) (some (((a + g % 4).toNat : Nat) : Int)) := by
        rw [cut_zints, cutI]; rfl
      show Ev _ _ _ _ _ _ (.lst _)
      rw [e3]
      refine EvF.ev (evf_addF cx' (EvF.ev (evf_list cx0 (eva_cons (ev_mod og ev_int) eva_nil))) (EvF.ev (evf_slice cx0 (Y := []) (ev_free y le cx' rfl sub_nil) (show EvP _ _ _ _ (some _) (some _) from by show Ev _ _ _ _ _ _ _; rw [← ea]; exact oa) (show EvP _ _ _ _ (some _) (some _) from by show Ev _ _ _ _ _ _ _; rw [← eb]; exact ev_add oa (ev_mod og ev_int)) (fun i h => by cases h; lia) (fun i h => by cases h; lia) (fun _ _ r => r) (by rw [ints_len]; lia))) ?_ ?_ ?_)
      · rw [cut_zints, ints_len, cutI, List.length_drop, List.length_take]; simp; lia
      · intro x hx; rw [List.mem_singleton.mp hx]; rfl
      · rw [cut_zints]; exact flat_ints
    · rw [if_neg hb, decide_eq_false hb]
      have eb : 1 + g % 4 = (((1 + g % 4).toNat : Nat) : Int) := by lia
      exact ev_def (ds := [.int (((1 + g % 4).toNat : Nat) : Int)]) cx' F.free (fun f doc pm an cdv ct h => free_c F h (by lia)) (eva_cons (by rw [← eb]; exact ev_add ev_int (ev_mod og ev_int)) eva_nil)
  -- mem
  refine tri_cons (tri_assign (d := lz (psL c).flatten) (.inr ⟨rfl, rfl⟩) (fun Kp γ s y => ?_) ?_)
  · have hpl : (psL c).length = (ksL c).length := pieces_len
    have hfl : (psL c).flatten.length ≤ 20 := mem_flat_le hk5.2 hw
    refine EvF.ev (evf_of (cl := []) rfl rfl (by decide) (comp_two (P := psL c) y.cx (by decide) rfl rfl rfl (src_list (ds := (psL c).map lz) y.cx.cn.hand (ev_rho y rfl)) (by rw [List.length_map]) ?_ (by lia)))
    intro i hi
    rw [List.length_map] at hi
    rw [List.getD_eq_getElem?_getD, List.getElem?_map, List.getD_eq_getElem?_getD, List.getElem?_eq_getElem hi]; rfl
  exact Tri.weak h (Sub.look (show Sub _ _ from ⟨rfl, rfl, rfl, rfl, rfl, rfl, trivial⟩))

theorem fldI_at {u ws v : List Int} : fldI (u ++ ((ws.length : Int) :: (ws ++ v))) (u.length : Int) = ws := by
  have hg : (u ++ ((ws.length : Int) :: (ws ++ v))).getD ((u.length : Int)).toNat 0 = (ws.length : Int) := by
    rw [Int.toNat_natCast, List.getD_eq_getElem?_getD, List.getElem?_append_right (Nat.le_refl _), Nat.sub_self]; rfl
  unfold fldI cut
  rw [hg]
  simp only [Option.elim]
  rw [show ((u.length : Int) + 1).toNat = u.length + 1 by lia, show ((u.length : Int) + 1 + (ws.length : Int)).toNat = u.length + 1 + ws.length by lia]
  rw [show u ++ ((ws.length : Int) :: (ws ++ v)) = (u ++ [(ws.length : Int)]) ++ (ws ++ v) by simp]
  rw [List.drop_take, List.drop_append_of_le_length (by simp), show (u ++ [(ws.length : Int)]).drop (u.length + 1) = [] from List.drop_of_length_le (by simp)]
  rw [List.nil_append, show u.length + 1 + ws.length - (u.length + 1) = ws.length by lia, List.take_left]
noncomputable abbrev memL (c : List Int) : List Int := (psL c).flatten
noncomputable abbrev hdsL (c : List Int) : List Int := headsL (ksL c)
theorem fld_law {ps pre post : List (List Int)} {ws : List Int} (e : ps = pre ++ ((ws.length : Int) :: ws) :: post) : fldI ps.flatten (pre.flatten.length : Int) = ws := by
  have : ps.flatten = pre.flatten ++ ((ws.length : Int) :: (ws ++ post.flatten)) := by rw [e, List.flatten_append, List.flatten_cons, List.cons_append]
  rw [this]; exact fldI_at
theorem law_closed {c : List Int} (hc : 12 ≤ c.length) : Closed (fldI (memL c)) (rootsL c) (hdsL c) := (law_laid hc).closed roots_sub fun pre ws post e => fld_law e
theorem law_lies {c : List Int} (hc : 12 ≤ c.length) : Lies (memL c) (hdsL c) := ⟨fun a ha => (law_laid hc).at' ha, (law_laid hc).room⟩
theorem mem_len {c : List Int} (hc : 12 ≤ c.length) : (memL c).length ≤ 20 := mem_flat_le (ks_len hc).2 wds_len
theorem fld_short {c : List Int} (hc : 12 ≤ c.length) {a : Int} : (fldI (memL c) a).length ≤ 20 := by
  have := mem_len hc
  unfold fldI cut
  rw [List.length_drop]
  exact Nat.le_trans (Nat.sub_le _ _) (Nat.le_trans (List.length_take_le' _ _) this)
theorem flatMap_le {fld : Int → List Int} {n : Nat} (h : ∀ a, (fld a).length ≤ n) : ∀ o : List Int, (o.flatMap fld).length ≤ o.length * n
  | [] => by simp
  | a :: r => by
    rw [List.flatMap_cons, List.length_append, List.length_cons, Nat.add_mul, Nat.one_mul]
    have := flatMap_le h r
    have := h a
    lia
noncomputable def muQ (lq lo lr : Addr) (c order : List Int) : Mu := [(("queue" : Str), lq, zints (rootsL c ++ order.flatMap (fldI (memL c)))), (("order" : Str), lo, zints order), (("roots" : Str), lr, zints (rootsL c))]
set_option maxHeartbeats 4000000 in
theorem law_c {W : Wd} {k : Nat} {A : Around} {h₀ : Heap} {L f : Addr} {X₀ : List Addr} {s₀ : Shared} {doc pm cdv ct : Value} {an : Option Addr} (F : Fns W) {c : List Int} (hc : 12 ≤ c.length) {Post : Fl → Mu → Rho → Prop}
    (h : ∀ lr R, Fix (fldI (memL c)) (rootsL c) R → Prod' (fldI (memL c)) (rootsL c) R → (∀ a ∈ R, a ∈ hdsL c) → Tri (LB W k A h₀ L f X₀ s₀ doc pm cdv ct an) [(("roots" : Str), lr, zints (rootsL c))] ((("order" : Str), lz R) :: rhoB c) ((fnBody (st 19)).drop 13) Post) : Tri (LB W k A h₀ L f X₀ s₀ doc pm cdv ct an) [] (rhoB c) ((fnBody (st 19)).drop 10) Post := by
  have hsl : (2000 : Nat) ≤ sizeLine := by decide
  have hw := wds_len (c := c)
  have hrl := roots_len (c := c)
  have cl := law_closed hc
  have li := law_lies hc
  have hml := mem_len hc
  have hS := heads_len hc
  have bound : ∀ {order : List Int} {i : Nat}, QI (fldI (memL c)) (rootsL c) (hdsL c) order i → (rootsL c ++ order.flatMap (fldI (memL c))).length ≤ 104 := fun {order i} q => by
    have h1 := nodup_le (qi_nodup q) q.sub
    have h2 := flatMap_le (fun a => fld_short hc (a := a)) order
    rw [List.length_append, hrl]
    have : order.length ≤ 5 := Nat.le_trans h1 hS
    lia
  refine tri_cons (tri_assignM (ds := zints (rootsL c)) (.inl rfl) (fun Kp γ s y => ?_) fun lr => ?_)
  · unfold rootsL
    rw [← cutL, ← cut_zints]
    exact evf_slice y.cx (Y := []) (ev_nm y rfl) (show EvP _ _ _ _ (some _) (some 20) from by show Ev _ _ _ _ _ _ _; exact ev_int) (show EvP _ _ _ _ none none from trivial) (fun i h => by cases h; decide) (fun _ h => (nomatch h)) (fun _ _ r => r.flat flat_ints) (by rw [ints_len]; lia)
  refine tri_cons (tri_assign2M (ds := zints (rootsL c)) (.inr ⟨rfl, rfl⟩) (.inl rfl) (by decide) (fun Kp γ s y => evf_copy y.cx (Y := []) (evv_built y.cx F.N.list.1 F.N.list.2) (ev_mu0 y (.head _)) (fun _ _ r => r.flat flat_ints) (by rw [ints_len]; lia)) flat_ints fun lo lq => ?_)
  refine tri_cons (tri_forQ (l := lq) 104 (fun i μ ρ => ∃ order, μ = muQ lq lo lr c order ∧ ρ = rhoB c ∧ QI (fldI (memL c)) (rootsL c) (hdsL c) order i ∧ i ≤ (rootsL c ++ order.flatMap (fldI (memL c))).length) (.inl rfl) ?_ ⟨[], by unfold muQ; simp; rfl, rfl, qi_start, Nat.zero_le _⟩ ?_ ?_ ?_)
  · rintro i μ ρ ⟨order, rfl, rfl, q, hi⟩
    exact ⟨_, .head _, hi, bound q⟩
  · rintro i μ ρ ⟨order, rfl, rfl, q, hi⟩; rfl
  · rintro i w μ ρ ds ⟨order, rfl, rfl, q, hi⟩ hm hdi
    have eds : ds = rootsL c ++ order.flatMap (fldI (memL c)) := by
      simp only [muQ, List.mem_cons, List.not_mem_nil, or_false, Prod.mk.injEq] at hm
      have inj : ∀ {a b : List Int}, zints a = zints b → a = b := fun {a b} e => by
        have := congrArg (List.map fun v => match v with | V.int i => i | _ => 0) e
        simpa [zints, List.map_map, Function.comp_def] using this
      rcases hm with ⟨_, _, e⟩ | ⟨e, _⟩ | ⟨e, _⟩
      · exact inj e
      · exact absurd e (by decide)
      · exact absurd e (by decide)
    subst eds
    have hlt := (List.getElem?_eq_some_iff.mp hdi).1
    have q' := qi_step cl q hdi
    have bd := bound q'
    refine tri_cons (tri_if (b := decide (w % 2 = 1) && ((!decide (w / 2 ∈ order)) && true)) (fun Kp γ s y => bt_and (bt_eqI (ev_mod (ev_nm y rfl) ev_int) ev_int) fun _ => bt_and (bt_notin (ns := order) (ev_div (ev_nm y rfl) ev_int) (ev_mu0 y (.tail _ (.head _)))) fun _ => bt_and_nil) ?_)
    by_cases hcase : w % 2 = 1 ∧ w / 2 ∉ order
    · rw [decide_eq_true hcase.1, decide_eq_false hcase.2]
      have es : stepW order w = order ++ [w / 2] := by unfold stepW; rw [if_pos hcase]
      rw [es] at q' bd
      have hin : w / 2 ∈ hdsL c := q'.sub _ (List.mem_append.mpr (.inr (.head _)))
      obtain ⟨a0, a1, a2⟩ := li.at' _ hin
      have e3 : rootsL c ++ (order ++ [w / 2]).flatMap (fldI (memL c)) = (rootsL c ++ order.flatMap (fldI (memL c))) ++ fldI (memL c) (w / 2) := by rw [List.flatMap_append, ← List.append_assoc]; simp
      have hol : order.length ≤ 5 := Nat.le_trans (nodup_le (qi_nodup q) q.sub) hS
      refine tri_cons (tri_append (μ₁ := [(("queue" : Str), lq, zints (rootsL c ++ order.flatMap (fldI (memL c))))]) (μ₂ := [(("roots" : Str), lr, zints (rootsL c))]) (d := .int (w / 2)) rfl (fun Kp γ s y => ev_div (ev_nm y rfl) ev_int) (by rw [ints_len]; lia) ?_)
      refine tri_cons (tri_extend (μ₁ := []) (ds2 := zints (fldI (memL c) (w / 2))) rfl (fun Kp γ s y => ?_) flat_ints (by rw [ints_len, ints_len, ← List.length_append, ← e3]; lia) ?_)
      · unfold fldI
        rw [← cut_zints]
        have hw2 : ∀ {p1 p2 p3 n}, Ev W A _ [] s.heap (.BinOp (.Name "w" p1) .FloorDiv (.Constant (.int 2) n p2) p3) (.int (w / 2)) := fun {p1 p2 p3 n} => ev_div (ev_nm y rfl) ev_int
        exact EvF.ev (evf_slice (y.cx.sub sub_nil) (Y := []) (ev_nm y rfl) (show EvP _ _ _ _ (some _) (some _) from by show Ev _ _ _ _ _ _ _; exact ev_add (ev_div (ev_nm y rfl) ev_int) ev_int) (show EvP _ _ _ _ (some _) (some _) from by show Ev _ _ _ _ _ _ _; exact ev_add (ev_add (ev_div (ev_nm y rfl) ev_int) ev_int) (ev_item (ds := zints (memL c)) (j := w / 2) (ev_nm y rfl) (ev_div (ev_nm y rfl) ev_int) a0 (ints_get a0 (by lia)) (by lia))) (fun i h => by cases h; lia) (fun i h => by cases h; lia) (fun _ _ r => r) (by rw [ints_len]; lia))
      refine tri_nil (tri_end (ρ' := rhoB c) ⟨rfl, rfl, rfl, rfl, rfl, rfl, trivial⟩ ⟨order ++ [w / 2], ?_, rfl, q', ?_⟩)
      · unfold muQ
        rw [e3, cat_ints, show zints order ++ [V.int (w / 2)] = zints (order ++ [w / 2]) by rw [← cat_ints]; rfl]; rfl
      · rw [e3, List.length_append]; lia
    · have hb : (decide (w % 2 = 1) && ((!decide (w / 2 ∈ order)) && true)) = false := by
        rw [Bool.and_true]
        by_cases h1 : w % 2 = 1
        · have h2 : w / 2 ∈ order := by
            by_cases h2 : w / 2 ∈ order
            · exact h2
            · exact absurd ⟨h1, h2⟩ hcase
          rw [decide_eq_true h2]; simp
        · rw [decide_eq_false h1, Bool.false_and]
      rw [hb]
      have es : stepW order w = order := by unfold stepW; rw [if_neg hcase]
      rw [es] at q'
      exact tri_nil (tri_end (ρ' := rhoB c) ⟨rfl, rfl, rfl, rfl, rfl, rfl, trivial⟩ ⟨order, rfl, rfl, q', hlt⟩)
  · rintro μ ρ ds ⟨order, rfl, rfl, q, hi⟩ hm
    have eds : ds.length = (rootsL c ++ order.flatMap (fldI (memL c))).length := by
      simp only [muQ, List.mem_cons, List.not_mem_nil, or_false, Prod.mk.injEq] at hm
      rcases hm with ⟨_, _, e⟩ | ⟨e, _⟩ | ⟨e, _⟩
      · rw [← ints_len ds, e, ints_len]
      · exact absurd e (by decide)
      · exact absurd e (by decide)
    rw [eds] at q
    obtain ⟨fx, pr⟩ := qi_end q (Nat.le_refl _)
    refine Tri.freeze (Tri.freeze (Tri.weak (h lr order fx pr q.sub) (Sub.look (show Sub _ _ from ⟨rfl, rfl, rfl, rfl, rfl, rfl, rfl, trivial⟩))))

theorem FnC.cx {W : Wd} {k : Nat} {f : Addr} {args : List V} {d : V} (x : FnC W k f args d) : FnCx W k f args d := fun A h₀ L X s vs l Q E cn hl hX ra hQ => x A h₀ L X s vs Q E cn hX ra fun v s' g r => hQ v s' g.gx r
noncomputable def rhoT (a : Int) (w wr m fs : List Int) (how : Str) : Rho := [(("at" : Str), .int a), (("want" : Str), lz w), (("want_roots" : Str), lz wr), (("mem" : Str), lz m), (("fields" : Str), lz fs), (("how" : Str), .str how)]
/-- what the law asks for -/
noncomputable def dueV (a : Int) (w wr : List Int) : V := if 0 ≤ a then .tup [lz w, lz wr, .int a] else .str "no room"
noncomputable def AocIs (W : Wd) (k : Nat) (m roots fs : List Int) (how : Str) (dv : V) : Prop :=
  (∀ f doc pm an cdv ct, W.defs f (fdOf "allocate_or_collect" (st 13) doc pm an cdv ct) → FnCx W k f [lz m, lz roots, lz fs, .str how] dv) ∨
  (dv = .str "no room" ∧ ∃ C, Oom W "OutOfMemory" C ∧ ∀ f doc pm an cdv ct, W.defs f (fdOf "allocate_or_collect" (st 13) doc pm an cdv ct) → FnX W k f [lz m, lz roots, lz fs, .str how] (.ref C))
set_option maxHeartbeats 4000000 in
theorem law_t {W : Wd} {k : Nat} {A : Around} {h₀ : Heap} {L f lr : Addr} {X₀ : List Addr} {s₀ : Shared} {doc pm cdv ct : Value} {an : Option Addr} (F : Fns W) (hfr : A.frames = some [callEnvC (fdOf "law" (st 19) doc pm an cdv ct) L f]) {a : Int} {w wr m fs roots : List Int} {how : Str} (hz : m.length < 900) (hf : fs.length < 900) (hr : roots.length < 900)
    (hc : AocIs W (k + 1 + 1 + 1 + 1) m roots fs how (dueV a w wr)) :
    Tri (LB W k A h₀ L f X₀ s₀ doc pm cdv ct an) [(("roots" : Str), lr, zints roots)] (rhoT a w wr m fs how) ((fnBody (st 19)).drop 16) fun fl _ _ => fl = .ret (.bool true) := by
  have hsl : (2000 : Nat) ≤ sizeLine := by decide
  have hdv : V.ok 4 (dueV a w wr) = true ∧ (match dueV a w wr with | .old _ => false | _ => true) = true := by
    unfold dueV
    split
    · refine ⟨?_, rfl⟩
      have o1 : ∀ l : List Int, V.ok 3 (lz l) = true := fun l => by
        show (zints l).all (V.ok 2) = true
        rw [List.all_eq_true]; intro x hx
        obtain ⟨i, _, rfl⟩ := List.mem_map.mp hx; rfl
      show ([lz w, lz wr, .int a]).all (V.ok 3) = true
      rw [List.all_eq_true]
      intro x hx
      simp only [List.mem_cons, List.not_mem_nil, or_false] at hx
      rcases hx with rfl | rfl | rfl
      · exact o1 _
      · exact o1 _
      · rfl
    · exact ⟨by show PyData.strOk _ = true; decide +kernel, rfl⟩
  refine tri_cons (tri_assign (d := dueV a w wr) (.inl rfl) (fun Kp γ s y => ?_) ?_)
  · refine ev_if (b := decide (0 ≤ a)) (bt_geI (ev_nm y rfl) ev_int) ?_
    unfold dueV
    by_cases h0 : 0 ≤ a
    · rw [decide_eq_true h0, if_pos h0]
      exact ev_tup y.cx (eva_cons (ev_rho y rfl) (eva_cons (ev_rho y rfl) (eva_cons (ev_rho y rfl) eva_nil)))
    · rw [decide_eq_false h0, if_neg h0]
      exact ev_str
  generalize dueV a w wr = dv at hc hdv ⊢
  obtain ⟨hok, hpl⟩ := hdv
  refine tri_cons (tri_assign (d := .tup [dv, lz m, lz (roots ++ [0]), lz fs]) (.inl rfl) (fun Kp γ s y => ?_) ?_)
  · have e : zints (roots ++ [0]) = zints roots ++ [V.int 0] := by rw [← cat_ints]; rfl
    refine ev_tup y.cx (eva_cons (ev_rho y rfl (by cases dv <;> first | rfl | (cases hpl; done))) (eva_cons (EvF.ev (evf_copy y.cx (Y := []) (evv_built y.cx F.N.list.1 F.N.list.2) (ev_nm y rfl) (fun _ _ r => r.flat flat_ints) (by rw [ints_len]; lia))) (eva_cons ?_ (eva_cons (EvF.ev (evf_copy y.cx (Y := []) (evv_built y.cx F.N.list.1 F.N.list.2) (ev_nm y rfl) (fun _ _ r => r.flat flat_ints) (by rw [ints_len]; lia))) eva_nil))))
    show Ev _ _ _ _ _ _ (.lst _)
    rw [e]
    exact EvF.ev (evf_addF y.cx (ev_mu0 y (.head _)) (EvF.ev (evf_list (y.cx.sub sub_nil) (eva_cons ev_int eva_nil))) (by rw [ints_len]; simp; lia) flat_ints (fun x hx => by rw [List.mem_singleton.mp hx]; rfl))
  have last : Tri (LB W k A h₀ L f X₀ s₀ doc pm cdv ct an) [(("roots" : Str), lr, zints roots)] ((("got" : Str), dv) :: (("asked" : Str), .tup [dv, lz m, lz (roots ++ [0]), lz fs]) :: (("due" : Str), dv) :: rhoT a w wr m fs how) ((fnBody (st 19)).drop 19) fun fl _ _ => fl = .ret (.bool true) := by
    refine tri_cons (tri_append (μ₁ := []) (μ₂ := []) (d := .int 0) rfl (fun Kp γ s y => ev_int) (by rw [ints_len]; lia) ?_)
    refine tri_cons (tri_ret (fun Kp γ s y => ?_) rfl)
    have e : zints roots ++ [V.int 0] = zints (roots ++ [0]) := by rw [← cat_ints]; rfl
    rw [e] at y
    refine ev_boolB (evv_built y.cx F.N.bool.1 F.N.bool.2) (ev_eqV (y.cx.sub sub_nil) (d := .tup [dv, lz m, lz (roots ++ [0]), lz fs]) (ev_tup (y.cx.sub sub_nil) (eva_cons (ev_nm y rfl (by cases dv <;> first | rfl | (cases hpl; done))) (eva_cons (ev_nm y rfl) (eva_cons (ev_mu0 y (.head _)) (eva_cons (ev_nm y rfl) eva_nil))))) (ev_nm y rfl) 5 ?_ (by decide))
    have o1 : ∀ l : List Int, V.ok 4 (lz l) = true := fun l => by
      show (zints l).all (V.ok 3) = true
      rw [List.all_eq_true]; intro x hx
      obtain ⟨i, _, rfl⟩ := List.mem_map.mp hx; rfl
    show ([dv, lz m, lz (roots ++ [0]), lz fs]).all (V.ok 4) = true
    rw [List.all_eq_true]
    intro x hx
    simp only [List.mem_cons, List.not_mem_nil, or_false] at hx
    rcases hx with rfl | rfl | rfl | rfl
    · exact hok
    · exact o1 _
    · exact o1 _
    · exact o1 _
  rcases hc with hc | ⟨rfl, C, O, hx⟩
  · refine tri_cons (tri_tryN (tri_cons (tri_assignG (d := dv) (.inl rfl) (fun Kp γ s y => evg_fn hfr rfl y F.aoc hc (eva_cons (ev_nm y rfl) (eva_cons (ev_mu0 y (.head _)) (eva_cons (ev_nm y rfl) (eva_cons (ev_nm y rfl) eva_nil))))) (tri_nil last))))
  · exact tri_cons (tri_tryX hfr rfl (fun Kp γ s y => evx_fn (X := []) y F.aoc hx sub_nil (eva_cons (ev_nm y rfl) (eva_cons (ev_mu0 y (.head _)) (eva_cons (ev_nm y rfl) (eva_cons (ev_nm y rfl) eva_nil))))) (hd_hitO O (d := .str "no room") (.inl rfl) any_str last))

/-- what is known when the law weighs its first placing -/
noncomputable def rhoM (a : Int) (w : List Int) (c R : List Int) : Rho := (("want_roots" : Str), lz (rootsL c)) :: (("at" : Str), .int a) :: (("want" : Str), lz w) :: (("order" : Str), lz R) :: rhoB c
theorem pieces_flatI {c : List Int} (hc : 12 ≤ c.length) {i : Nat} (hi : i ≤ (ksL c).length) : (((psL c).take i).flatten.length : Int) = stI (ksL c) i := pieces_flat (ks_len hc).2 wds_len hi
theorem sts_getD {ks : List Int} {i : Nat} (hi : i < ks.length) : (zints (stsL ks)).getD i .none = .int (stI ks i) := by
  rw [zgetD (by unfold stsL; simpa using hi)]
  unfold stsL
  rw [List.getD_eq_getElem?_getD, List.getElem?_map, List.getElem?_range hi]; rfl
theorem ps_getD {ps : List (List Int)} {i : Nat} (hi : i < ps.length) : (ps.map lz).getD i .none = lz (ps.getD i []) := by
  rw [List.getD_eq_getElem?_getD, List.getElem?_map, List.getD_eq_getElem?_getD, List.getElem?_eq_getElem hi]; rfl
theorem piece_short {c : List Int} (hc : 12 ≤ c.length) {i : Nat} (hi : i < (psL c).length) : ((psL c).getD i []).length ≤ 20 := by
  have h1 := mem_len hc
  have h2 : ((psL c).getD i []).length ≤ (psL c).flatten.length := by
    rw [List.getD_eq_getElem?_getD, List.getElem?_eq_getElem hi, Option.getD_some]
    have := flat_take_lt hi
    rw [this, List.length_append, List.length_append]; lia
  exact Nat.le_trans h2 h1
set_option maxHeartbeats 4000000 in
theorem law_sweep {W : Wd} {k : Nat} {A : Around} {h₀ : Heap} {L f lr : Addr} {X₀ : List Addr} {s₀ : Shared} {doc pm cdv ct : Value} {an : Option Addr} (F : Fns W) {c R w : List Int} {a : Int} (hc : 12 ≤ c.length) {Post : Fl → Mu → Rho → Prop}
    (h : Post .next [(("roots" : Str), lr, zints (rootsL c))] ((("at" : Str), .int (placedI (fsL c) (joinP (afterL R (psL c)))).2) :: (("want" : Str), lz (placedI (fsL c) (joinP (afterL R (psL c)))).1) :: (("after" : Str), .lst ((afterL R (psL c)).map lz)) :: rhoM a w c R)) :
    Tri (LB W k A h₀ L f X₀ s₀ doc pm cdv ct an) [(("roots" : Str), lr, zints (rootsL c))] (rhoM a w c R) (ifBody ((fnBody (st 19)).getD 15 (.Pass ⟨0, 0, 0, 0⟩))) Post := by
  have hsl : (2000 : Nat) ≤ sizeLine := by decide
  have hk5 := ks_len hc
  have hpl : (psL c).length = (ksL c).length := pieces_len
  have hml := mem_len hc
  have hfs := fs_len (c := c)
  have hal : (afterL R (psL c)).length = (ksL c).length := by unfold afterL; simp [hpl]
  have hafl : (afterL R (psL c)).flatten.length ≤ 20 := by
    have : (afterL R (psL c)).map List.length = (psL c).map List.length := by
      unfold afterL
      rw [List.map_map, ← range_map List.length [] (psL c)]
      refine List.map_congr_left fun i hi => ?_
      show (if _ then _ else _ : List Int).length = _
      split
      · rfl
      · rw [freeI_len]
    rw [List.length_flatten, this, ← List.length_flatten]
    exact hml
  refine tri_cons (tri_assignC (cl := [("order", L + 6)]) (ds := (afterL R (psL c)).map lz) (.inl rfl) rfl rfl rfl (by decide) (fun Kp γ s y => ?_) ?_)
  · have e : (afterL R (psL c)).map lz = picked (ksL c).length (fun _ => true) fun i => lz (if stI (ksL c) i ∈ R then (psL c).getD i [] else freeI ((psL c).getD i []).length) := by
      rw [picked_all]
      unfold afterL
      rw [List.map_map, hpl]
      refine List.map_congr_left fun i hi => ?_
      have hi := List.mem_range.mp hi
      show lz (if (((psL c).take i).flatten.length : Int) ∈ R then (psL c).getD i [] else freeI ((psL c).getD i []).length) = _
      rw [pieces_flatI hc (i := i) (by lia)]
    rw [e]
    refine fun RR s' E l fin => comp_genZ (xs := (psL c).map lz) (zs := zints (stsL (ksL c))) (n := (ksL c).length) (fun _ => true) (fun i => lz (if stI (ksL c) i ∈ R then (psL c).getD i [] else freeI ((psL c).getD i []).length)) y.cx (by decide) rfl rfl rfl (by decide) (evv_built y.cx F.zip.1 F.zip.2) (ev_rho y rfl) (ev_rho y rfl) (by rw [List.length_map, hpl]) (by rw [ints_len]; unfold stsL; simp) (by lia) (fun i C u v s' E Q hi le cx' va vb ru rv f => no_tests f) ?_ RR l fin
    intro i C Z u v h' hi _ le hZ cx' va vb ru rv
    rw [ps_getD (by lia)] at ru
    rw [sts_getD hi] at rv
    have hps := piece_short hc (i := i) (by lia)
    refine ev_if (b := decide (stI (ksL c) i ∈ R)) (bt_in (ns := R) (ev_own cx' vb rv) (ev_free y le cx' rfl sub_nil)) ?_
    by_cases hb : stI (ksL c) i ∈ R
    · rw [decide_eq_true hb, if_pos hb]
      exact ev_var cx' va ru
    · rw [decide_eq_false hb, if_neg hb]
      refine ev_def (ds := [.int ((((psL c).getD i []).length : Nat) : Int)]) cx' F.free (fun f doc pm an cdv ct h => free_c F h (by lia)) (eva_cons ?_ eva_nil)
      rw [← ints_len]
      exact ev_len (evv_built cx' F.N.len.1 F.N.len.2) (ev_own cx' va ru) (by rw [ints_len]; lia)
  have hjl : (joinP (afterL R (psL c))).flatten.length ≤ 20 := by rw [joinP_len]; exact hafl
  have hpos : ∀ p ∈ afterL R (psL c), 1 ≤ p.length := fun p hp => by
    unfold afterL at hp
    obtain ⟨i, hi, rfl⟩ := List.mem_map.mp hp
    have hi := List.mem_range.mp hi
    have : 1 ≤ ((psL c).getD i []).length := by
      rw [List.getD_eq_getElem?_getD, List.getElem?_eq_getElem hi]
      exact (law_laid hc).pos _ (List.getElem_mem hi)
    split
    · exact this
    · rw [freeI_len]; exact this
  refine tri_cons (tri_assign2 (d1 := lz (placedI (fsL c) (joinP (afterL R (psL c)))).1) (d2 := .int (placedI (fsL c) (joinP (afterL R (psL c)))).2) (.inl rfl) (.inl rfl) (fun Kp γ s y => ?_) (tri_nil h))
  exact ev_fn y F.placed (fun f doc pm an cdv ct h => placed_c F h (ps := joinP (afterL R (psL c))) (by lia) (by lia)) sub_self (eva_cons (ev_fnO y F.joined (fun f doc pm an cdv ct h => joined_c F h (ps := afterL R (psL c)) hpos (by lia) (by lia)) (eva_cons (ev_nm y rfl) eva_nil)) (eva_cons (ev_nm y rfl) eva_nil))

noncomputable def ifElse : Stmt → List Stmt
  | .If _ _ e _ => e
  | _ => []
/-- the law's table of new places -/
noncomputable def tabL (m R : List Int) : List (Int × Int) := (List.range R.length).map fun i => (R.getD i 0, (offO m (R.take i) : Int))
theorem lookup_map {kf vf : Nat → Int} : ∀ {l : List Nat} {j : Nat}, (∀ i ∈ l, kf i = kf j → i = j) → j ∈ l → (l.map fun i => (kf i, vf i)).lookup (kf j) = some (vf j)
  | i :: r, j, hinj, hj => by
    rw [List.map_cons, List.lookup_cons]
    by_cases h : kf j = kf i
    · have : i = j := hinj i (.head _) h.symm
      subst this
      simp
    · rw [show (kf j == kf i) = false from by simpa using h]
      have hjr : j ∈ r := by
        rcases List.mem_cons.mp hj with e | e
        · exact absurd (by rw [e]) h
        · exact e
      exact lookup_map (fun i hi => hinj i (.tail _ hi)) hjr
theorem getD_inj {R : List Int} (hn : R.Nodup) {i j : Nat} (hi : i < R.length) (hj : j < R.length) (e : R.getD i 0 = R.getD j 0) : i = j := by
  rw [List.getD_eq_getElem?_getD, List.getD_eq_getElem?_getD, List.getElem?_eq_getElem hi, List.getElem?_eq_getElem hj] at e
  simp only [Option.getD_some] at e
  by_cases h : i = j
  · exact h
  · rcases Nat.lt_or_gt_of_ne h with h | h
    · exact absurd e (List.pairwise_iff_getElem.mp hn i j hi hj h)
    · exact absurd e.symm (List.pairwise_iff_getElem.mp hn j i hj hi h)
theorem tab_look {m R : List Int} (hn : R.Nodup) {a : Int} (ha : a ∈ R) : (tabL m R).lookup a = some (plc m R a : Int) := by
  obtain ⟨j, hj, e⟩ := List.mem_iff_getElem.mp ha
  have ej : R.getD j 0 = a := by rw [List.getD_eq_getElem?_getD, List.getElem?_eq_getElem hj]; exact e
  have := lookup_map (kf := fun i => R.getD i 0) (vf := fun i => (offO m (R.take i) : Int)) (l := List.range R.length) (j := j) (fun i hi h => getD_inj hn (List.mem_range.mp hi) hj h) (List.mem_range.mpr hj)
  rw [ej] at this
  unfold tabL
  rw [this, plc_at (m := m) hn (i := j) (a := a) (by rw [List.getElem?_eq_getElem hj, e])]
theorem mend_tab {m R : List Int} (hn : R.Nodup) {w : Int} (h : w % 2 = 1 → w / 2 ∈ R) : mendL (tabL m R) w = mendW m R w := by
  unfold mendL mendW
  by_cases ho : w % 2 = 1
  · rw [if_pos ho, if_pos ho, tab_look hn (h ho)]; rfl
  · rw [if_neg ho, if_neg ho]
theorem off_sum {m S : List Int} (hl : Lies m S) : ∀ {o : List Int}, (∀ a ∈ o, a ∈ S) → (o.map fun a => 1 + m.getD a.toNat 0).sum = (offO m o : Int)
  | [], _ => rfl
  | a :: r, h => by
    have ih := off_sum hl (o := r) fun b hb => h b (.tail _ hb)
    have ha := hl.at' a (h a (.head _))
    rw [List.map_cons, List.sum_cons, ih]
    unfold offO
    rw [List.map_cons, List.sum_cons]
    unfold objN
    lia
theorem len_sum : ∀ ps : List (List Int), (ps.map fun p => (p.length : Int)).sum = (ps.flatten.length : Int)
  | [] => rfl
  | p :: r => by rw [List.map_cons, List.sum_cons, len_sum r, List.flatten_cons, List.length_append]; lia
set_option maxHeartbeats 8000000 in
theorem law_copy {W : Wd} {k : Nat} {A : Around} {h₀ : Heap} {L f lr : Addr} {X₀ : List Addr} {s₀ : Shared} {doc pm cdv ct : Value} {an : Option Addr} (F : Fns W) {c R w : List Int} {a : Int} (hc : 12 ≤ c.length) (fx : Fix (fldI (memL c)) (rootsL c) R) (hR : ∀ a ∈ R, a ∈ hdsL c) {Post : Fl → Mu → Rho → Prop}
    (h : ∀ pd, Post .next [(("roots" : Str), lr, zints (rootsL c))] ((("want_roots" : Str), lz ((rootsL c).map (mendW (memL c) R))) :: (("at" : Str), .int (placedI (fsL c) (R.map (doneP (memL c) R) ++ [freeI ((memL c).length - offO (memL c) R)])).2) :: (("want" : Str), lz (placedI (fsL c) (R.map (doneP (memL c) R) ++ [freeI ((memL c).length - offO (memL c) R)])).1) :: (("rest" : Str), .int (((memL c).length - offO (memL c) R : Nat) : Int)) :: (("moved" : Str), .lst ((R.map (doneP (memL c) R)).map lz)) :: (("place" : Str), pd) :: rhoM a w c R)) :
    Tri (LB W k A h₀ L f X₀ s₀ doc pm cdv ct an) [(("roots" : Str), lr, zints (rootsL c))] (rhoM a w c R) (ifBody ((ifElse ((fnBody (st 19)).getD 15 (.Pass ⟨0, 0, 0, 0⟩))).getD 0 (.Pass ⟨0, 0, 0, 0⟩))) Post := by
  have hsl : (2000 : Nat) ≤ sizeLine := by decide
  have hml := mem_len hc
  have hfs := fs_len (c := c)
  have hS := heads_len hc
  have li := law_lies hc
  have hn := fix_nodup fx
  have hRl : R.length ≤ 5 := Nat.le_trans (nodup_le hn hR) hS
  have hrl := roots_len (c := c)
  have hroom := li.room R hn hR
  generalize hm : memL c = m at hml li hroom fx h ⊢
  have hmB : ∀ {x : Str}, True := trivial
  -- place
  have hpd : ∃ pd : V, (match pd with | .old _ => false | _ => true) = true ∧ (0 < R.length → pd = .dct (tabL m R)) ∧ pd = (if 0 < R.length then .dct ((List.range R.length).map fun i => (R.getD i 0, (offO m (R.take i) : Int))) else .any) := by
    by_cases h0 : 0 < R.length
    · exact ⟨.dct (tabL m R), rfl, fun _ => rfl, by rw [if_pos h0]; rfl⟩
    · exact ⟨.any, rfl, fun h => absurd h h0, by rw [if_neg h0]⟩
  obtain ⟨pd, hp1, hp2, hp3⟩ := hpd
  refine tri_cons (tri_assign (d := pd) (.inr ⟨rfl, rfl⟩) (fun Kp γ s y => ?_) ?_)
  · rw [hp3]
    refine ev_dictc (cl := [("order", L + 6), ("mem", L + 5)]) (N := R.length) (kf := fun i => R.getD i 0) (vf := fun i => (offO m (R.take i) : Int)) y.cx rfl (by decide) rfl (by decide) rfl (evv_built y.cx F.N.range.1 F.N.range.2) ?_ (by lia) (fun i j hi hj e => getD_inj hn hi hj e) ?_ ?_
    · rw [← ints_len]
      exact ev_len (evv_built y.cx F.N.len.1 F.N.len.2) (ev_nm y rfl) (by rw [ints_len]; lia)
    · intro i C v h' hi le cx' vx r
      exact ev_item (ds := zints R) (j := (i : Nat)) (ev_free y le cx' rfl sub_nil) (ev_own cx' vx r) (by lia) (zgetI hi) (by lia)
    · intro i C v h' hi le cx' vx r
      have hsub : ∀ b ∈ R.take i, b ∈ hdsL c := fun b hb => hR b (List.mem_of_mem_take hb)
      show Ev _ _ _ _ _ _ (.int (offO m (R.take i) : Int))
      rw [← off_sum li hsub]
      obtain ⟨vm, hv1, hv2⟩ := y.vars ("mem" : Str) (lz (memL c)) rfl
      have hv2' : Rd _ s.heap vm (lz (memL c)) := hv2
      rw [hm] at hv2'
      refine ev_sum cx'.cn.hand (evv_built cx' F.sum.1 F.sum.2) (EvF.ev (evf_of (cl := [("mem", L + 5)]) rfl rfl (by decide) (comp_ints (ws := R.take i) (fun a => 1 + m.getD a.toNat 0) (cx'.sub sub_nil) rfl (by decide) rfl (by decide) rfl ?_ (by simp; lia) ?_)))
      · rw [← cutR, ← cut_zints]
        exact EvF.ev (evf_slice (cx'.sub sub_nil) (Y := []) (ev_free y le cx' rfl sub_nil) (show EvP _ _ _ _ none none from trivial) (show EvP _ _ _ _ (some _) (some _) from by show Ev _ _ _ _ _ _ _; exact ev_own cx' vx r) (fun _ h => (nomatch h)) (fun i h => by cases h; lia) (fun _ _ r => r) (by rw [ints_len]; lia))
      · intro b C' h'' hb le' cx'' own'
        have hl := li.at' b (hsub b hb)
        refine ev_add ev_int (ev_item (ds := zints m) (j := b) (ev_var (cx''.sub sub_nil) (var_free ((var_free (hv1.le le) rfl rfl rfl).le le') rfl rfl rfl) (((hv2'.le le).le le').sub sub_nil)) (own' _) hl.1 (ints_get hl.1 (by lia)) (by lia))
  -- moved
  have hmend : ∀ {ws : List Int}, (∀ w ∈ ws, w % 2 = 1 → w / 2 ∈ R) → ws.map (mendL (tabL m R)) = ws.map (mendW m R) := fun hw => List.map_congr_left fun w hm => mend_tab hn (hw w hm)
  have hpre : ∀ {ws : List Int}, (∀ w ∈ ws, w % 2 = 1 → w / 2 ∈ R) → ∀ w ∈ ws, w % 2 = 1 → pd = .dct (tabL m R) ∧ ∃ x, (tabL m R).lookup (w / 2) = some x := fun hw w hm ho => ⟨hp2 (List.length_pos_of_mem (hw w hm ho)), _, tab_look hn (hw w hm ho)⟩
  have hfld : ∀ a ∈ R, ∀ w ∈ fldI m a, w % 2 = 1 → w / 2 ∈ R := fun a ha w hw ho => fix_in fx (List.mem_append.mpr (.inr (List.mem_flatMap.mpr ⟨a, ha, hw⟩))) ho
  have hflen : ∀ a, (fldI m a).length ≤ 20 := fun a => by rw [← hm]; exact fld_short hc
  refine tri_cons (tri_assignC (cl := [("place", L + 7), ("mem", L + 5)]) (ds := (R.map (doneP m R)).map lz) (.inl rfl) rfl rfl rfl (by decide) (fun Kp γ s y => ?_) ?_)
  · have e : (R.map (doneP m R)).map lz = picked (zints R).length (fun _ => true) fun i => lz (doneP m R (R.getD i 0)) := by
      rw [picked_all, ints_len, range_map (fun b => lz (doneP m R b)) 0, List.map_map]; rfl
    rw [e]
    refine fun RR s' E l fin => comp_gen (it := fun i => (zints R).getD i .none) (fun _ => true) (fun i => lz (doneP m R (R.getD i 0))) y.cx rfl (by decide) rfl (by decide) rfl (src_list (ds := zints R) y.cx.cn.hand (ev_rho y rfl)) (by rw [ints_len]; lia) (fun i C v s' E Q hi l cx' vx r f => no_tests f) ?_ RR l fin
    intro i C D v h' hi _ le hD cx' vx r
    rw [ints_len] at hi
    rw [zgetD hi] at r
    have hb : R.getD i 0 ∈ R := by rw [List.getD_eq_getElem?_getD, List.getElem?_eq_getElem hi]; exact List.getElem_mem hi
    have own : ∀ {p}, Ev W A _ [] h' (.Name "a" p) (.int (R.getD i 0)) := fun {p} => Ev.sub (ev_var (cx'.sub fun q hq => .tail _ hq) vx r) sub_nil
    generalize R.getD i 0 = b at hb own ⊢
    have hl := li.at' b (hR b hb)
    have cx0 := cx'.sub (Y := []) sub_nil
    have fm : ∀ {p}, Ev W A _ [] h' (.Name "mem" p) (lz m) := fun {p} => by rw [← hm]; exact ev_free y le cx' rfl sub_nil
    have im : ∀ {p1 p2 p3}, Ev W A _ [] h' (.Subscript (.Name "mem" p1) (.Name "a" p2) p3) (.int (m.getD b.toNat 0)) := fun {p1 p2 p3} => ev_item (ds := zints m) (j := b) fm own hl.1 (ints_get hl.1 (by lia)) (by lia)
    have e3 : zints (doneP m R b) = [V.int (m.getD b.toNat 0)] ++ zints ((fldI m b).map (mendL (tabL m R))) := by rw [hmend (hfld b hb)]; rfl
    show Ev _ _ _ _ _ _ (.lst _)
    rw [e3]
    refine EvF.ev (evf_addF cx' (EvF.ev (evf_list cx0 (eva_cons im eva_nil))) (ev_def cx0 F.mended (fun f doc pm an cdv ct h => mended_c F h (by have := hflen b; lia) (hpre (hfld b hb))) (eva_cons ?_ (eva_cons (ev_free y le cx' rfl sub_nil (hp := by cases pd <;> first | rfl | (cases hp1; done))) eva_nil))) ?_ (fun x hx => by rw [List.mem_singleton.mp hx]; rfl) flat_ints)
    · unfold fldI
      show Ev _ _ _ _ _ _ (.lst _)
      rw [← cut_zints]
      exact EvF.ev (evf_slice cx0 (Y := []) fm (show EvP _ _ _ _ (some _) (some _) from by show Ev _ _ _ _ _ _ _; exact ev_add own ev_int) (show EvP _ _ _ _ (some _) (some _) from by show Ev _ _ _ _ _ _ _; exact ev_add (ev_add own ev_int) im) (fun i h => by cases h; lia) (fun i h => by cases h; lia) (fun _ _ r => r) (by rw [ints_len]; lia))
    · rw [ints_len, List.length_map]; have := hflen b; simp; lia
  -- rest
  have hdl := done_len (R := R) li hR
  have hdpos : ∀ p ∈ R.map (doneP m R), p.length ≤ 20 := fun p hp => by
    obtain ⟨i, hi, e⟩ := List.mem_iff_getElem.mp hp
    have := flat_take_lt hi
    have h1 : p.length ≤ ((R.map (doneP m R)).flatten).length := by rw [this, List.length_append, List.length_append, e]; lia
    lia
  refine tri_cons (tri_assign (d := .int ((m.length - offO m R : Nat) : Int)) (.inl rfl) (fun Kp γ s y => ?_) ?_)
  · have e1 : (((m.length - offO m R : Nat)) : Int) = ((zints m).length : Int) - ((R.map (doneP m R)).map fun p => (p.length : Int)).sum := by
      rw [len_sum, hdl, ints_len]; lia
    rw [e1]
    have fm : ∀ {p}, Ev W A _ [] s.heap (.Name "mem" p) (lz m) := fun {p} => by rw [← hm]; exact ev_nm y rfl
    refine ev_sub (ev_len (evv_built y.cx F.N.len.1 F.N.len.2) fm (by rw [ints_len]; lia)) (ev_sum y.cx.cn.hand (evv_built y.cx F.sum.1 F.sum.2) ?_)
    have e2 : zints ((R.map (doneP m R)).map fun p => (p.length : Int)) = picked ((R.map (doneP m R)).map lz).length (fun _ => true) fun i => .int (((R.map (doneP m R)).getD i []).length : Int) := by
      rw [picked_all, List.length_map, range_map (fun p : List Int => V.int (p.length : Int)) []]
      unfold zints; rw [List.map_map]; rfl
    rw [e2]
    refine EvF.ev (evf_of (cl := []) rfl rfl (by decide) (comp_r (it := fun i => ((R.map (doneP m R)).map lz).getD i .none) (fun _ => true) (fun i => .int (((R.map (doneP m R)).getD i []).length : Int)) (y.cx.sub sub_nil) rfl (by decide) rfl (by decide) rfl (src_list (ds := (R.map (doneP m R)).map lz) y.cx.cn.hand (ev_nm y rfl)) (by simp; lia) (fun i C v s' E Q hi l cx' vx r f => no_tests f) ?_ (fun i hi => rfl)))
    intro i C v h' hi _ le cx' vx r
    have hi' : i < (R.map (doneP m R)).length := by simpa using hi
    rw [ps_getD hi'] at r
    have hl20 : ((R.map (doneP m R)).getD i []).length ≤ 20 := hdpos _ (by rw [List.getD_eq_getElem?_getD, List.getElem?_eq_getElem hi']; exact List.getElem_mem hi')
    show Ev _ _ _ _ _ _ (.int (((R.map (doneP m R)).getD i []).length : Int))
    rw [← ints_len]
    exact ev_len (evv_built cx' F.N.len.1 F.N.len.2) (ev_own cx' vx r) (by rw [ints_len]; lia)
  -- want, at
  have hps3 : (R.map (doneP m R) ++ [freeI (m.length - offO m R)]).flatten.length ≤ 20 := by rw [flat_snoc, List.length_append, hdl, freeI_len]; lia
  refine tri_cons (tri_assign2 (d1 := lz (placedI (fsL c) (R.map (doneP m R) ++ [freeI (m.length - offO m R)])).1) (d2 := .int (placedI (fsL c) (R.map (doneP m R) ++ [freeI (m.length - offO m R)])).2) (.inl rfl) (.inl rfl) (fun Kp γ s y => ?_) ?_)
  · refine ev_fn y F.placed (fun f doc pm an cdv ct h => placed_c F h (ps := R.map (doneP m R) ++ [freeI (m.length - offO m R)]) (by lia) (by lia)) sub_self (eva_cons ?_ (eva_cons (ev_nm y rfl) eva_nil))
    rw [List.map_append]
    exact EvF.ev (evf_addX (y.cx.sub sub_nil) (ev_nm y rfl) (EvF.ev (evf_list (y.cx.sub sub_nil) (eva_cons (ev_fn (X := []) y F.free (fun f doc pm an cdv ct h => free_c F h (by lia)) sub_nil (eva_cons (ev_nm y rfl) eva_nil)) eva_nil))) (by simp; lia))
  -- want_roots
  have hrt : ∀ w ∈ rootsL c, w % 2 = 1 → w / 2 ∈ R := fun w hw ho => fix_in fx (List.mem_append.mpr (.inl hw)) ho
  refine tri_cons (tri_assign (d := lz ((rootsL c).map (mendW m R))) (.inl rfl) (fun Kp γ s y => ?_) (tri_nil (h pd)))
  rw [← hmend hrt]
  exact ev_fn y F.mended (fun f doc pm an cdv ct h => mended_c F h (by lia) (hpre hrt)) sub_self (eva_cons (ev_mu0 y (.head _)) (eva_cons (ev_nm y rfl (by cases pd <;> first | rfl | (cases hp1; done))) eva_nil))

theorem split_same {ps pre pre' post post' : List (List Int)} {p p' : List Int} (hp : ∀ q ∈ ps, 1 ≤ q.length) (e : ps = pre ++ p :: post) (e' : ps = pre' ++ p' :: post') (hl : pre.flatten.length = pre'.flatten.length) : p = p' := by
  have key : ∀ {a b : List (List Int)} {x y : List Int} {u v : List (List Int)}, ps = a ++ x :: u → ps = b ++ y :: v → a.length < b.length → a.flatten.length < b.flatten.length := fun {a b x y u v} e1 e2 h => by
    have h1 : b.take a.length = a := by
      have := congrArg (List.take a.length) (e1.symm.trans e2)
      rw [List.take_left, List.take_append_of_le_length (by lia)] at this
      exact this.symm
    have h2 : b[a.length] = x := by
      have q1 : ps[a.length]? = some x := by rw [e1]; simp
      rw [e2, List.getElem?_append_left h, List.getElem?_eq_getElem h] at q1
      exact Option.some.inj q1
    have hx : 1 ≤ x.length := hp x (by rw [e1]; exact List.mem_append.mpr (.inr (.head _)))
    have h3 := flat_take_lt h
    rw [h3, h1, h2, List.length_append, List.length_append]
    lia
  have hle : pre.length = pre'.length := by
    rcases Nat.lt_trichotomy pre.length pre'.length with h | h | h
    · have := key e e' h; lia
    · exact h
    · have := key e' e h; lia
  have q1 : ps[pre.length]? = some p := by rw [e]; simp
  have q2 : ps[pre.length]? = some p' := by rw [e', hle]; simp
  rw [q1] at q2
  exact Option.some.inj q2
theorem after_law {c R : List Int} (hc : 12 ≤ c.length) (hR : ∀ a ∈ R, a ∈ hdsL c) : afterL R (psL c) = afterP R 0 (psL c) := by
  refine afterL_eq _ fun pre p post e hm => ?_
  obtain ⟨pre', ws, post', e', ea⟩ := ((law_laid hc).hd _).mp (hR _ hm)
  have := split_same (law_laid hc).pos e e' (by lia)
  rw [this, List.headD_cons]
  lia
theorem done_ok {m S R : List Int} (h : Lies m S) {a : Int} (ha : a ∈ S) : OkP (doneP m R a) := by
  have hl := fldI_len h ha
  have h2 := (h.at' a ha).2.1
  refine ⟨_, _, rfl, ?_⟩
  unfold doneP hsize
  rw [if_pos h2, List.length_cons, List.length_map]
  lia
theorem done_head {m S R : List Int} (h : Lies m S) {a : Int} (ha : a ∈ S) : ¬ (doneP m R a).headD 0 < 0 := by
  have h2 := (h.at' a ha).2.1
  unfold doneP
  rw [List.headD_cons]
  lia
section
variable {W : Wd} {k : Nat} (F : Fns W) (G0 : Gr W W.root)
include F G0
theorem law_snd {c R : List Int} (hc : 12 ≤ c.length) (fx : Fix (fldI (memL c)) (rootsL c) R) (pr : Prod' (fldI (memL c)) (rootsL c) R) : Snd (memL c) (rootsL c) (psL c) (hdsL c) R :=
  ⟨rfl, (law_laid hc).ok, by have := mem_len hc; lia, by have := roots_len (c := c); lia, Nat.lt_of_le_of_lt (heads_len hc) (by decide), law_lies hc, law_closed hc, fx, pr⟩
theorem aoc_a {c : List Int} (hc : 12 ≤ c.length) (h0 : 0 ≤ (placedI (fsL c) (psL c)).2) : AocIs W (k + 1 + 1 + 1 + 1) (memL c) (rootsL c) (fsL c) (howL c) (dueV (placedI (fsL c) (psL c)).2 (placedI (fsL c) (psL c)).1 (rootsL c)) := by
  have hml := mem_len hc
  have hfs := fs_len (c := c)
  have hrl := roots_len (c := c)
  have S1 := placed_st (fs := fsL c) (psL c) (law_laid hc).free
  unfold dueV
  rw [if_pos h0]
  rw [decide_eq_true h0] at S1
  generalize placedI (fsL c) (psL c) = r at S1 ⊢
  obtain ⟨w, a⟩ := r
  rcases S1 with ⟨h, _⟩ | ⟨pre, post, p, _, hps, hno, hfit, hw, ha⟩
  · cases h
  · dsimp only at hw ha ⊢
    subst hw ha
    exact .inl fun f doc pm an cdv ct hd => FnC.cx (aoc_fit F hd (by rw [← hps]) (by rw [← hps]; exact (law_laid hc).ok) (by lia) (by lia) (by lia) hno hfit)
theorem aoc_none {c R : List Int} (hc : 12 ≤ c.length) (fx : Fix (fldI (memL c)) (rootsL c) R) (pr : Prod' (fldI (memL c)) (rootsL c) R) (h0 : (placedI (fsL c) (psL c)).2 < 0) (h1 : howL c ≠ "sweep") (h2 : howL c ≠ "copy") : AocIs W (k + 1 + 1 + 1 + 1) (memL c) (rootsL c) (fsL c) (howL c) (dueV (placedI (fsL c) (psL c)).2 (placedI (fsL c) (psL c)).1 (rootsL c)) := by
  have hml := mem_len hc
  have hfs := fs_len (c := c)
  have S1 := placed_st (fs := fsL c) (psL c) (law_laid hc).free
  unfold dueV
  rw [if_neg (by lia)]
  rw [decide_eq_false (by lia)] at S1
  obtain ⟨C, O⟩ := F.oom
  rcases S1 with ⟨_, hno, _, _⟩ | ⟨_, _, _, h, _⟩
  · exact .inr ⟨rfl, C, O, fun f doc pm an cdv ct hd => aoc_oom F G0 O hd (law_snd F G0 hc fx pr) (.none (howL c) h1 h2) (by lia) hno rfl (law_laid hc).ok (by lia) hno⟩
  · cases h
theorem aoc_sweep {c R : List Int} (hc : 12 ≤ c.length) (fx : Fix (fldI (memL c)) (rootsL c) R) (pr : Prod' (fldI (memL c)) (rootsL c) R) (h0 : (placedI (fsL c) (psL c)).2 < 0) (h1 : howL c = "sweep") :
    AocIs W (k + 1 + 1 + 1 + 1) (memL c) (rootsL c) (fsL c) (howL c) (dueV (placedI (fsL c) (joinP (afterP R 0 (psL c)))).2 (placedI (fsL c) (joinP (afterP R 0 (psL c)))).1 (rootsL c)) := by
  have hml := mem_len hc
  have hfs := fs_len (c := c)
  have S1 := placed_st (fs := fsL c) (psL c) (law_laid hc).free
  rw [decide_eq_false (by lia)] at S1
  have hno : ∀ q ∈ psL c, fits ((fsL c).length + 1) q = false := by
    rcases S1 with ⟨_, hno, _, _⟩ | ⟨_, _, _, h, _⟩
    · exact hno
    · cases h
  have hok2 : ∀ p ∈ joinP (afterP R 0 (psL c)), OkP p := joinP_ok (afterP_ok (law_laid hc).ok)
  have hl2 : (joinP (afterP R 0 (psL c))).flatten.length = (memL c).length := by rw [joinP_len, afterP_flat]
  have S2 := placed_st (fs := fsL c) (joinP (afterP R 0 (psL c))) (joinP_free afterP_free)
  obtain ⟨C, O⟩ := F.oom
  rw [h1]
  have hs := law_snd F G0 hc fx pr
  have hcol : Coll (memL c) (rootsL c) (psL c) (hdsL c) R "sweep" (lz (joinP (afterP R 0 (psL c))).flatten) (joinP (afterP R 0 (psL c))).flatten (rootsL c) := .sweep
  generalize joinP (afterP R 0 (psL c)) = ps2 at S2 hok2 hl2 hcol ⊢
  generalize placedI (fsL c) ps2 = r at S2 ⊢
  obtain ⟨w, a⟩ := r
  dsimp only at S2 ⊢
  unfold dueV
  rcases S2 with ⟨h, hno2, hw, ha⟩ | ⟨pre, post, p, h, hps, hno2, hfit, hw, ha⟩
  · rw [if_neg (of_decide_eq_false h)]
    exact .inr ⟨rfl, C, O, fun f doc pm an cdv ct hd => aoc_oom F G0 O hd hs hcol (by lia) hno rfl hok2 (by lia) hno2⟩
  · rw [if_pos (of_decide_eq_true h)]
    subst hw ha
    exact .inl fun f doc pm an cdv ct hd => aoc_coll F G0 O hd hs hcol (by lia) hno (by rw [← hps]) (by rw [← hps]; exact hok2) (by lia) hno2 hfit
theorem aoc_copy {c R : List Int} (hc : 12 ≤ c.length) (fx : Fix (fldI (memL c)) (rootsL c) R) (pr : Prod' (fldI (memL c)) (rootsL c) R) (hR : ∀ a ∈ R, a ∈ hdsL c) (h0 : (placedI (fsL c) (psL c)).2 < 0) (h1 : howL c = "copy") :
    AocIs W (k + 1 + 1 + 1 + 1) (memL c) (rootsL c) (fsL c) (howL c) (dueV (placedI (fsL c) (R.map (doneP (memL c) R) ++ [freeI ((memL c).length - offO (memL c) R)])).2 (placedI (fsL c) (R.map (doneP (memL c) R) ++ [freeI ((memL c).length - offO (memL c) R)])).1 ((rootsL c).map (mendW (memL c) R))) := by
  have hml := mem_len hc
  have hfs := fs_len (c := c)
  have S1 := placed_st (fs := fsL c) (psL c) (law_laid hc).free
  rw [decide_eq_false (by lia)] at S1
  have hno : ∀ q ∈ psL c, fits ((fsL c).length + 1) q = false := by
    rcases S1 with ⟨_, hno, _, _⟩ | ⟨_, _, _, h, _⟩
    · exact hno
    · cases h
  have li := law_lies hc
  have hn := fix_nodup fx
  have hroom := li.room R hn hR
  have hs := law_snd F G0 hc fx pr
  obtain ⟨C, O⟩ := F.oom
  rw [h1]
  have hcol : Coll (memL c) (rootsL c) (psL c) (hdsL c) R "copy" (lz (copyM (memL c) R)) (copyM (memL c) R) ((rootsL c).map (mendW (memL c) R)) := .copy
  have hdl := done_len (R := R) li hR
  generalize hrest : (memL c).length - offO (memL c) R = rest
  have hcm : copyM (memL c) R = (R.map (doneP (memL c) R) ++ [freeI rest]).flatten := by unfold copyM; rw [flat_snoc, hrest]
  have hcl : (copyM (memL c) R).length ≤ 20 := by rw [hcm, flat_snoc, List.length_append, hdl, freeI_len]; lia
  have hdok : ∀ p ∈ R.map (doneP (memL c) R), OkP p ∧ ¬ p.headD 0 < 0 := fun p hp => by
    obtain ⟨a, ha, rfl⟩ := List.mem_map.mp hp
    exact ⟨done_ok li (hR a ha), done_head li (hR a ha)⟩
  have hfree : FreeOk (R.map (doneP (memL c) R) ++ [freeI rest]) := fun q hq hh => by
    rcases List.mem_append.mp hq with hq | hq
    · exact absurd hh (hdok q hq).2
    · rw [List.mem_singleton.mp hq, freeI_len]
  have S2 := placed_st (fs := fsL c) _ hfree
  generalize placedI (fsL c) (R.map (doneP (memL c) R) ++ [freeI rest]) = r at S2 ⊢
  obtain ⟨w, a⟩ := r
  dsimp only at S2 ⊢
  unfold dueV
  rcases S2 with ⟨h, hno2, hw, ha⟩ | ⟨pre, post, p, h, hps, hno2, hfit, hw, ha⟩
  · rw [if_neg (of_decide_eq_false h)]
    refine .inr ⟨rfl, C, O, fun f doc pm an cdv ct hd => ?_⟩
    by_cases hz : rest = 0
    · have e0 : copyM (memL c) R = (R.map (doneP (memL c) R)).flatten := by rw [hcm, flat_snoc, hz]; simp [freeI]
      exact aoc_oom F G0 O hd hs hcol (by lia) hno e0 (fun p hp => (hdok p hp).1) (by lia) fun q hq => hno2 q (List.mem_append.mpr (.inl hq))
    · refine aoc_oom F G0 O hd hs hcol (by lia) hno hcm (fun p hp => ?_) (by lia) hno2
      rcases List.mem_append.mp hp with hp | hp
      · exact (hdok p hp).1
      · rw [List.mem_singleton.mp hp]; exact freeI_ok (by lia)
  · rw [if_pos (of_decide_eq_true h)]
    subst ha
    have hpm : p ∈ R.map (doneP (memL c) R) ++ [freeI rest] := by rw [hps]; exact List.mem_append.mpr (.inr (.head _))
    have hph : p.headD 0 < 0 := by
      unfold fits at hfit
      rw [Bool.and_eq_true] at hfit
      exact of_decide_eq_true hfit.1
    have hz : 1 ≤ rest := by
      rcases List.mem_append.mp hpm with hq | hq
      · exact absurd hph (hdok p hq).2
      · rw [List.mem_singleton.mp hq] at hph
        by_cases hz : rest = 0
        · rw [hz] at hph; simp [freeI] at hph
        · lia
    have hok : ∀ q ∈ R.map (doneP (memL c) R) ++ [freeI rest], OkP q := fun q hq => by
      rcases List.mem_append.mp hq with hq | hq
      · exact (hdok q hq).1
      · rw [List.mem_singleton.mp hq]; exact freeI_ok hz
    rw [hw, ← hcm]
    exact .inl fun f doc pm an cdv ct hd => aoc_coll F G0 O hd hs hcol (by lia) hno (by rw [hcm, hps]) (by rw [← hps]; exact hok) (by lia) hno2 hfit
end

set_option maxHeartbeats 4000000 in
theorem law_all {W : Wd} {k : Nat} {A : Around} {h₀ : Heap} {L f : Addr} {X₀ : List Addr} {s₀ : Shared} {doc pm cdv ct : Value} {an : Option Addr} (F : Fns W) (G0 : Gr W W.root) (hfr : A.frames = some [callEnvC (fdOf "law" (st 19) doc pm an cdv ct) L f]) {ns : List Int} (hz : ns.length < 900) :
    Tri (LB W k A h₀ L f X₀ s₀ doc pm cdv ct an) [] [(("script" : Str), .old (lz ns))] (fnBody (st 19)) fun fl _ _ => fl = .ret (.bool true) := by
  have hsl : (2000 : Nat) ≤ sizeLine := by decide
  have hc : 12 ≤ (cellsI ns).length := by unfold cellsI; rw [List.length_append, List.length_replicate]; lia
  refine law_a F hz (law_b F hc (law_c F hc fun lr R fx pr hR => ?_))
  generalize cellsI ns = c at hc fx pr hR ⊢
  have hml := mem_len hc
  have hfs := fs_len (c := c)
  have hrl := roots_len (c := c)
  refine tri_cons (tri_assign2 (d1 := lz (placedI (fsL c) (psL c)).1) (d2 := .int (placedI (fsL c) (psL c)).2) (.inl rfl) (.inl rfl) (fun Kp γ s y => ev_fn y F.placed (fun f doc pm an cdv ct h => placed_c F h (ps := psL c) (by have : (psL c).flatten.length ≤ 20 := hml; lia) (by lia)) sub_self (eva_cons (ev_nm y rfl) (eva_cons (ev_nm y rfl) eva_nil))) ?_)
  refine tri_cons (tri_assign (d := lz (rootsL c)) (.inl rfl) (fun Kp γ s y => EvF.ev (evf_copy y.cx (Y := []) (evv_built y.cx F.N.list.1 F.N.list.2) (ev_mu0 y (.head _)) (fun _ _ r => r.flat flat_ints) (by rw [ints_len]; lia))) ?_)
  have A1 := aoc_a (k := k) F G0 hc
  have A2 := aoc_none (k := k) F G0 hc fx pr
  have A3 := aoc_sweep (k := k) F G0 hc fx pr
  have A4 := aoc_copy (k := k) F G0 hc fx pr hR
  generalize placedI (fsL c) (psL c) = r at A1 A2 A3 A4 ⊢
  obtain ⟨w, a⟩ := r
  dsimp only at A1 A2 A3 A4 ⊢
  have tail : ∀ {ρ : Rho} {a' : Int} {w' wr' : List Int}, Sub (rhoT a' w' wr' (memL c) (fsL c) (howL c)) ρ → AocIs W (k + 1 + 1 + 1 + 1) (memL c) (rootsL c) (fsL c) (howL c) (dueV a' w' wr') → Tri (LB W k A h₀ L f X₀ s₀ doc pm cdv ct an) [(("roots" : Str), lr, zints (rootsL c))] ρ ((fnBody (st 19)).drop 16) fun fl _ _ => fl = .ret (.bool true) := fun hs ha => Tri.weak (law_t F hfr (by lia) (by lia) (by lia) ha) hs.look
  have test : ∀ {x : Str} {Kp γ s} {p1 p2 p3 p4 p5 p6 p7 : Pos} {n1 n2 : Nat}, Sat (LB W k A h₀ L f X₀ s₀ doc pm cdv ct an) Kp γ [(("roots" : Str), lr, zints (rootsL c))] (rhoM a w c R) s → Bt W A (callEnvC (fdOf "law" (st 19) doc pm an cdv ct) L f) s.heap (.BoolOp .And [.Compare (.Name "at" p1) [.Lt] [.Constant (.int 0) n1 p2] p3, .Compare (.Name "how" p4) [.Eq] [.Constant (.str x) n2 p5] p6] p7) (decide (a < 0) && (decide (howL c = x) && true)) := fun {x Kp γ s p1 p2 p3 p4 p5 p6 p7 n1 n2} y => bt_and (bt_ltI (ev_nm y rfl) ev_int) fun _ => bt_and (bt_eqS (ev_nm y rfl) ev_str) fun _ => bt_and_nil
  refine tri_cons (tri_if (b := decide (a < 0) && (decide (howL c = "sweep") && true)) (fun Kp γ s y => test y) ?_)
  by_cases ha : a < 0
  · by_cases h1 : howL c = "sweep"
    · rw [decide_eq_true ha, decide_eq_true h1]
      refine law_sweep F hc (tail (a' := (placedI (fsL c) (joinP (afterL R (psL c)))).2) (w' := (placedI (fsL c) (joinP (afterL R (psL c)))).1) (wr' := rootsL c) ⟨rfl, rfl, rfl, rfl, rfl, rfl, trivial⟩ ?_)
      rw [after_law hc hR]
      exact A3 ha h1
    · rw [decide_eq_true ha, decide_eq_false h1]
      refine tri_cons (tri_if (b := decide (a < 0) && (decide (howL c = "copy") && true)) (fun Kp γ s y => test y) ?_)
      by_cases h2 : howL c = "copy"
      · rw [decide_eq_true ha, decide_eq_true h2]
        exact law_copy F hc fx hR fun pd => tri_nil (tail ⟨rfl, rfl, rfl, rfl, rfl, rfl, trivial⟩ (A4 ha h2))
      · rw [decide_eq_true ha, decide_eq_false h2]
        exact tri_nil (tri_nil (tail ⟨rfl, rfl, rfl, rfl, rfl, rfl, trivial⟩ (A2 ha h1 h2)))
  · rw [decide_eq_false ha]
    refine tri_cons (tri_if (b := decide (a < 0) && (decide (howL c = "copy") && true)) (fun Kp γ s y => test y) ?_)
    rw [decide_eq_false ha]
    exact tri_nil (tri_nil (tail ⟨rfl, rfl, rfl, rfl, rfl, rfl, trivial⟩ (A1 (by lia))))
end L21
end Mine
open PySem PySem.W PyProof.Rows Mine Mine.L21 in
set_option maxRecDepth 100000 in
set_option maxHeartbeats 8000000 in
theorem PySem.Challenge.cw_k19_0021_holds : PySem.Challenge.rw_k19_0021.Holds := by
  w_on
  o_law
  k_head
  (case hw => w_witness2)
  k_fill
  intro w s₀ s₁ mg mb G Y fa o pm cd doc dV kV ho hd hcd hD hmg hg args vals as hpre hlay hrd hwl hlo
  have KX := kIn_of Y
  refine Ground.open G ?_
  intro T B D TE TW
  try (refine guard_noD D (by decide +kernel) ?_; clear D)
  wrow_args hpre hlay hrd hwl hlo
  first | refine callC_kw (enter_call ?_) | refine enter_call ?_ | refine callC_kw (enter_callW ?_) | refine enter_callW ?_ | w_how
  try refine codeAny_mono ?_ (fun _ _ g => GoodW.toG g)
  have hD1 := Dflts.none hD rfl
  have hD2 := Dflts.noKw hD
  subst hD1 hD2
  rename List Int => ns
  rename Well _ _ _ _ => wl
  rename ¬ _ < _ => hlen
  have hlen' : ns.length ≤ 63 := by lia
  have gr := gr_of (prog := PySem.Challenge.rw_k19_0021.row.prog) (w := w) KX T
  have N := std_of (prog := PySem.Challenge.rw_k19_0021.row.prog) (w := w) KX T (by k_is) (by k_is) (by k_is) (by k_is) (by k_is) (by k_is) (by k_is)
  have F' := @Fns.mk _ N
  have F := F' (built_of KX T (by k_is) (by first | rfl | decide +kernel)) (built_of KX T (by k_is) PyProof.Rows.boot_str) (built_of KX T (by k_is) PyProof.Rows.boot_zip) (built_of KX T (by k_is) PyProof.Rows.boot_sum)
    (by refine' hasDef_of KX T.g ?h1 ?h2 ?h3 ?h4; (case h1 => k_is); (case h2 => k_is); (case h3 => rfl); (case h4 => k_is))
    (by refine' hasDef_of KX T.g ?h1 ?h2 ?h3 ?h4; (case h1 => k_is); (case h2 => k_is); (case h3 => rfl); (case h4 => k_is))
    (by refine' hasDef_of KX T.g ?h1 ?h2 ?h3 ?h4; (case h1 => k_is); (case h2 => k_is); (case h3 => rfl); (case h4 => k_is))
    (by refine' hasDef_of KX T.g ?h1 ?h2 ?h3 ?h4; (case h1 => k_is); (case h2 => k_is); (case h3 => rfl); (case h4 => k_is))
    (by refine' hasDef_of KX T.g ?h1 ?h2 ?h3 ?h4; (case h1 => k_is); (case h2 => k_is); (case h3 => rfl); (case h4 => k_is))
    (by refine' hasDef_of KX T.g ?h1 ?h2 ?h3 ?h4; (case h1 => k_is); (case h2 => k_is); (case h3 => rfl); (case h4 => k_is))
    (by refine' hasDef_of KX T.g ?h1 ?h2 ?h3 ?h4; (case h1 => k_is); (case h2 => k_is); (case h3 => rfl); (case h4 => k_is))
    (by refine' hasDef_of KX T.g ?h1 ?h2 ?h3 ?h4; (case h1 => k_is); (case h2 => k_is); (case h3 => rfl); (case h4 => k_is))
    (by refine' hasDef_of KX T.g ?h1 ?h2 ?h3 ?h4; (case h1 => k_is); (case h2 => k_is); (case h3 => rfl); (case h4 => k_is))
    (by refine' hasDef_of KX T.g ?h1 ?h2 ?h3 ?h4; (case h1 => k_is); (case h2 => k_is); (case h3 => rfl); (case h4 => k_is))
    (by refine' hasDef_of KX T.g ?h1 ?h2 ?h3 ?h4; (case h1 => k_is); (case h2 => k_is); (case h3 => rfl); (case h4 => k_is))
    (by refine' hasDef_of KX T.g ?h1 ?h2 ?h3 ?h4; (case h1 => k_is); (case h2 => k_is); (case h3 => rfl); (case h4 => k_is))
    (by refine' hasDef_of KX T.g ?h1 ?h2 ?h3 ?h4; (case h1 => k_is); (case h2 => k_is); (case h3 => rfl); (case h4 => k_is))
    (by refine' hasDef_of KX T.g ?h1 ?h2 ?h3 ?h4; (case h1 => k_is); (case h2 => k_is); (case h3 => rfl); (case h4 => k_is))
    (by refine' hasDef_of KX T.g ?h1 ?h2 ?h3 ?h4; (case h1 => k_is); (case h2 => k_is); (case h3 => rfl); (case h4 => k_is))
    (by refine' hasDef_of KX T.g ?h1 ?h2 ?h3 ?h4; (case h1 => k_is); (case h2 => k_is); (case h3 => rfl); (case h4 => k_is))
    (by refine' ⟨_, own_of_in KX (topRead_of T) ?h1 ?h2⟩; (case h1 => k_is); (case h2 => k_exc))
  refine top_call (k := 0 + 1 + 1 + 1 + 1) (f := fa) (name := "law") (st := st 19) (doc := doc) (pm := pm) (an := none) (cdv := cd) (ct := .none) (ns := ns) (d := .bool true) gr (by decide) ho (by rw [hd]; rfl) hcd (rd_script wl) ?_ ?_ (by decide) rfl rfl rfl ?_ ?_
  · exact bind1 fun _ => rfl
  · exact fun n => .inl rfl
  · intro A h₀ L X₀ s₀ hfr
    exact law_all (k := 0) F gr hfr (by lia)
  · intro v s' g r
    cases r
    exact ⟨.inl ⟨_, _, [], rfl, fun _ => rfl, .bool true, postW_of rfl (w_eq_bool (w_res rfl) w_lit) rfl, unshared_nil⟩, g.le, by obtain ⟨_, _, e⟩ := g.same; rw [e], by obtain ⟨_, _, e⟩ := g.same; rw [e]; exact hg⟩
