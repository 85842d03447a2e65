import PyProof.Rows.All
import Wide.All
import OpenK.AllK
import Wide.FinOn
import PySem.Challenge.RW_k19_0014
set_option Elab.async false
set_option linter.unusedVariables false
namespace Mine

/-- words that a head opens -/
def hsize (h : Int) : Int := if 0 ≤ h then h + 1 else -h
theorem hsize_pos (h : Int) : 1 ≤ hsize h := by unfold hsize; split <;> omega

/-- a block: its head opens just its own words -/
def OkP (p : List Int) : Prop := ∃ h t, p = h :: t ∧ hsize h = (p.length : Int)
/-- a tail that leads beyond the end -/
def BadT (p : List Int) : Prop := ∃ h t, p = h :: t ∧ (p.length : Int) < hsize h

/-- (address, words, is it free) of each block, the first at o -/
def blks (o : Int) : List (List Int) → List (Int × Int × Bool)
  | [] => []
  | p :: r => (o, (p.length : Int), decide (p.headD 0 < 0)) :: blks (o + p.length) r

theorem blks_append (o : Int) (ps qs : List (List Int)) : blks o (ps ++ qs) = blks o ps ++ blks (o + ps.flatten.length) qs := by
  induction ps generalizing o with
  | nil => simp [blks]
  | cons p r ih => simp [blks, ih, Int.add_assoc]

theorem blks_length (o : Int) (ps : List (List Int)) : (blks o ps).length = ps.length := by
  induction ps generalizing o with
  | nil => rfl
  | cons p r ih => simp [blks, ih]

/-- what holds between two turns of blocks_of's loop, ahead of place j -/
def BInv (ps : List (List Int)) (j : Int) (out : List (Int × Int × Bool)) (a : Int) : Prop :=
  ∃ k, k ≤ ps.length ∧ out = blks 0 (ps.take k) ∧ a = ((ps.take k).flatten.length : Int) ∧ j ≤ a

theorem binv_start {ps} : BInv ps 0 [] 0 := ⟨0, Nat.zero_le _, by simp [blks], by simp, by omega⟩

theorem binv_skip {ps j out a} (h : BInv ps j out a) (hj : j ≠ a) : BInv ps (j + 1) out a := by
  obtain ⟨k, h1, h2, h3, h4⟩ := h
  exact ⟨k, h1, h2, h3, by omega⟩

theorem flat_take_lt {ps : List (List Int)} {k : Nat} (h : k < ps.length) : ps.flatten = (ps.take k).flatten ++ (ps[k] ++ (ps.drop (k + 1)).flatten) := by
  have : ps = ps.take k ++ (ps[k] :: ps.drop (k + 1)) := by
    rw [List.getElem_cons_drop]; exact (List.take_append_drop k ps).symm
  calc ps.flatten = (ps.take k ++ (ps[k] :: ps.drop (k + 1))).flatten := congrArg List.flatten this
    _ = _ := by rw [List.flatten_append, List.flatten_cons]

/-- at a block's place: it is the tail, or a block -/
theorem binv_at {mem : List Int} {ps : List (List Int)} {tl : List Int} {j : Int} {out a} (hm : mem = ps.flatten ++ tl) (hok : ∀ p ∈ ps, OkP p) (ht : tl = [] ∨ BadT tl)
    (h : BInv ps j out a) (hja : j = a) (hlt : j < mem.length) :
    (j + hsize (mem.getD j.toNat 0) > mem.length ∧ BadT tl) ∨
    (j + hsize (mem.getD j.toNat 0) ≤ mem.length ∧ BInv ps (j + 1) (out ++ [(j, hsize (mem.getD j.toNat 0), decide (mem.getD j.toNat 0 < 0))]) (j + hsize (mem.getD j.toNat 0))) := by
  obtain ⟨k, h1, h2, h3, h4⟩ := h
  subst hja
  by_cases hk : k < ps.length
  · right
    have hf := flat_take_lt hk
    obtain ⟨hd, t, e1, e2⟩ := hok _ (List.getElem_mem hk)
    have hjn : j.toNat = (ps.take k).flatten.length := by omega
    have hget : mem.getD j.toNat 0 = hd := by
      rw [hm, hf, hjn, List.getD_eq_getElem?_getD, List.append_assoc, List.getElem?_append_right (Nat.le_refl _), Nat.sub_self, e1]
      simp
    have hp := hsize_pos hd
    have hlen : (mem.length : Int) = (ps.take k).flatten.length + (ps[k].length + (ps.drop (k+1)).flatten.length) + tl.length := by
      rw [hm, List.length_append, hf, List.length_append, List.length_append]; omega
    rw [hget]
    refine ⟨by omega, k + 1, by omega, ?_, ?_, by omega⟩
    · rw [List.take_succ_eq_append_getElem hk, blks_append, h2]
      congr 1
      simp only [blks, e1, List.headD_cons, Int.zero_add, ← h3]
      rw [e2, e1]
    · rw [List.take_succ_eq_append_getElem hk, List.flatten_append]
      simp only [List.length_append, List.flatten_cons, List.flatten_nil, List.append_nil]
      omega
  · left
    have hk' : ps.take k = ps := List.take_of_length_le (by omega)
    rw [hk'] at h3
    have hl : mem.length = ps.flatten.length + tl.length := by rw [hm, List.length_append]
    rcases ht with rfl | ht
    · rw [List.length_nil] at hl; omega
    · refine ⟨?_, ht⟩
      obtain ⟨hd, t, e1, e2⟩ := ht
      have hget : mem.getD j.toNat 0 = hd := by
        rw [hm, show j.toNat = ps.flatten.length by omega, List.getD_eq_getElem?_getD, List.getElem?_append_right (Nat.le_refl _), Nat.sub_self, e1]
        simp
      rw [hget]
      omega

/-- behind the loop -/
theorem binv_end {mem : List Int} {ps : List (List Int)} {tl : List Int} {out a} (hm : mem = ps.flatten ++ tl) (hok : ∀ p ∈ ps, OkP p) (h : BInv ps mem.length out a) : tl = [] ∧ out = blks 0 ps := by
  obtain ⟨k, h1, h2, h3, h4⟩ := h
  have hl : mem.length = ps.flatten.length + tl.length := by rw [hm, List.length_append]
  by_cases hk : k < ps.length
  · have hf := flat_take_lt hk
    obtain ⟨hd, t, e1, e2⟩ := hok _ (List.getElem_mem hk)
    have hp := hsize_pos hd
    have : ps.flatten.length = (ps.take k).flatten.length + (ps[k].length + (ps.drop (k+1)).flatten.length) := by
      rw [hf, List.length_append, List.length_append]
    omega
  · have hk' : ps.take k = ps := List.take_of_length_le (by omega)
    rw [hk'] at h2 h3
    exact ⟨List.length_eq_zero_iff.mp (by omega), h2⟩
end Mine
namespace Mine

/-- the words xs written into m from place a on -/
def wr (m : List Int) (a : Nat) (xs : List Int) : List Int := m.take a ++ xs ++ m.drop (a + xs.length)
theorem wr_nil {m : List Int} {a : Nat} : wr m a [] = m := by simp [wr]
theorem wr_len {m : List Int} {a : Nat} {xs : List Int} (h : a + xs.length ≤ m.length) : (wr m a xs).length = m.length := by
  simp only [wr, List.length_append, List.length_take, List.length_drop]; omega
theorem wr_snoc {m : List Int} {a : Nat} {xs : List Int} {x : Int} (h : a + xs.length < m.length) : (wr m a xs).set (a + xs.length) x = wr m a (xs ++ [x]) := by
  unfold wr
  rw [List.set_append_right (h := by simp only [List.length_append, List.length_take]; omega)]
  have e1 : a + xs.length - (m.take a ++ xs).length = 0 := by simp only [List.length_append, List.length_take]; omega
  rw [e1, List.drop_eq_getElem_cons h, List.set_cons_zero, List.length_append, List.length_singleton, ← Nat.add_assoc]
  simp
theorem wr_piece {u p v xs : List Int} (h : xs.length ≤ p.length) : wr (u ++ (p ++ v)) u.length xs = u ++ ((xs ++ p.drop xs.length) ++ v) := by
  unfold wr
  rw [List.take_left, ← List.drop_drop, List.drop_left, List.drop_append_of_le_length h]
  simp

def fits (need : Nat) (p : List Int) : Bool := decide (p.headD 0 < 0) && decide (need ≤ p.length)
/-- what allocate writes into a block that fits -/
def fitW (fs p : List Int) : List Int := (fs.length : Int) :: (fs ++ (if fs.length + 1 < p.length then [(fs.length : Int) + 1 - p.length] else []))
theorem fitW_len {fs p : List Int} (h : fs.length + 1 ≤ p.length) : (fitW fs p).length ≤ p.length := by
  unfold fitW
  split <;> simp <;> omega
theorem blks_get {pre post : List (List Int)} {p : List Int} : (blks 0 (pre ++ p :: post))[pre.length]? = some ((pre.flatten.length : Int), (p.length : Int), decide (p.headD 0 < 0)) := by
  rw [blks_append, List.getElem?_append_right (by rw [blks_length]; exact Nat.le_refl _), blks_length, Nat.sub_self]
  simp [blks]
theorem blks_at : ∀ {ps : List (List Int)} {o : Int} {i : Nat} {q : Int × Int × Bool}, (blks o ps)[i]? = some q → ∃ p, ps[i]? = some p ∧ q.2.1 = (p.length : Int) ∧ q.2.2 = decide (p.headD 0 < 0)
  | [], o, i, q, h => by simp [blks] at h
  | p :: r, o, 0, q, h => by
    simp only [blks, List.getElem?_cons_zero, Option.some.injEq] at h; subst h; exact ⟨p, rfl, rfl, rfl⟩
  | p :: r, o, i + 1, q, h => by
    simp only [blks, List.getElem?_cons_succ] at h
    obtain ⟨p', h1, h2⟩ := blks_at h
    exact ⟨p', by simpa using h1, h2⟩
end Mine
namespace Mine

theorem wr_app {m q : List Int} {a : Nat} {xs : List Int} (h : a + xs.length ≤ m.length) : wr (m ++ q) a xs = wr m a xs ++ q := by
  unfold wr
  rw [List.take_append_of_le_length (by omega), List.drop_append_of_le_length h]
  simp
/-- a free block of k words -/
def freeI (k : Nat) : List Int := if k = 0 then [] else -(k : Int) :: List.replicate (k - 1) 0
theorem freeI_len (k : Nat) : (freeI k).length = k := by
  unfold freeI
  split
  · subst_vars; rfl
  · rw [List.length_cons, List.length_replicate]; omega
theorem freeI_ok {k : Nat} (h : 1 ≤ k) : OkP (freeI k) := by
  refine ⟨-(k : Int), List.replicate (k - 1) 0, ?_, ?_⟩
  · unfold freeI; rw [if_neg (by omega)]
  · rw [freeI_len]; unfold hsize; rw [if_neg (by omega)]; omega
theorem freeI_fits {k n : Nat} (h : 1 ≤ k) : fits n (freeI k) = decide (n ≤ k) := by
  unfold fits
  rw [freeI_len]
  unfold freeI
  rw [if_neg (by omega), List.headD_cons, decide_eq_true (by omega), Bool.true_and]
theorem fit_free {fs : List Int} {k : Nat} (h : fs.length + 1 ≤ k) : fitW fs (freeI k) ++ (freeI k).drop (fitW fs (freeI k)).length = (fs.length : Int) :: (fs ++ freeI (k - (fs.length + 1))) := by
  unfold fitW
  rw [freeI_len]
  by_cases q : fs.length + 1 < k
  · rw [if_pos q]
    have hk : ¬ k = 0 := by omega
    have hk2 : ¬ (k - (fs.length + 1)) = 0 := by omega
    simp only [freeI, if_neg hk, if_neg hk2, List.length_cons, List.length_append, List.length_nil, List.drop_succ_cons, List.drop_replicate, List.cons_append, List.append_assoc, List.nil_append]
    congr 3
    · omega
    · congr 1; omega
  · obtain rfl : k = fs.length + 1 := by omega
    rw [if_neg q, List.append_nil]
    have : (freeI (fs.length + 1)).drop ((fs.length : Int) :: fs).length = [] := List.drop_of_length_le (by rw [freeI_len]; exact Nat.le_refl _)
    rw [this]
    simp [freeI]

/-- what law 11 knows between two turns -/
inductive St (fs : List Int) (ps : List (List Int)) (w : List Int) (place : Int) (ok : Bool) : Prop
  | oom : ok = false → (∀ q ∈ ps, fits (fs.length + 1) q = false) → w = ps.flatten → place = -1 → St fs ps w place ok
  | fit (pre post : List (List Int)) (p : List Int) : ok = true → ps = pre ++ p :: post → (∀ q ∈ pre, fits (fs.length + 1) q = false) → fits (fs.length + 1) p = true → w = wr ps.flatten pre.flatten.length (fitW fs p) → place = pre.flatten.length → St fs ps w place ok
theorem st_start {fs : List Int} : St fs [] [] (-1) false := .oom rfl (fun _ h => (nomatch h)) rfl rfl
theorem flat_snoc {ps : List (List Int)} {q : List Int} : (ps ++ [q]).flatten = ps.flatten ++ q := by simp
theorem st_same {fs : List Int} {ps : List (List Int)} {w q : List Int} {place : Int} {ok : Bool} (h : St fs ps w place ok) (hq : ok = true ∨ fits (fs.length + 1) q = false) : St fs (ps ++ [q]) (w ++ q) place ok := by
  rcases h with ⟨h1, h2, h3, h4⟩ | ⟨pre, post, p, h1, h2, h3, h4, h5, h6⟩
  · refine .oom h1 (fun x hx => ?_) (by rw [h3, flat_snoc]) h4
    rcases List.mem_append.mp hx with hx | hx
    · exact h2 x hx
    · rw [List.mem_singleton.mp hx]
      rcases hq with hq | hq
      · rw [h1] at hq; cases hq
      · exact hq
  · refine .fit pre (post ++ [q]) p h1 (by rw [h2]; simp) h3 h4 ?_ h6
    have hp : fs.length + 1 ≤ p.length := by
      unfold fits at h4
      simp at h4
      omega
    have hl : pre.flatten.length + (fitW fs p).length ≤ ps.flatten.length := by
      rw [h2, List.flatten_append, List.flatten_cons, List.length_append, List.length_append]
      have := fitW_len hp
      omega
    rw [flat_snoc, wr_app hl, h5]
theorem st_fit {fs : List Int} {ps : List (List Int)} {w : List Int} {place : Int} {k : Nat} (h : St fs ps w place false) (hk : fs.length + 1 ≤ k) : St fs (ps ++ [freeI k]) (w ++ ((fs.length : Int) :: (fs ++ freeI (k - (fs.length + 1))))) (ps.flatten.length : Int) true := by
  rcases h with ⟨h1, h2, h3, h4⟩ | ⟨pre, post, p, h1, _⟩
  · refine .fit ps [] (freeI k) rfl rfl h2 (by rw [freeI_fits (by omega)]; exact decide_eq_true hk) ?_ rfl
    have e := wr_piece (u := ps.flatten) (p := freeI k) (v := []) (xs := fitW fs (freeI k)) (by have := fitW_len (fs := fs) (p := freeI k) (by rw [freeI_len]; exact hk); exact this)
    rw [List.append_nil, List.append_nil] at e
    rw [flat_snoc, e, fit_free hk, h3]
  · cases h1
end Mine
namespace Mine

/-- a word met: a pointer to an address not yet met is noted -/
def stepW (met : List Int) (w : Int) : List Int := if w % 2 = 1 ∧ w / 2 ∉ met then met ++ [w / 2] else met
def addAll (met ws : List Int) : List Int := ws.foldl stepW met
theorem addAll_append {m a b : List Int} : addAll m (a ++ b) = addAll (addAll m a) b := List.foldl_append
theorem addAll_snoc {m a : List Int} {w : Int} : addAll m (a ++ [w]) = stepW (addAll m a) w := by rw [addAll_append]; rfl
theorem stepW_prefix {m : List Int} {w : Int} : m <+: stepW m w := by
  unfold stepW
  split
  · exact ⟨_, rfl⟩
  · exact List.prefix_refl _
theorem addAll_prefix {ws : List Int} : ∀ {m : List Int}, m <+: addAll m ws := by
  induction ws with
  | nil => intro m; exact List.prefix_refl _
  | cons w r ih => intro m; exact List.IsPrefix.trans stepW_prefix ih
theorem stepW_nodup {m : List Int} {w : Int} (h : m.Nodup) : (stepW m w).Nodup := by
  unfold stepW
  split
  · rename_i q
    rw [List.nodup_append]
    exact ⟨h, by simp, fun a ha b hb => by rw [List.mem_singleton.mp hb]; exact fun e => q.2 (e ▸ ha)⟩
  · exact h
theorem addAll_nodup {ws : List Int} : ∀ {m : List Int}, m.Nodup → (addAll m ws).Nodup := by
  induction ws with
  | nil => intro m h; exact h
  | cons w r ih => intro m h; exact ih (stepW_nodup h)
theorem mem_stepW {m : List Int} {w a : Int} : a ∈ stepW m w ↔ a ∈ m ∨ (w % 2 = 1 ∧ w / 2 = a) := by
  unfold stepW
  split
  · rename_i q
    rw [List.mem_append, List.mem_singleton]
    exact ⟨fun h => h.elim .inl fun e => .inr ⟨q.1, e.symm⟩, fun h => h.elim .inl fun e => .inr e.2.symm⟩
  · rename_i q
    refine ⟨.inl, fun h => h.elim id fun e => ?_⟩
    by_cases hm : w / 2 ∈ m
    · exact e.2 ▸ hm
    · exact absurd ⟨e.1, hm⟩ q
theorem mem_addAll {ws : List Int} {a : Int} : ∀ {m : List Int}, a ∈ addAll m ws ↔ a ∈ m ∨ ∃ w ∈ ws, w % 2 = 1 ∧ w / 2 = a := by
  induction ws with
  | nil => intro m; simp [addAll]
  | cons w r ih =>
    intro m
    show a ∈ addAll (stepW m w) r ↔ _
    rw [ih, mem_stepW]
    constructor
    · rintro ((h | h) | ⟨x, hx, h⟩)
      · exact .inl h
      · exact .inr ⟨w, .head _, h⟩
      · exact .inr ⟨x, .tail _ hx, h⟩
    · rintro (h | ⟨x, hx, h⟩)
      · exact .inl (.inl h)
      · rcases List.mem_cons.mp hx with rfl | hx
        · exact .inl (.inr h)
        · exact .inr ⟨x, hx, h⟩

section
variable (fld : Int → List Int) (roots : List Int)
def Gf (o : List Int) : List Int := addAll [] (roots ++ o.flatMap fld)
def iterG : Nat → List Int
  | 0 => []
  | k + 1 => Gf fld roots (iterG k)
def Fix (o : List Int) : Prop := Gf fld roots o = o
def Prod' (o : List Int) : Prop := ∀ i a, o[i]? = some a → ∃ w ∈ roots ++ (o.take i).flatMap fld, w % 2 = 1 ∧ w / 2 = a
end

section
variable {fld : Int → List Int} {roots : List Int}
theorem flatMap_prefix {o o' : List Int} (h : o <+: o') : o.flatMap fld <+: o'.flatMap fld := by
  obtain ⟨t, rfl⟩ := h
  rw [List.flatMap_append]
  exact ⟨_, rfl⟩
theorem Gf_mono {o o' : List Int} (h : o <+: o') : Gf fld roots o <+: Gf fld roots o' := by
  obtain ⟨t, e⟩ := flatMap_prefix (fld := fld) h
  have q : Gf fld roots o' = addAll (Gf fld roots o) t := by
    unfold Gf
    rw [← e, ← List.append_assoc, addAll_append]
  rw [q]
  exact addAll_prefix
theorem Gf_nodup {o : List Int} : (Gf fld roots o).Nodup := addAll_nodup List.nodup_nil
theorem mem_Gf {o : List Int} {a : Int} : a ∈ Gf fld roots o ↔ ∃ w ∈ roots ++ o.flatMap fld, w % 2 = 1 ∧ w / 2 = a := by
  unfold Gf
  rw [mem_addAll]
  simp
theorem prefix_take {o p : List Int} (h : p <+: o) : p = o.take p.length := by
  obtain ⟨t, rfl⟩ := h
  simp
theorem iter_up : ∀ k, iterG fld roots k <+: iterG fld roots (k + 1)
  | 0 => List.nil_prefix
  | k + 1 => Gf_mono (iter_up k)
theorem iter_prefix {o : List Int} (hf : Fix fld roots o) : ∀ k, iterG fld roots k <+: o
  | 0 => List.nil_prefix
  | k + 1 => by
    have := Gf_mono (fld := fld) (roots := roots) (iter_prefix hf k)
    rw [hf] at this
    exact this
theorem prefix_len_eq {o p : List Int} (h : p <+: o) (e : o.length ≤ p.length) : p = o := h.eq_of_length (Nat.le_antisymm h.length_le e)
theorem iter_len {o : List Int} (hf : Fix fld roots o) (hp : Prod' fld roots o) : ∀ k, min k o.length ≤ (iterG fld roots k).length
  | 0 => by simp
  | k + 1 => by
    have ih := iter_len hf hp k
    have h1 := iter_prefix hf k
    have h2 := iter_prefix hf (k + 1)
    by_cases hm : o.length ≤ (iterG fld roots k).length
    · have e := prefix_len_eq h1 hm
      have : iterG fld roots (k + 1) = o := by show Gf fld roots (iterG fld roots k) = o; rw [e]; exact hf
      rw [this]
      exact Nat.min_le_right _ _
    · have hlt : (iterG fld roots k).length < o.length := by omega
      have e1 := prefix_take h1
      obtain ⟨w, hw, hw2⟩ := hp (iterG fld roots k).length o[(iterG fld roots k).length] (List.getElem?_eq_getElem hlt)
      rw [← e1] at hw
      have hin : o[(iterG fld roots k).length] ∈ iterG fld roots (k + 1) := mem_Gf.mpr ⟨w, hw, hw2⟩
      have e2 := prefix_take h2
      have nd : o.Nodup := by rw [← hf]; exact Gf_nodup
      have : (iterG fld roots k).length < (iterG fld roots (k + 1)).length := by
        by_cases q : (iterG fld roots k).length < (iterG fld roots (k + 1)).length
        · exact q
        · exfalso
          rw [e2] at hin
          obtain ⟨j, hj, ej⟩ := List.mem_iff_getElem.mp hin
          rw [List.length_take] at hj
          rw [List.getElem_take] at ej
          exact List.pairwise_iff_getElem.mp nd j (iterG fld roots k).length (by omega) hlt (by omega) ej
      omega
theorem iter_eq {o : List Int} (hf : Fix fld roots o) (hp : Prod' fld roots o) {k : Nat} (hk : o.length ≤ k) : iterG fld roots k = o :=
  prefix_len_eq (iter_prefix hf k) (by have := iter_len hf hp k; omega)
theorem fix_unique {o o' : List Int} (h1 : Fix fld roots o) (h2 : Prod' fld roots o) (h3 : Fix fld roots o') (h4 : Prod' fld roots o') : o = o' := by
  rw [← iter_eq h1 h2 (Nat.le_max_left o.length o'.length), iter_eq h3 h4 (Nat.le_max_right o.length o'.length)]

theorem take_sub {o : List Int} {i j : Nat} (h : i ≤ j) : o.take i <+: o.take j := by
  refine ⟨(o.take j).drop i, ?_⟩
  have e : o.take i = (o.take j).take i := by rw [List.take_take, Nat.min_eq_left h]
  rw [e]
  exact List.take_append_drop _ _
theorem prod_step {o p : List Int} (hp : Prod' fld roots p) (hpo : p <+: o) (ho : o = Gf fld roots p) : Prod' fld roots o := by
  intro i a ha
  by_cases hi : i < p.length
  · obtain ⟨t, rfl⟩ := hpo
    rw [List.getElem?_append_left hi] at ha
    obtain ⟨w, hw, hw2⟩ := hp i a ha
    exact ⟨w, by rw [List.take_append_of_le_length (by omega)]; exact hw, hw2⟩
  · have hm : a ∈ o := List.mem_of_getElem? ha
    rw [ho] at hm
    obtain ⟨w, hw, hw2⟩ := mem_Gf.mp hm
    refine ⟨w, ?_, hw2⟩
    rcases List.mem_append.mp hw with hw | hw
    · exact List.mem_append.mpr (.inl hw)
    · refine List.mem_append.mpr (.inr ?_)
      have e := prefix_take hpo
      obtain ⟨t, et⟩ := flatMap_prefix (fld := fld) (take_sub (o := o) (i := p.length) (j := i) (by omega))
      rw [← et]
      rw [e] at hw
      exact List.mem_append.mpr (.inl hw)
theorem prod_iter : ∀ k, Prod' fld roots (iterG fld roots k)
  | 0 => fun i a h => by simp [iterG] at h
  | k + 1 => prod_step (prod_iter k) (iter_up k) rfl
theorem fix_iter {n : Nat} (hb : ∀ k, (iterG fld roots k).length ≤ n) : Fix fld roots (iterG fld roots n) := by
  -- some turn adds nothing
  have key : ∀ k, (∃ j, j < k ∧ iterG fld roots (j + 1) = iterG fld roots j) ∨ k ≤ (iterG fld roots k).length := by
    intro k
    induction k with
    | zero => exact .inr (Nat.zero_le _)
    | succ k ih =>
      rcases ih with ⟨j, hj, e⟩ | ih
      · exact .inl ⟨j, by omega, e⟩
      · by_cases e : iterG fld roots (k + 1) = iterG fld roots k
        · exact .inl ⟨k, by omega, e⟩
        · right
          have h1 := (iter_up (fld := fld) (roots := roots) k).length_le
          by_cases h2 : (iterG fld roots (k + 1)).length ≤ (iterG fld roots k).length
          · exact absurd (prefix_len_eq (iter_up k) h2).symm e
          · omega
  have stay : ∀ {j : Nat}, iterG fld roots (j + 1) = iterG fld roots j → ∀ d, iterG fld roots (j + d) = iterG fld roots j := by
    intro j e d
    induction d with
    | zero => rfl
    | succ d ih =>
      show Gf fld roots (iterG fld roots (j + d)) = _
      rw [ih]
      exact e
  rcases key (n + 1) with ⟨j, hj, e⟩ | h
  · have e1 := stay e (n - j)
    have e2 := stay e (n - j + 1)
    rw [show j + (n - j) = n by omega] at e1
    rw [show j + (n - j + 1) = n + 1 by omega] at e2
    show Gf fld roots (iterG fld roots n) = _
    exact e2.trans e1.symm
  · have := hb (n + 1)
    omega

/-- pigeons -/
theorem nodup_le {S : List Int} : ∀ {l : List Int}, l.Nodup → (∀ a ∈ l, a ∈ S) → l.length ≤ S.length := by
  intro l
  induction l generalizing S with
  | nil => intro _ _; exact Nat.zero_le _
  | cons a r ih =>
    intro hn hs
    obtain ⟨h1, h2⟩ := List.nodup_cons.mp hn
    have ha := hs a (.head _)
    have := ih (S := S.erase a) h2 fun b hb => (List.mem_erase_of_ne (fun e : b = a => h1 (e ▸ hb))).mpr (hs b (.tail _ hb))
    rw [List.length_erase_of_mem ha] at this
    have hp := List.length_pos_of_mem ha
    rw [List.length_cons]
    omega
/-- all within S -/
structure Closed (fld : Int → List Int) (roots S : List Int) : Prop where
  r : ∀ w ∈ roots, w % 2 = 1 → w / 2 ∈ S
  f : ∀ a ∈ S, ∀ w ∈ fld a, w % 2 = 1 → w / 2 ∈ S
theorem Closed.G {S o : List Int} (c : Closed fld roots S) (h : ∀ a ∈ o, a ∈ S) : ∀ a ∈ Gf fld roots o, a ∈ S := fun a ha => by
  obtain ⟨w, hw, h1, h2⟩ := mem_Gf.mp ha
  rw [← h2]
  rcases List.mem_append.mp hw with hw | hw
  · exact c.r w hw h1
  · obtain ⟨b, hb, hw⟩ := List.mem_flatMap.mp hw
    exact c.f b (h b hb) w hw h1
theorem Closed.iter {S : List Int} (c : Closed fld roots S) : ∀ k, ∀ a ∈ iterG fld roots k, a ∈ S
  | 0 => fun a h => (nomatch h)
  | k + 1 => c.G (c.iter k)
theorem Closed.bound {S : List Int} (c : Closed fld roots S) (k : Nat) : (iterG fld roots k).length ≤ S.length := by
  refine nodup_le ?_ (c.iter k)
  cases k with
  | zero => exact List.nodup_nil
  | succ k => exact Gf_nodup
theorem Closed.fix {S : List Int} (c : Closed fld roots S) : Fix fld roots (iterG fld roots S.length) := fix_iter c.bound

/-- what reachable's loop knows: all met words of the first p places are noted -/
structure BfsI (fld : Int → List Int) (roots S met : List Int) (p : Nat) : Prop where
  le : p ≤ met.length
  eq : met = Gf fld roots (met.take p)
  pr : Prod' fld roots met
  sub : ∀ a ∈ met, a ∈ S
theorem bfs_start {S : List Int} (c : Closed fld roots S) : BfsI fld roots S (addAll [] roots) 0 := by
  have e : addAll [] roots = Gf fld roots [] := by unfold Gf; simp
  refine ⟨Nat.zero_le _, by rw [e]; rfl, ?_, by rw [e]; exact c.G fun a h => (nomatch h)⟩
  exact prod_step (p := []) (fun i a h => by simp at h) List.nil_prefix e
theorem bfs_step {S met : List Int} {p : Nat} (c : Closed fld roots S) (b : BfsI fld roots S met p) {a : Int} (ha : met[p]? = some a) : BfsI fld roots S (addAll met (fld a)) (p + 1) := by
  have hp : p < met.length := (List.getElem?_eq_some_iff.mp ha).1
  have pf : met <+: addAll met (fld a) := addAll_prefix
  have et : (addAll met (fld a)).take (p + 1) = met.take p ++ [a] := by
    obtain ⟨t, e⟩ := pf
    rw [← e, List.take_append_of_le_length (by omega), List.take_succ_eq_append_getElem hp, (List.getElem?_eq_some_iff.mp ha).2]
  have eq : addAll met (fld a) = Gf fld roots ((addAll met (fld a)).take (p + 1)) := by
    rw [et]
    unfold Gf
    rw [List.flatMap_append, ← List.append_assoc, addAll_append]
    have e2 : addAll [] (roots ++ (met.take p).flatMap fld) = met := b.eq.symm
    rw [e2]
    simp
  refine ⟨by have := pf.length_le; omega, eq, ?_, ?_⟩
  · intro i x hx
    by_cases hi : i < met.length
    · obtain ⟨t, e⟩ := pf
      rw [← e, List.getElem?_append_left hi] at hx
      obtain ⟨w, hw, hw2⟩ := b.pr i x hx
      exact ⟨w, by rw [← e, List.take_append_of_le_length (by omega)]; exact hw, hw2⟩
    · have hm : x ∈ addAll met (fld a) := List.mem_of_getElem? hx
      rw [eq] at hm
      obtain ⟨w, hw, hw2⟩ := mem_Gf.mp hm
      refine ⟨w, ?_, hw2⟩
      rcases List.mem_append.mp hw with hw | hw
      · exact List.mem_append.mpr (.inl hw)
      · obtain ⟨t, et⟩ := flatMap_prefix (fld := fld) (take_sub (o := addAll met (fld a)) (i := p + 1) (j := i) (by omega))
        rw [← et]
        exact List.mem_append.mpr (.inr (List.mem_append.mpr (.inl hw)))
  · intro x hx
    rcases mem_addAll.mp hx with h | ⟨w, hw, h1, h2⟩
    · exact b.sub x h
    · rw [← h2]; exact c.f a (b.sub a (List.mem_of_getElem? ha)) w hw h1
theorem bfs_end {S met : List Int} {p : Nat} (b : BfsI fld roots S met p) (h : met.length ≤ p) : Fix fld roots met ∧ Prod' fld roots met := by
  have e := b.eq
  rw [List.take_of_length_le h] at e
  exact ⟨e.symm, b.pr⟩
theorem bfs_len {S met : List Int} {p : Nat} (b : BfsI fld roots S met p) : met.length ≤ S.length := nodup_le (by rw [b.eq]; exact Gf_nodup) b.sub
end
end Mine
namespace Mine
open PySem PySem.Calls PySem.Spec PyProof.Rows

/-- plain data -/
inductive V where
  | none
  | bool (b : Bool)
  | int (i : Int)
  | str (x : Str)
  | typ (n : String)
  | tup (l : List V)
  | lst (l : List V)

abbrev lstO (vs : List Value) (n : Nat) : Obj := { cls := .type "list", data := .seq vs.toArray n }
abbrev tupO (vs : List Value) (n : Nat) : Obj := { cls := .type "tuple", data := .seq vs.toArray n }

mutual
/-- the value reads as the datum, through no object of X -/
inductive Rd (X : List Addr) (h : Heap) : Value → V → Prop
  | none : Rd X h .none .none
  | bool (b : Bool) : Rd X h (.bool b) (.bool b)
  | int (i : Int) (t : Tok) : Rd X h (.int i t) (.int i)
  | str (x : Str) (t : Tok) : Rd X h (.str x t) (.str x)
  | typ (n : String) : Rd X h (.type n) (.typ n)
  | tup {a : Addr} {vs : List Value} {n : Nat} {ds : List V} : h.get? a = some (tupO vs n) → a ∉ X → RdA X h vs ds → Rd X h (.ref a) (.tup ds)
  | lst {a : Addr} {vs : List Value} {n : Nat} {ds : List V} : h.get? a = some (lstO vs n) → a ∉ X → RdA X h vs ds → Rd X h (.ref a) (.lst ds)
inductive RdA (X : List Addr) (h : Heap) : List Value → List V → Prop
  | nil : RdA X h [] []
  | cons {v : Value} {vs : List Value} {d : V} {ds : List V} : Rd X h v d → RdA X h vs ds → RdA X h (v :: vs) (d :: ds)
end

/-- an object that holds a sequence -/
def IsSq (o : Obj) : Prop := ∃ its n, o.data = .seq its n

mutual
theorem Rd.move {X Y : List Addr} {h h' : Heap} (hk : ∀ a o, h.get? a = some o → IsSq o → a ∉ X → h'.get? a = some o ∧ a ∉ Y) : ∀ {v : Value} {d : V}, Rd X h v d → Rd Y h' v d
  | _, _, .none => .none
  | _, _, .bool b => .bool b
  | _, _, .int i t => .int i t
  | _, _, .str x t => .str x t
  | _, _, .typ n => .typ n
  | _, _, .tup e hx r => .tup (hk _ _ e ⟨_, _, rfl⟩ hx).1 (hk _ _ e ⟨_, _, rfl⟩ hx).2 (RdA.move hk r)
  | _, _, .lst e hx r => .lst (hk _ _ e ⟨_, _, rfl⟩ hx).1 (hk _ _ e ⟨_, _, rfl⟩ hx).2 (RdA.move hk r)
theorem RdA.move {X Y : List Addr} {h h' : Heap} (hk : ∀ a o, h.get? a = some o → IsSq o → a ∉ X → h'.get? a = some o ∧ a ∉ Y) : ∀ {vs : List Value} {ds : List V}, RdA X h vs ds → RdA Y h' vs ds
  | _, _, .nil => .nil
  | _, _, .cons h r => .cons (Rd.move hk h) (RdA.move hk r)
end

def Le (h h' : Heap) : Prop := ∀ b o, h.get? b = some o → h'.get? b = some o
theorem Le.refl (h : Heap) : Le h h := fun _ _ e => e
theorem Le.trans {a b c : Heap} (x : Le a b) (y : Le b c) : Le a c := fun p o e => y p o (x p o e)
theorem Le.push {h : Heap} (o : Obj) : Le h (h.push o) := fun _ _ e => Heap.get?_push_of_some o e

theorem Rd.le {X : List Addr} {h h' : Heap} {v : Value} {d : V} (x : Rd X h v d) (k : Le h h') : Rd X h' v d := x.move fun a o e _ hx => ⟨k a o e, hx⟩
theorem RdA.le {X : List Addr} {h h' : Heap} {v : List Value} {d : List V} (x : RdA X h v d) (k : Le h h') : RdA X h' v d := x.move fun a o e _ hx => ⟨k a o e, hx⟩
theorem Rd.sub {X Y : List Addr} {h : Heap} {v : Value} {d : V} (x : Rd X h v d) (k : ∀ a ∈ Y, a ∈ X) : Rd Y h v d := x.move fun a o e _ hx => ⟨e, fun q => hx (k a q)⟩
theorem RdA.sub {X Y : List Addr} {h : Heap} {v : List Value} {d : List V} (x : RdA X h v d) (k : ∀ a ∈ Y, a ∈ X) : RdA Y h v d := x.move fun a o e _ hx => ⟨e, fun q => hx (k a q)⟩

/-- nothing within it is an object -/
def V.flat : V → Bool
  | .tup _ => false
  | .lst _ => false
  | _ => true
theorem Rd.flat {X Y : List Addr} {h h' : Heap} {v : Value} {d : V} (x : Rd X h v d) (f : d.flat = true) : Rd Y h' v d := by
  cases x <;> first | (cases f; done) | constructor
theorem RdA.flat {X Y : List Addr} {h h' : Heap} : ∀ {v : List Value} {d : List V}, RdA X h v d → (∀ x ∈ d, x.flat = true) → RdA Y h' v d
  | _, _, .nil, _ => .nil
  | _, _, .cons a r, f => .cons (a.flat (f _ (.head _))) (RdA.flat r fun x hx => f x (.tail _ hx))

section
variable {X : List Addr} {h : Heap} {vs ws : List Value} {ds es : List V}
theorem RdA.length : ∀ {vs : List Value} {ds : List V}, RdA X h vs ds → vs.length = ds.length
  | _, _, .nil => rfl
  | _, _, .cons _ r => by rw [List.length_cons, List.length_cons, RdA.length r]
theorem RdA.append : ∀ {vs : List Value} {ds : List V}, RdA X h vs ds → RdA X h ws es → RdA X h (vs ++ ws) (ds ++ es)
  | _, _, .nil, k => k
  | _, _, .cons a r, k => .cons a (RdA.append r k)
theorem RdA.get : ∀ {vs : List Value} {ds : List V}, RdA X h vs ds → ∀ {i : Nat} {d : V}, ds[i]? = some d → ∃ v, vs[i]? = some v ∧ Rd X h v d
  | _, _, .nil, i, d, e => by simp at e
  | _, _, .cons a r, 0, d, e => by simp at e; subst e; exact ⟨_, rfl, a⟩
  | _, _, .cons a r, i + 1, d, e => by simp at e; obtain ⟨v, h1, h2⟩ := RdA.get r e; exact ⟨v, by simpa using h1, h2⟩
theorem RdA.getV : ∀ {vs : List Value} {ds : List V}, RdA X h vs ds → ∀ {i : Nat} {v : Value}, vs[i]? = some v → ∃ d, ds[i]? = some d ∧ Rd X h v d
  | _, _, .nil, i, v, e => by simp at e
  | _, _, .cons a r, 0, v, e => by simp at e; subst e; exact ⟨_, rfl, a⟩
  | _, _, .cons a r, i + 1, v, e => by simp at e; obtain ⟨d, h1, h2⟩ := RdA.getV r e; exact ⟨d, by simpa using h1, h2⟩
theorem RdA.set {v : Value} {d : V} (hv : Rd X h v d) : ∀ {vs : List Value} {ds : List V}, RdA X h vs ds → ∀ i : Nat, RdA X h (vs.set i v) (ds.set i d)
  | _, _, .nil, _ => .nil
  | _, _, .cons _ r, 0 => .cons hv r
  | _, _, .cons a r, i + 1 => .cons a (RdA.set hv r i)
theorem RdA.drop : ∀ {vs : List Value} {ds : List V}, RdA X h vs ds → ∀ n, RdA X h (vs.drop n) (ds.drop n)
  | _, _, r, 0 => r
  | _, _, .nil, _ + 1 => .nil
  | _, _, .cons _ r, n + 1 => RdA.drop r n
theorem RdA.take : ∀ {vs : List Value} {ds : List V}, RdA X h vs ds → ∀ n, RdA X h (vs.take n) (ds.take n)
  | _, _, _, 0 => .nil
  | _, _, .nil, _ + 1 => .nil
  | _, _, .cons a r, n + 1 => .cons a (RdA.take r n)
end

/-- what the laws' proofs know of the program's run -/
structure Wd where
  prog : Program
  w : World
  mg : Str → Option Value
  mb : Str → Option Value
  defs : Addr → FuncData → Prop
  root : Heap

structure Gr (W : Wd) (h : Heap) : Prop where
  g : h.Ns mainGlobals W.mg
  b : h.Ns builtinsNs W.mb
  lim : h.NoLimit
  defs : ∀ f fd, W.defs f fd → ∃ o, h.get? f = some o ∧ o.data = .func fd ∧ h.CodeRec fd.code fd.qualname
  root : Le W.root h

theorem Gr.le {W : Wd} {h h' : Heap} (x : Gr W h) (k : Le h h') : Gr W h' :=
  ⟨x.g.keeps k, x.b.keeps k, x.lim.keeps k, fun f fd hq => let ⟨o, h1, h2, h3⟩ := x.defs f fd hq; ⟨o, k _ _ h1, h2, h3.keeps k⟩, x.root.trans k⟩

structure Cn (W : Wd) (k : Nat) (A : Around) (h₀ : Heap) (L : Addr) (h : Heap) : Prop where
  gr : Gr W h₀
  bel : ∃ A₀ base outer fenv, Below A₀ base outer h₀ ∧ A.frames = some (fenv :: outer) ∧ fenv.frame = some L ∧ fenv.scope.kind = .function
  above : h₀.objs.size ≤ L
  hand : A.handled = none
  room : A.depth + k < recursionLimit
  units : A.units + 8 * k + 100 < cLine
  keep : Le h₀ h
  ns : ∃ m, h.Ns L m

theorem Cn.le {W : Wd} {k : Nat} {A : Around} {h₀ : Heap} {L : Addr} {h h' : Heap} (x : Cn W k A h₀ L h) (q : Le h h') : Cn W k A h₀ L h' :=
  ⟨x.gr, x.bel, x.above, x.hand, x.room, x.units, x.keep.trans q, let ⟨m, hm⟩ := x.ns; ⟨m, hm.keeps q⟩⟩
theorem Cn.less {W : Wd} {k k' : Nat} {A : Around} {h₀ : Heap} {L : Addr} {h : Heap} (x : Cn W k A h₀ L h) (q : k' ≤ k) : Cn W k' A h₀ L h :=
  ⟨x.gr, x.bel, x.above, x.hand, by have := x.room; omega, by have := x.units; omega, x.keep, x.ns⟩
theorem Cn.here {W : Wd} {k : Nat} {A : Around} {h₀ : Heap} {L : Addr} {h : Heap} (x : Cn W k A h₀ L h) : Gr W h := x.gr.le x.keep

/-- where an expression is evaluated -/
structure Cx (W : Wd) (k : Nat) (A : Around) (h₀ : Heap) (L : Addr) (env : Env) (X : List Addr) (h : Heap) : Prop where
  cn : Cn W k A h₀ L h
  ek : env.scope.kind = .function
  eg : env.globals = mainGlobals
  eb : env.builtins = builtinsNs
  xs : ∀ a ∈ X, ∃ o, h.get? a = some o
theorem Cx.le {W : Wd} {k : Nat} {A : Around} {h₀ : Heap} {L : Addr} {env : Env} {X : List Addr} {h h' : Heap} (x : Cx W k A h₀ L env X h) (q : Le h h') : Cx W k A h₀ L env X h' :=
  ⟨x.cn.le q, x.ek, x.eg, x.eb, fun a ha => let ⟨o, e⟩ := x.xs a ha; ⟨o, q _ _ e⟩⟩
theorem Cx.sub {W : Wd} {k : Nat} {A : Around} {h₀ : Heap} {L : Addr} {env : Env} {X Y : List Addr} {h : Heap} (x : Cx W k A h₀ L env X h) (q : ∀ a ∈ Y, a ∈ X) : Cx W k A h₀ L env Y h :=
  ⟨x.cn, x.ek, x.eg, x.eb, fun a ha => x.xs a (q a ha)⟩
theorem Cx.fresh {W : Wd} {k : Nat} {A : Around} {h₀ : Heap} {L : Addr} {env : Env} {X : List Addr} {h h' : Heap} (x : Cx W k A h₀ L env X h) (q : Le h h') : h'.objs.size ∉ X := fun m => by
  obtain ⟨o, e⟩ := x.xs _ m
  exact Nat.lt_irrefl _ (Heap.lt_size (q _ _ e))

/-- the variable holds the value -/
def Var (env : Env) (h : Heap) (x : Str) (v : Value) : Prop :=
  (env.kindOf x = some .local ∧ ∃ m, h.Ns env.locals m ∧ m x = some v) ∨
  ((env.kindOf x = some .cell ∨ (env.kindOf x = some .free ∧ (x == ("__classdict__" : Str)) = false)) ∧ ∃ c, env.cells.lookup x = some c ∧ h.IsCell c (some v))
theorem Var.le {env : Env} {h h' : Heap} {x : Str} {v : Value} (y : Var env h x v) (k : Le h h') : Var env h' x v := by
  rcases y with ⟨a, m, b, c⟩ | ⟨a, c, b, d⟩
  · exact .inl ⟨a, m, b.keeps k, c⟩
  · exact .inr ⟨a, c, b, d.keeps k⟩

/-- the state has grown: nothing that stood has turned -/
structure Gw (s s' : Shared) : Prop where
  same : ∃ h tk, s' = { s with heap := h, toks := tk }
  le : Le s.heap s'.heap
theorem Gw.refl (s : Shared) : Gw s s := ⟨⟨s.heap, s.toks, rfl⟩, fun _ _ e => e⟩
theorem Gw.trans {a b c : Shared} (x : Gw a b) (y : Gw b c) : Gw a c := by
  obtain ⟨⟨h, t, rfl⟩, k⟩ := x
  obtain ⟨⟨h', t', rfl⟩, k'⟩ := y
  exact ⟨⟨h', t', rfl⟩, k.trans k'⟩
theorem Gw.toks (s : Shared) (t : Nat) : Gw s { s with toks := t } := ⟨⟨s.heap, t, rfl⟩, fun _ _ e => e⟩
theorem Gw.push (s : Shared) (o : Obj) : Gw s { s with heap := s.heap.push o } := ⟨⟨_, s.toks, rfl⟩, Le.push o⟩
theorem Gw.heap (s : Shared) (h : Heap) (t : Nat) (k : Le s.heap h) : Gw s { s with heap := h, toks := t } := ⟨⟨_, _, rfl⟩, k⟩
theorem Gw.of {s s' : Shared} (x : Keeps s s') : Gw s s' := by
  obtain ⟨h, t, rfl, k⟩ := x
  exact ⟨⟨h, t, rfl⟩, k⟩

def Ev (W : Wd) (A : Around) (env : Env) (X : List Addr) (h : Heap) (e : Expr) (d : V) : Prop :=
  ∀ (s : Shared) (Q E : Value → Shared → Prop), Le h s.heap → (∀ v s', Gw s s' → Rd X s'.heap v d → Q v s') → wpAny (model W.prog W.w) A (eval e env) Q E s

def Bt (W : Wd) (A : Around) (env : Env) (h : Heap) (e : Expr) (b : Bool) : Prop :=
  ∀ (s : Shared) (Q : Bool → Shared → Prop) (E : Value → Shared → Prop), Le h s.heap → (∀ s', Gw s s' → Q b s') → wpAny (model W.prog W.w) A (isTrue e env (eval e env)) Q E s

section
variable {W : Wd} {k : Nat} {A : Around} {h₀ : Heap} {L : Addr} {env : Env} {X Y : List Addr} {h : Heap}

theorem Ev.le {h' : Heap} {e : Expr} {d : V} (x : Ev W A env X h e d) (q : Le h h') : Ev W A env X h' e d := fun s Q E l f => x s Q E (q.trans l) f
theorem Ev.sub {e : Expr} {d : V} (x : Ev W A env X h e d) (q : ∀ a ∈ Y, a ∈ X) : Ev W A env Y h e d := fun s Q E l f => x s Q E l fun v s' k r => f v s' k (r.sub q)
theorem Ev.flat {e : Expr} {d : V} (x : Ev W A env Y h e d) (q : d.flat = true) : Ev W A env X h e d := fun s Q E l f => x s Q E l fun v s' k r => f v s' k (r.flat q)
theorem Bt.le {h' : Heap} {e : Expr} {b : Bool} (x : Bt W A env h e b) (q : Le h h') : Bt W A env h' e b := fun s Q E l f => x s Q E (q.trans l) f

theorem ev_var {x : Str} {pos : Pos} {v : Value} {d : V} (c : Cx W k A h₀ L env X h) (hv : Var env h x v) (hr : Rd X h v d) (hd : (x == ("__debug__" : Str)) = false := by decide) : Ev W A env X h (.Name x pos) d := by
  intro s Q E l f
  refine wpAny_Name ?_ hd
  have q := f v s (Gw.refl s) (hr.le l)
  rcases hv.le l with ⟨a, m, b, e⟩ | ⟨a | ⟨a, n⟩, cc, b, e⟩
  · exact wpAny_loadName_local c.ek a b e q
  · exact wpAny_loadName_cell c.ek a b e q
  · exact wpAny_loadName_free c.ek a b e q n
theorem ev_int {i : Int} {n : Nat} {pos : Pos} : Ev W A env X h (.Constant (.int i) n pos) (.int i) := fun s Q E l f => wpAny_Constant_int (f _ _ (Gw.toks s _) (.int _ _))
theorem ev_bool {i : Bool} {n : Nat} {pos : Pos} : Ev W A env X h (.Constant (.bool i) n pos) (.bool i) := fun s Q E l f => Constant_bool (f _ _ (Gw.refl s) (.bool _))
theorem ev_none {n : Nat} {pos : Pos} : Ev W A env X h (.Constant .none n pos) .none := fun s Q E l f => Constant_none (f _ _ (Gw.refl s) .none)
theorem ev_str {i : Str} {n : Nat} {pos : Pos} : Ev W A env X h (.Constant (.str i) n pos) (.str i) := fun s Q E l f => Constant_str (f _ _ (Gw.toks s _) (.str _ _))

/-- two operands and an operation -/
theorem ev_bin {l r : Expr} {op : Operator} {pos : Pos} {a b d : V} (ha : Ev W A env Y h l a) (hb : Ev W A env Y h r b)
    (ho : ∀ (s : Shared) (u v : Value) (Q E : Value → Shared → Prop), Le h s.heap → Rd Y s.heap u a → Rd Y s.heap v b → (∀ v s', Gw s s' → Rd X s'.heap v d → Q v s') → wpAny (model W.prog W.w) A (binaryOp op u v) Q E s) :
    Ev W A env X h (.BinOp l op r pos) d := fun s Q E le f =>
  wpAny_BinOp (ha s _ _ le fun u s₁ k₁ r₁ => hb s₁ _ _ (le.trans k₁.le) fun v s₂ k₂ r₂ => ho s₂ u v _ _ (le.trans (k₁.le.trans k₂.le)) (r₁.le k₂.le) r₂ fun v' s₃ k₃ r₃ => f v' s₃ (k₁.trans (k₂.trans k₃)) r₃)
theorem ev_add {l r : Expr} {pos : Pos} {a b : Int} (ha : Ev W A env [] h l (.int a)) (hb : Ev W A env [] h r (.int b)) : Ev W A env X h (.BinOp l .Add r pos) (.int (a + b)) :=
  ev_bin ha hb fun s u v Q E _ ru rv f => by cases ru; cases rv; exact add_int (f _ _ (Gw.toks s _) (.int _ _))

theorem ev_cmp {l r : Expr} {op : CmpOp} {pos : Pos} {a b d : V} (ha : Ev W A env Y h l a) (hb : Ev W A env Y h r b)
    (ho : ∀ (s : Shared) (u v : Value) (Q E : Value → Shared → Prop), Le h s.heap → Rd Y s.heap u a → Rd Y s.heap v b → (∀ v s', Gw s s' → Rd X s'.heap v d → Q v s') → wpAny (model W.prog W.w) A (compareOp op u v) Q E s)
    (hm : behindInMarks op r = false := by with_unfolding_all rfl) :
    Ev W A env X h (.Compare l [op] [r] pos) d := fun s Q E le f =>
  wpAny_Compare1 (ha s _ _ le fun u s₁ k₁ r₁ => hb s₁ _ _ (le.trans k₁.le) fun v s₂ k₂ r₂ => ho s₂ u v _ _ (le.trans (k₁.le.trans k₂.le)) (r₁.le k₂.le) r₂ fun v' s₃ k₃ r₃ => f v' s₃ (k₁.trans (k₂.trans k₃)) r₃) hm
end
end Mine
namespace Mine
open PySem PySem.Calls PySem.Spec PyProof.Rows

/-- lists of the function's own that may turn: their name, address, items -/
abbrev Mu := List (Str × Addr × List V)
/-- what is known of the other names -/
abbrev Rho := List (Str × V)
def Mu.at (μ : Mu) : List Addr := μ.map (·.2.1)
def Mu.names (μ : Mu) : List Str := μ.map (·.1)

inductive Fl where
  | next
  | brk
  | cont
  | ret (d : V)
def FlIs (X : List Addr) (h : Heap) : Flow → Fl → Prop
  | .next, .next => True
  | .brk, .brk => True
  | .cont, .cont => True
  | .ret v, .ret d => Rd X h v d
  | _, _ => False

/-- the fixed things of a function's body -/
structure Bd where
  W : Wd
  k : Nat
  A : Around
  h₀ : Heap
  env : Env
  X₀ : List Addr
  s₀ : Shared

/-- a body's frame is well laid -/
structure Wf (B : Bd) : Prop where
  ek : B.env.scope.kind = .function
  eg : B.env.globals = mainGlobals
  eb : B.env.builtins = builtinsNs
  apart : B.env.cells.Pairwise fun x y => x.2 ≠ y.2
  cl : ∀ x c, (x, c) ∈ B.env.cells → c ≠ B.env.locals
  xs : ∀ a ∈ B.X₀, ∃ o, B.h₀.get? a = some o

structure Sat (B : Bd) (Kp : Addr → Obj → Prop) (γ : List (Value × V)) (μ : Mu) (ρ : Rho) (s : Shared) : Prop where
  wf : Wf B
  cn : Cn B.W B.k B.A B.h₀ B.env.locals s.heap
  same : ∃ h tk, s = { B.s₀ with heap := h, toks := tk }
  h₀kp : ∀ a o, B.h₀.get? a = some o → Kp a o
  kp : ∀ a o, Kp a o → s.heap.get? a = some o ∧ a ≠ B.env.locals ∧ (∀ x, (x, a) ∉ B.env.cells) ∧ a ∉ μ.at
  cells : ∀ x c, (x, c) ∈ B.env.cells → ∃ v, s.heap.IsCell c v
  gam : ∀ q ∈ γ, Rd (μ.at ++ B.X₀) s.heap q.1 q.2
  vars : ∀ z d, ρ.lookup z = some d → ∃ v, Var B.env s.heap z v ∧ Rd (μ.at ++ B.X₀) s.heap v d
  muts : ∀ q ∈ μ, Var B.env s.heap q.1 (.ref q.2.1) ∧ q.2.1 ∉ B.X₀ ∧ ∃ vs n, s.heap.get? q.2.1 = some (lstO vs n) ∧ RdA (μ.at ++ B.X₀) s.heap vs q.2.2
  nd : μ.at.Nodup

theorem Sat.cx {B : Bd} {Kp γ μ ρ s} (x : Sat B Kp γ μ ρ s) : Cx B.W B.k B.A B.h₀ B.env.locals B.env (μ.at ++ B.X₀) s.heap := by
  refine ⟨x.cn, x.wf.ek, x.wf.eg, x.wf.eb, fun a ha => ?_⟩
  rcases List.mem_append.mp ha with h | h
  · obtain ⟨q, hq, rfl⟩ := List.mem_map.mp h
    obtain ⟨_, _, vs, n, e, _⟩ := x.muts q hq
    exact ⟨_, e⟩
  · obtain ⟨o, e⟩ := x.wf.xs a h
    exact ⟨o, x.cn.keep _ _ e⟩

theorem ns_unique {h : Heap} {a : Addr} {m m' : Str → Option Value} (x : h.Ns a m) (y : h.Ns a m') : m = m' := by
  obtain ⟨o, es, ep, e, hd, _, f⟩ := x
  obtain ⟨o', es', ep', e', hd', _, f'⟩ := y
  rw [e] at e'; cases e'
  rw [hd] at hd'; cases hd'
  funext z
  rw [← f, ← f']
theorem ns_notSq {h : Heap} {a : Addr} {m : Str → Option Value} (x : h.Ns a m) : ∀ o, h.get? a = some o → ¬ IsSq o := by
  obtain ⟨o, es, ep, e, hd, _⟩ := x
  rintro o' e' ⟨its, n, hd'⟩
  rw [e] at e'; cases e'
  rw [hd] at hd'; cases hd'
theorem cell_notSq {h : Heap} {a : Addr} {v : Option Value} (x : h.IsCell a v) : ∀ o, h.get? a = some o → ¬ IsSq o := by
  obtain ⟨o, e, hd⟩ := x
  rintro o' e' ⟨its, n, hd'⟩
  rw [e] at e'; cases e'
  rw [hd] at hd'; cases hd'

/-- an object apart from all that is known turns, others may come -/
theorem Sat.ext {B : Bd} {Kp γ μ ρ s} {h' : Heap} {tk : Nat} {a : Addr} (x : Sat B Kp γ μ ρ s) (hk : ∀ b o, b ≠ a → s.heap.get? b = some o → h'.get? b = some o) (ha : a ≠ B.env.locals) (hc : ∀ y, (y, a) ∉ B.env.cells)
    (hK : ∀ o, ¬ Kp a o) (hs : ∀ o, s.heap.get? a = some o → ¬ IsSq o) : Sat B Kp γ μ ρ { s with heap := h', toks := tk } := by
  have sq : ∀ b o, s.heap.get? b = some o → IsSq o → h'.get? b = some o := fun b o e q => hk b o (fun z => hs o (z ▸ e) q) e
  have mv : ∀ {X v d}, Rd X s.heap v d → Rd X h' v d := fun r => r.move fun b o e q hx => ⟨sq b o e q, hx⟩
  have mvA : ∀ {X v d}, RdA X s.heap v d → RdA X h' v d := fun r => r.move fun b o e q hx => ⟨sq b o e q, hx⟩
  have vr : ∀ {y v}, Var B.env s.heap y v → Var B.env h' y v := by
    rintro y v (⟨p, m, q, r⟩ | ⟨p, c, q, r⟩)
    · exact .inl ⟨p, m, q.at' fun o e => hk _ o (Ne.symm ha) e, r⟩
    · obtain ⟨o, e, hd⟩ := r
      exact .inr ⟨p, c, q, o, hk c o (fun z => hc y (z ▸ mem_of_lookup q)) e, hd⟩
  refine ⟨x.wf, ⟨x.cn.gr, x.cn.bel, x.cn.above, x.cn.hand, x.cn.room, x.cn.units, fun b o e => ?_, ?_⟩, ?_, x.h₀kp, fun b o e => ?_, fun y c hm => ?_, fun q hq => mv (x.gam q hq), fun z d hz => ?_, fun q hq => ?_, x.nd⟩
  · exact hk b o (fun z => hK o (z ▸ x.h₀kp b o e)) (x.cn.keep b o e)
  · obtain ⟨m, hm⟩ := x.cn.ns
    exact ⟨m, hm.at' fun o e => hk _ o (Ne.symm ha) e⟩
  · obtain ⟨h, t, e⟩ := x.same
    exact ⟨h', tk, by rw [e]⟩
  · have k := x.kp b o e
    exact ⟨hk b o (fun z => hK o (z ▸ e)) k.1, k.2⟩
  · obtain ⟨v, o, e, hd⟩ := x.cells y c hm
    exact ⟨v, o, hk c o (fun z => hc y (z ▸ hm)) e, hd⟩
  · obtain ⟨v, h1, h2⟩ := x.vars z d hz
    exact ⟨v, vr h1, mv h2⟩
  · obtain ⟨h1, h2, vs, n, h3, h4⟩ := x.muts q hq
    exact ⟨vr h1, h2, vs, n, sq _ _ h3 ⟨_, _, rfl⟩, mvA h4⟩

theorem Sat.le {B : Bd} {Kp γ μ ρ s} {h' : Heap} {tk : Nat} (x : Sat B Kp γ μ ρ s) (hk : Le s.heap h') : Sat B Kp γ μ ρ { s with heap := h', toks := tk } := by
  refine Sat.ext (a := s.heap.objs.size) x (fun b o _ e => hk b o e) ?_ ?_ ?_ ?_
  · obtain ⟨m, hm⟩ := x.cn.ns
    exact Nat.ne_of_gt hm.lt
  · intro y hm
    obtain ⟨v, hv⟩ := x.cells y _ hm
    exact Nat.lt_irrefl _ hv.lt
  · intro o e
    exact Nat.lt_irrefl _ (Heap.lt_size (x.kp _ _ e).1)
  · intro o e
    exact absurd (Heap.lt_size e) (Nat.lt_irrefl _)
theorem Sat.gw {B : Bd} {Kp γ μ ρ s s'} (x : Sat B Kp γ μ ρ s) (g : Gw s s') : Sat B Kp γ μ ρ s' := by
  obtain ⟨⟨h, t, rfl⟩, k⟩ := g
  exact x.le k

/-- a value in flight -/
theorem Sat.fly {B : Bd} {Kp γ μ ρ s} {v : Value} {d : V} (x : Sat B Kp γ μ ρ s) (r : Rd (μ.at ++ B.X₀) s.heap v d) : Sat B Kp ((v, d) :: γ) μ ρ s :=
  ⟨x.wf, x.cn, x.same, x.h₀kp, x.kp, x.cells, fun q hq => by
    rcases List.mem_cons.mp hq with rfl | hq
    · exact r
    · exact x.gam q hq, x.vars, x.muts, x.nd⟩
theorem Sat.land {B : Bd} {Kp γ γ' μ ρ s} (x : Sat B Kp γ μ ρ s) (hs : ∀ q ∈ γ', q ∈ γ) : Sat B Kp γ' μ ρ s :=
  ⟨x.wf, x.cn, x.same, x.h₀kp, x.kp, x.cells, fun q hq => x.gam q (hs q hq), x.vars, x.muts, x.nd⟩
/-- more is kept -/
theorem Sat.more {B : Bd} {Kp Kp' γ μ ρ s} (x : Sat B Kp γ μ ρ s) (h : ∀ a o, B.h₀.get? a = some o → Kp' a o) (hs : ∀ a o, Kp' a o → s.heap.get? a = some o ∧ a ≠ B.env.locals ∧ (∀ x, (x, a) ∉ B.env.cells) ∧ a ∉ μ.at) : Sat B Kp' γ μ ρ s :=
  ⟨x.wf, x.cn, x.same, h, hs, x.cells, x.gam, x.vars, x.muts, x.nd⟩
theorem Sat.less {B : Bd} {Kp Kp' γ μ ρ s} (x : Sat B Kp γ μ ρ s) (h : ∀ a o, B.h₀.get? a = some o → Kp' a o) (hs : ∀ a o, Kp' a o → Kp a o) : Sat B Kp' γ μ ρ s :=
  ⟨x.wf, x.cn, x.same, h, fun a o e => x.kp a o (hs a o e), x.cells, x.gam, x.vars, x.muts, x.nd⟩
theorem Sat.forget {B : Bd} {Kp γ μ ρ ρ' s} (x : Sat B Kp γ μ ρ s) (hs : ∀ z d, ρ'.lookup z = some d → ρ.lookup z = some d) : Sat B Kp γ μ ρ' s :=
  ⟨x.wf, x.cn, x.same, x.h₀kp, x.kp, x.cells, x.gam, fun z d hz => x.vars z d (hs z d hz), x.muts, x.nd⟩

/-- a store into a name -/
structure Stored (env : Env) (x : Str) (v : Value) (h h' : Heap) (a : Addr) : Prop where
  but : Heap.SameBut a h h'
  slot : a = env.locals ∨ ∃ y, (y, a) ∈ env.cells
  sq : ∀ o, h.get? a = some o → ¬ IsSq o
  here : Var env h' x v
  others : ∀ y u, y ≠ x → Var env h y u → Var env h' y u
  ns : ∃ m, h'.Ns env.locals m
  cells : ∀ y c, (y, c) ∈ env.cells → ∃ u, h'.IsCell c u

theorem store_any {M : Model} {A : Around} {env : Env} {s : Shared} {x : Str} {v : Value} {Q : Unit → Shared → Prop} {E : Value → Shared → Prop} (ek : env.scope.kind = .function) (ap : env.cells.Pairwise fun x y => x.2 ≠ y.2) (cl : ∀ x c, (x, c) ∈ env.cells → c ≠ env.locals)
    (hn : ∃ m, s.heap.Ns env.locals m) (hc : ∀ y c, (y, c) ∈ env.cells → ∃ u, s.heap.IsCell c u) (hx : env.kindOf x = some .local ∨ (env.kindOf x = some .cell ∧ (env.cells.lookup x).isSome = true))
    (h : ∀ h' tk a, Stored env x v s.heap h' a → Q () { s with heap := h', toks := tk }) : wpAny M A (storeName env x v) Q E s := by
  obtain ⟨m, hm⟩ := hn
  rcases hx with hl | ⟨hl, hcx⟩
  · refine wpAny_storeName_local hl hm (fun h' hn' hs' => h h' _ env.locals ⟨hs', .inl rfl, ns_notSq hm, .inl ⟨hl, _, hn', by simp⟩, ?_, ⟨_, hn'⟩, ?_⟩) (by rw [ek]; rfl)
    · rintro y u hy (⟨p, m', q, r⟩ | ⟨p, c, q, r⟩)
      · refine .inl ⟨p, _, hn', ?_⟩
        rw [ns_unique q hm] at r
        simp [hy, r]
      · exact .inr ⟨p, c, q, r.sameBut hs' (cl y c (mem_of_lookup q))⟩
    · intro y c hm'
      obtain ⟨u, hu⟩ := hc y c hm'
      exact ⟨u, hu.sameBut hs' (cl y c hm')⟩
  · obtain ⟨c, hcl⟩ := Option.isSome_iff_exists.mp hcx
    have hcm := mem_of_lookup hcl
    obtain ⟨v₀, hv₀⟩ := hc x c hcm
    refine wpAny_storeName_cell ek hl hcl hv₀ fun h' hc' hs' => h h' _ c ⟨hs', .inr ⟨x, hcm⟩, cell_notSq hv₀, .inr ⟨.inl hl, c, hcl, hc'⟩, ?_, ⟨m, hm.sameBut hs' (Ne.symm (cl x c hcm))⟩, ?_⟩
    · rintro y u hy (⟨p, m', q, r⟩ | ⟨p, c', q, r⟩)
      · exact .inl ⟨p, m', q.sameBut hs' (Ne.symm (cl x c hcm)), r⟩
      · refine .inr ⟨p, c', q, r.sameBut hs' fun z => hy (name_of_addr ap (mem_of_lookup q) (z ▸ hcm))⟩
    · intro y c' hm'
      by_cases e : c' = c
      · subst e; exact ⟨_, hc'⟩
      · obtain ⟨u, hu⟩ := hc y c' hm'
        exact ⟨u, hu.sameBut hs' e⟩

/-- what is known of the names when x is stored -/
theorem lookup_put {ρ : Rho} {x z : Str} {d e : V} (h : ((x, d) :: ρ).lookup z = some e) : (z = x ∧ e = d) ∨ (z ≠ x ∧ ρ.lookup z = some e) := by
  rw [List.lookup_cons] at h
  cases q : z == x with
  | true => rw [q] at h; cases h; exact .inl ⟨beq_iff_eq.mp q, rfl⟩
  | false => rw [q] at h; exact .inr ⟨fun z' => by rw [z'] at q; simp at q, h⟩

theorem Sat.stored {B : Bd} {Kp γ μ ρ s} {x : Str} {v : Value} {d : V} {h' : Heap} {tk : Nat} {a : Addr} (y : Sat B Kp γ μ ρ s) (st : Stored B.env x v s.heap h' a) (r : Rd (μ.at ++ B.X₀) s.heap v d) (hn : x ∉ μ.names) :
    Sat B Kp γ μ ((x, d) :: ρ) { s with heap := h', toks := tk } := by
  have sq : ∀ b o, s.heap.get? b = some o → IsSq o → h'.get? b = some o := fun b o e q => (st.but.2 b fun z => st.sq o (z ▸ e) q).trans e
  have mv : ∀ {v d}, Rd (μ.at ++ B.X₀) s.heap v d → Rd (μ.at ++ B.X₀) h' v d := fun r => r.move fun b o e q hx => ⟨sq b o e q, hx⟩
  have mvA : ∀ {v d}, RdA (μ.at ++ B.X₀) s.heap v d → RdA (μ.at ++ B.X₀) h' v d := fun r => r.move fun b o e q hx => ⟨sq b o e q, hx⟩
  have kpa : ∀ b o, Kp b o → b ≠ a := fun b o e z => by
    have k := y.kp b o e
    rcases st.slot with q | ⟨w, q⟩
    · exact k.2.1 (z.trans q)
    · exact k.2.2.1 w (z ▸ q)
  refine ⟨y.wf, ⟨y.cn.gr, y.cn.bel, y.cn.above, y.cn.hand, y.cn.room, y.cn.units, fun b o e => ?_, st.ns⟩, ?_, y.h₀kp, fun b o e => ?_, st.cells, fun q hq => mv (y.gam q hq), fun z e hz => ?_, fun q hq => ?_, y.nd⟩
  · exact (st.but.2 b (kpa b o (y.h₀kp b o e))).trans (y.cn.keep b o e)
  · obtain ⟨h, t, e⟩ := y.same
    exact ⟨h', tk, by rw [e]⟩
  · have k := y.kp b o e
    exact ⟨(st.but.2 b (kpa b o e)).trans k.1, k.2.1, k.2.2.1, k.2.2.2⟩
  · rcases lookup_put hz with ⟨rfl, rfl⟩ | ⟨h1, h2⟩
    · exact ⟨v, st.here, mv r⟩
    · obtain ⟨u, h3, h4⟩ := y.vars z e h2
      exact ⟨u, st.others _ _ h1 h3, mv h4⟩
  · obtain ⟨h3, h4, vs, n, h5, h6⟩ := y.muts q hq
    exact ⟨st.others _ _ (fun z => hn (List.mem_map.mpr ⟨q, hq, z⟩)) h3, h4, vs, n, sq _ _ h5 ⟨_, _, rfl⟩, mvA h6⟩

def Mu.off (μ : Mu) (x : Str) : Mu := μ.filter fun q => decide (q.1 ≠ x)
theorem Mu.mem_off {μ : Mu} {x : Str} {q : Str × Addr × List V} (h : q ∈ μ.off x) : q ∈ μ ∧ q.1 ≠ x := by
  obtain ⟨h1, h2⟩ := List.mem_filter.mp h
  exact ⟨h1, by simpa using h2⟩
theorem Mu.off_sub {μ : Mu} {x : Str} : ∀ a ∈ (μ.off x).at, a ∈ μ.at := fun a ha => by
  obtain ⟨q, hq, rfl⟩ := List.mem_map.mp ha
  exact List.mem_map.mpr ⟨q, (Mu.mem_off hq).1, rfl⟩
theorem Mu.off_nd {μ : Mu} {x : Str} (h : μ.at.Nodup) : (μ.off x).at.Nodup := by
  unfold Mu.at Mu.off at *
  exact List.Nodup.sublist (List.Sublist.map _ List.filter_sublist) h
theorem Mu.off_none {μ : Mu} {x : Str} (h : x ∉ μ.names) : μ.off x = μ := List.filter_eq_self.mpr fun q hq => by
  simp only [decide_eq_true_eq]
  exact fun z => h (List.mem_map.mpr ⟨q, hq, z⟩)

/-- a store of a list that is new: it may turn -/
theorem Sat.storedM {B : Bd} {Kp γ μ ρ s} {x : Str} {l : Addr} {vs : List Value} {n : Nat} {ds : List V} {h' : Heap} {tk : Nat} {a : Addr} (y : Sat B Kp γ μ ρ s) (st : Stored B.env x (.ref l) s.heap h' a) (r : RdA (μ.at ++ B.X₀) s.heap vs ds) (e : s.heap.get? l = some (lstO vs n))
    (hl0 : ∀ o, ¬ Kp l o) (hlx : l ∉ B.X₀) (hlm : l ∉ μ.at) (hγ : ∀ q ∈ γ, Rd (l :: (μ.at ++ B.X₀)) s.heap q.1 q.2) (hρx : ρ.lookup x = none) (hρ : ∀ z d, ρ.lookup z = some d → ∃ v, Var B.env s.heap z v ∧ Rd (l :: (μ.at ++ B.X₀)) s.heap v d) (hr : RdA (l :: (μ.at ++ B.X₀)) s.heap vs ds)
    (hμ : ∀ q ∈ μ, q.1 ≠ x → ∃ vs n, s.heap.get? q.2.1 = some (lstO vs n) ∧ RdA (l :: (μ.at ++ B.X₀)) s.heap vs q.2.2) :
    Sat B Kp γ ((x, l, ds) :: μ.off x) ρ { s with heap := h', toks := tk } := by
  have sq : ∀ b o, s.heap.get? b = some o → IsSq o → h'.get? b = some o := fun b o e q => (st.but.2 b fun z => st.sq o (z ▸ e) q).trans e
  have sb : ∀ a ∈ Mu.at ((x, l, ds) :: μ.off x) ++ B.X₀, a ∈ l :: (μ.at ++ B.X₀) := fun a ha => by
    rcases List.mem_append.mp ha with q | q
    · rcases List.mem_cons.mp q with q | q
      · exact q ▸ .head _
      · exact .tail _ (List.mem_append.mpr (.inl (Mu.off_sub a q)))
    · exact .tail _ (List.mem_append.mpr (.inr q))
  have mv : ∀ {v d}, Rd (l :: (μ.at ++ B.X₀)) s.heap v d → Rd (Mu.at ((x, l, ds) :: μ.off x) ++ B.X₀) h' v d := fun r => r.move fun b o e q hx => ⟨sq b o e q, fun z => hx (sb _ z)⟩
  have mvA : ∀ {v d}, RdA (l :: (μ.at ++ B.X₀)) s.heap v d → RdA (Mu.at ((x, l, ds) :: μ.off x) ++ B.X₀) h' v d := fun r => r.move fun b o e q hx => ⟨sq b o e q, fun z => hx (sb _ z)⟩
  have kpa : ∀ b o, Kp b o → b ≠ a := fun b o e z => by
    have k := y.kp b o e
    rcases st.slot with q | ⟨w, q⟩
    · exact k.2.1 (z.trans q)
    · exact k.2.2.1 w (z ▸ q)
  refine ⟨y.wf, ⟨y.cn.gr, y.cn.bel, y.cn.above, y.cn.hand, y.cn.room, y.cn.units, fun b o e => ?_, st.ns⟩, ?_, y.h₀kp, fun b o e => ?_, st.cells, fun q hq => mv (hγ q hq), fun z d hz => ?_, fun q hq => ?_, ?_⟩
  · exact (st.but.2 b (kpa b o (y.h₀kp b o e))).trans (y.cn.keep b o e)
  · obtain ⟨h, t, e⟩ := y.same
    exact ⟨h', tk, by rw [e]⟩
  · have k := y.kp b o e
    refine ⟨(st.but.2 b (kpa b o e)).trans k.1, k.2.1, k.2.2.1, fun z => ?_⟩
    rcases List.mem_cons.mp z with z | z
    · have z' : b = l := z
      exact hl0 o (z' ▸ e)
    · exact k.2.2.2 (Mu.off_sub _ z)
  · obtain ⟨u, h3, h4⟩ := hρ z d hz
    exact ⟨u, st.others _ _ (fun q => by rw [q, hρx] at hz; cases hz) h3, mv h4⟩
  · rcases List.mem_cons.mp hq with rfl | hq
    · exact ⟨st.here, hlx, vs, n, sq _ _ e ⟨_, _, rfl⟩, mvA hr⟩
    · obtain ⟨h1, h2⟩ := Mu.mem_off hq
      obtain ⟨h3, h4, _⟩ := y.muts q h1
      obtain ⟨vs', n', h5, h6⟩ := hμ q h1 h2
      exact ⟨st.others _ _ h2 h3, h4, vs', n', sq _ _ h5 ⟨_, _, rfl⟩, mvA h6⟩
  · exact List.nodup_cons.mpr ⟨fun z => hlm (Mu.off_sub _ z), Mu.off_nd y.nd⟩
end Mine
namespace Mine
open PySem PySem.Calls PySem.Spec PyProof.Rows

/-- what a run of statements ends in -/
def Out (B : Bd) (Kp : Addr → Obj → Prop) (γ : List (Value × V)) (Post : Fl → Mu → Rho → Prop) (fl : Flow) (s' : Shared) : Prop :=
  ∃ fd μ' ρ', FlIs B.X₀ s'.heap fl fd ∧ Sat B Kp γ μ' ρ' s' ∧ Post fd μ' ρ'

def Tri (B : Bd) (μ : Mu) (ρ : Rho) (body : List Stmt) (Post : Fl → Mu → Rho → Prop) : Prop :=
  ∀ Kp γ s E, Sat B Kp γ μ ρ s → wpAny (model B.W.prog B.W.w) B.A (execs body B.env) (Out B Kp γ Post) E s
def Tr1 (B : Bd) (μ : Mu) (ρ : Rho) (st : Stmt) (Post : Fl → Mu → Rho → Prop) : Prop :=
  ∀ Kp γ s E, Sat B Kp γ μ ρ s → wpAny (model B.W.prog B.W.w) B.A (exec st B.env) (Out B Kp γ Post) E s

/-- an expression's value where the names are so known -/
def Es (B : Bd) (μ : Mu) (ρ : Rho) (X : List Addr) (e : Expr) (d : V) : Prop := ∀ Kp γ s, Sat B Kp γ μ ρ s → Ev B.W B.A B.env X s.heap e d
def Bs (B : Bd) (μ : Mu) (ρ : Rho) (e : Expr) (b : Bool) : Prop := ∀ Kp γ s, Sat B Kp γ μ ρ s → Bt B.W B.A B.env s.heap e b
/-- the value is a list that is new -/
def EvF (W : Wd) (A : Around) (env : Env) (X : List Addr) (h : Heap) (e : Expr) (ds : List V) : Prop :=
  ∀ (s : Shared) (Q E : Value → Shared → Prop), Le h s.heap → (∀ a vs n s', Gw s s' → s.heap.get? a = none → s'.heap.get? a = some (lstO vs n) → a ∉ X → RdA X s'.heap vs ds → RdA (a :: X) s'.heap vs ds → Q (.ref a) s') → wpAny (model W.prog W.w) A (eval e env) Q E s
def Ef (B : Bd) (μ : Mu) (ρ : Rho) (X : List Addr) (e : Expr) (ds : List V) : Prop := ∀ Kp γ s, Sat B Kp γ μ ρ s → EvF B.W B.A B.env X s.heap e ds
theorem EvF.ev {W A env X h e ds} (x : EvF W A env X h e ds) : Ev W A env X h e (.lst ds) := fun s Q E l f => x s Q E l fun a vs n s' g e1 e2 e3 r _ => f _ s' g (.lst e2 e3 r)
theorem Ef.es {B μ ρ X e ds} (x : Ef B μ ρ X e ds) : Es B μ ρ X e (.lst ds) := fun Kp γ s y => (x Kp γ s y).ev

section
variable {B : Bd} {μ : Mu} {ρ : Rho} {Post Post' : Fl → Mu → Rho → Prop}

theorem Tri.mono {body : List Stmt} (x : Tri B μ ρ body Post) (h : ∀ f m r, Post f m r → Post' f m r) : Tri B μ ρ body Post' := fun Kp γ s E y => wpAny_mono (x Kp γ s E y) (fun _ _ ⟨fd, m, r, a, b, c⟩ => ⟨fd, m, r, a, b, h _ _ _ c⟩) fun _ _ e => e
theorem Tr1.mono {st : Stmt} (x : Tr1 B μ ρ st Post) (h : ∀ f m r, Post f m r → Post' f m r) : Tr1 B μ ρ st Post' := fun Kp γ s E y => wpAny_mono (x Kp γ s E y) (fun _ _ ⟨fd, m, r, a, b, c⟩ => ⟨fd, m, r, a, b, h _ _ _ c⟩) fun _ _ e => e

theorem tri_nil (h : Post .next μ ρ) : Tri B μ ρ [] Post := fun Kp γ s E y => wpAny_execs_nil ⟨.next, μ, ρ, trivial, y, h⟩
theorem tri_cons {st : Stmt} {rest : List Stmt} (h : Tr1 B μ ρ st (fun f m r => match f with | .next => Tri B m r rest Post | f => Post f m r)) : Tri B μ ρ (st :: rest) Post := fun Kp γ s E y => by
  refine wpAny_execs_cons (wpAny_mono (h Kp γ s E y) (fun fl s' o => ?_) fun _ _ e => e)
  obtain ⟨fd, m, r, a, b, c⟩ := o
  cases fl <;> cases fd <;> first | exact a.elim | exact c Kp γ s' E b | exact ⟨_, m, r, a, b, c⟩

theorem tri_if {test : Expr} {body orelse : List Stmt} {pos : Pos} {b : Bool} (hb : Bs B μ ρ test b) (h : if b then Tri B μ ρ body Post else Tri B μ ρ orelse Post) : Tr1 B μ ρ (.If test body orelse pos) Post := fun Kp γ s E y => by
  refine wpAny_If (hb Kp γ s y s _ _ (Le.refl _) fun s' g => ?_)
  cases b with
  | true => exact h Kp γ s' E (y.gw g)
  | false => exact h Kp γ s' E (y.gw g)

theorem tri_ret {e : Expr} {pos : Pos} {d : V} (he : Es B μ ρ B.X₀ e d) (h : Post (.ret d) μ ρ) : Tr1 B μ ρ (.Return (some e) pos) Post := fun Kp γ s E y =>
  wpAny_Return_some (he Kp γ s y s _ _ (Le.refl _) fun v s' g r => ⟨.ret d, μ, ρ, r, y.gw g, h⟩)

theorem notin {l : List Str} {x : Str} (h : l.contains x = false) : x ∉ l := fun m => by
  rw [List.contains_iff_mem.mpr m] at h; cases h
theorem store_sat {Kp γ s} {x : Str} {v : Value} {Q : Unit → Shared → Prop} {E : Value → Shared → Prop} (y : Sat B Kp γ μ ρ s) (hx : B.env.kindOf x = some .local ∨ (B.env.kindOf x = some .cell ∧ (B.env.cells.lookup x).isSome = true))
    (h : ∀ h' tk a, Stored B.env x v s.heap h' a → Q () { s with heap := h', toks := tk }) : wpAny (model B.W.prog B.W.w) B.A (storeName B.env x v) Q E s :=
  store_any y.wf.ek y.wf.apart y.wf.cl y.cn.ns y.cells hx h

theorem tri_assign {x : Str} {p pos : Pos} {e : Expr} {d : V} (hx : B.env.kindOf x = some .local ∨ (B.env.kindOf x = some .cell ∧ (B.env.cells.lookup x).isSome = true)) (he : Es B μ ρ (μ.at ++ B.X₀) e d)
    (h : Post .next μ ((x, d) :: ρ)) (hn : μ.names.contains x = false := by rfl) (hs : swapsWith e (some (.Name x p)) pos.line B.env = pure false := by rfl) : Tr1 B μ ρ (.Assign [.Name x p] e pos) Post := fun Kp γ s E y =>
  wpAny_Assign_Name (he Kp γ s y s _ _ (Le.refl _) fun v s' g r => store_sat (y.gw g) hx fun h' tk a st => ⟨.next, _, _, trivial, (y.gw g).stored st r (notin hn), h⟩) hs

/-- a new list that may turn -/
theorem tri_assignN {x : Str} {p pos : Pos} {e : Expr} {ds : List V} (hx : B.env.kindOf x = some .local ∨ (B.env.kindOf x = some .cell ∧ (B.env.cells.lookup x).isSome = true)) (he : Ef B μ ρ (μ.at ++ B.X₀) e ds)
    (h : ∀ l, Post .next ((x, l, ds) :: μ.off x) ρ) (hρx : ρ.lookup x = none := by rfl) (hs : swapsWith e (some (.Name x p)) pos.line B.env = pure false := by rfl) : Tr1 B μ ρ (.Assign [.Name x p] e pos) Post := fun Kp γ s E y =>
  wpAny_Assign_Name (he Kp γ s y s _ _ (Le.refl _) fun l vs n s' g e0 e1 hl r r' => store_sat (y.gw g) hx fun h' tk a st => by
    have old : ∀ {b o}, s.heap.get? b = some o → b ≠ l := fun {b o} e z => by rw [z, e0] at e; cases e
    have mv : ∀ {v d}, Rd (μ.at ++ B.X₀) s.heap v d → Rd (l :: (μ.at ++ B.X₀)) s'.heap v d := fun r => r.move fun b o e _ hx => ⟨g.le b o e, fun z => (List.mem_cons.mp z).elim (old e) hx⟩
    have mvA : ∀ {v d}, RdA (μ.at ++ B.X₀) s.heap v d → RdA (l :: (μ.at ++ B.X₀)) s'.heap v d := fun r => r.move fun b o e _ hx => ⟨g.le b o e, fun z => (List.mem_cons.mp z).elim (old e) hx⟩
    refine ⟨.next, _, _, trivial, (y.gw g).storedM st r e1 ?_ ?_ ?_ ?_ hρx ?_ r' ?_, h l⟩
    · intro o ko
      exact old (y.kp l o ko).1 rfl
    · exact fun z => hl (List.mem_append.mpr (.inr z))
    · exact fun z => hl (List.mem_append.mpr (.inl z))
    · exact fun q hq => mv (y.gam q hq)
    · intro z d hz
      obtain ⟨v, h1, h2⟩ := y.vars z d hz
      exact ⟨v, h1.le g.le, mv h2⟩
    · intro q hq hne
      obtain ⟨_, _, vs', n', h5, h6⟩ := y.muts q hq
      exact ⟨vs', n', g.le _ _ h5, mvA h6⟩) hs

theorem tri_assignM {x : Str} {p pos : Pos} {e : Expr} {ds : List V} (hx : B.env.kindOf x = some .local ∨ (B.env.kindOf x = some .cell ∧ (B.env.cells.lookup x).isSome = true)) (he : Ef B μ ρ (μ.at ++ B.X₀) e ds)
    (h : ∀ l, Post .next ((x, l, ds) :: μ) ρ) (hρx : ρ.lookup x = none := by rfl) (hn : μ.names.contains x = false := by rfl) (hs : swapsWith e (some (.Name x p)) pos.line B.env = pure false := by rfl) : Tr1 B μ ρ (.Assign [.Name x p] e pos) Post :=
  tri_assignN hx he (fun l => by rw [Mu.off_none (notin hn)]; exact h l) hρx hs

/-- the rule of a for, whatever it goes over -/
theorem for_walk {Kp γ s} {x : Str} {px : Pos} {body : List Stmt} {I : Addr} {fp : List Addr} {n : Nat} {P : Nat → Value → Prop} {St : Nat → Heap → Prop} {it : Nat → V} (Inv : Nat → Mu → Rho → Prop) {R : Result → Shared → Prop}
    (y : Sat B Kp γ μ ρ s) (Wk : Walks B.W.prog B.W.w B.A I fp [I] n P St) (hst : St 0 s.heap) (hx : B.env.kindOf x = some .local ∨ (B.env.kindOf x = some .cell ∧ (B.env.cells.lookup x).isSome = true))
    (hI : I ≠ B.env.locals) (hIc : ∀ z, (z, I) ∉ B.env.cells) (hIK : ∀ o, ¬ Kp I o) (hIs : ∀ i h, St i h → ∃ o, h.get? I = some o ∧ ¬ IsSq o) (hfp : ∀ b ∈ fp, b = I ∨ ∃ o, Kp b o) (hIm : I ∉ μ.at)
    (hP : ∀ i v μ' ρ' s', i < n → P i v → Sat B Kp γ μ' ρ' s' → Rd (μ'.at ++ B.X₀) s'.heap v (it i)) (h0 : Inv 0 μ ρ) (hxm : ∀ i μ' ρ', Inv i μ' ρ' → μ'.names.contains x = false)
    (turn : ∀ i μ' ρ', i < n → Inv i μ' ρ' → Tri B μ' ((x, it i) :: ρ') body fun f m r => match f with
      | .next => Inv (i + 1) m r
      | .cont => Inv (i + 1) m r
      | .brk => Post .next m r
      | .ret d => Post (.ret d) m r)
    (done : ∀ m r, Inv n m r → Post .next m r) (hR : ∀ fl s', Out B Kp γ Post fl s' → R (.ok fl) s') :
    codeAny (model B.W.prog B.W.w) B.A (.forLoop (.Name x px) (.ref I) body [] B.env) R s := by
  refine codeAny_forLoop (fun k s' => ∃ i μ' ρ', i ≤ n ∧ k = n + 1 - i ∧ St i s'.heap ∧ Sat B Kp γ μ' ρ' s' ∧ I ∉ μ'.at ∧ Inv i μ' ρ') ?_ (n + 1) ⟨0, μ, ρ, Nat.zero_le _, rfl, hst, y, hIm, h0⟩
  rintro k s' ⟨i, μ', ρ', hi, rfl, st, y', hm, hinv⟩
  obtain ⟨oI, hoI, hnI⟩ := hIs _ _ st
  have nsq : ∀ o, s'.heap.get? I = some o → ¬ IsSq o := fun o e => by rw [hoI] at e; cases e; exact hnI
  by_cases hlt : i < n
  · refine Wk.item i _ _ _ hlt st fun v h₁ tk₁ hPv st₁ hk₁ => ?_
    have y₁ : Sat B Kp γ μ' ρ' { s' with heap := h₁, toks := tk₁ } := y'.ext (a := I) (fun b o hb e => hk₁ b o (by simpa using hb) e) hI hIc hIK nsq
    have rd := hP i v μ' ρ' _ hlt hPv y₁
    refine wpAny_assign_Name (store_sat y₁ hx fun h₂ tk₂ a sd => ?_)
    have y₂ := y₁.stored (tk := tk₂) sd rd (notin (hxm _ _ _ hinv))
    have aI : I ≠ a := by
      rintro rfl
      rcases sd.slot with q | ⟨z, q⟩
      · exact hI q
      · exact hIc z q
    have st₂ : St (i + 1) h₂ := Wk.frame _ _ _ st₁ fun b hb o e => by
      rcases hfp b hb with rfl | ⟨o', ho'⟩
      · exact (sd.but.2 _ aI).trans e
      · have k1 := (y₁.kp b o' ho').1
        have k2 := (y₂.kp b o' ho').1
        have e' : ({ s' with heap := h₁, toks := tk₁ } : Shared).heap.get? b = some o := e
        rw [k1] at e'; cases e'; exact k2
    obtain ⟨oJ, hoJ, hnJ⟩ := hIs _ _ st₂
    have y₃ : Sat B (fun a o => Kp a o ∨ (a = I ∧ o = oJ)) γ μ' ((x, it i) :: ρ') { s' with heap := h₂, toks := tk₂ } := y₂.more (fun a o e => .inl (y₂.h₀kp a o e)) (by
      rintro a o (e | ⟨rfl, rfl⟩)
      · exact y₂.kp a o e
      · exact ⟨hoJ, hI, hIc, hm⟩)
    refine wpAny_mono (turn i μ' ρ' hlt hinv _ γ _ _ y₃) (fun fl s₃ o => ?_) fun _ _ e => e
    obtain ⟨fd, m, r, fi, y₄, po⟩ := o
    have hIm4 : I ∉ m.at := (y₄.kp I oJ (.inr ⟨rfl, rfl⟩)).2.2.2
    have y₅ : Sat B Kp γ m r s₃ := y₄.less y.h₀kp fun a o e => .inl e
    have st₃ : St (i + 1) s₃.heap := Wk.frame _ _ _ st₂ fun b hb o e => by
      rcases hfp b hb with rfl | ⟨o', ho'⟩
      · rw [hoJ] at e; cases e
        exact (y₄.kp _ _ (.inr ⟨rfl, rfl⟩)).1
      · have k1 := (y₂.kp b o' ho').1
        have e' : ({ s' with heap := h₂, toks := tk₂ } : Shared).heap.get? b = some o := e
        rw [k1] at e'; cases e'; exact (y₄.kp _ _ (.inl ho')).1
    cases fl <;> cases fd <;> first
      | exact fi.elim
      | exact ⟨n + 1 - (i + 1), by omega, i + 1, m, r, hlt, rfl, st₃, y₅, hIm4, po⟩
      | exact hR _ _ ⟨.next, m, r, trivial, y₅, po⟩
      | exact hR _ _ ⟨_, m, r, fi, y₅, po⟩
  · obtain rfl : i = n := by omega
    refine Wk.done _ _ _ st fun h₁ tk₁ hk₁ => wpAny_execs_nil ?_
    exact hR _ _ ⟨.next, μ', ρ', trivial, y'.ext (a := I) (fun b o hb e => hk₁ b o (by simpa using hb) e) hI hIc hIK nsq, done _ _ hinv⟩
end
end Mine
namespace Mine
open PySem PySem.Calls PySem.Spec PyProof.Rows

/-- an expression whose value is known to the sign (a def, a built-in) -/
def EvV (W : Wd) (A : Around) (env : Env) (h : Heap) (e : Expr) (v : Value) : Prop :=
  ∀ (s : Shared) (Q E : Value → Shared → Prop), Le h s.heap → (∀ s', Gw s s' → Q v s') → wpAny (model W.prog W.w) A (eval e env) Q E s
section
variable {W : Wd} {k : Nat} {A : Around} {h₀ : Heap} {L : Addr} {env : Env} {X Y : List Addr} {h : Heap}
theorem evv_glob {x : Str} {pos : Pos} {v : Value} (c : Cx W k A h₀ L env X h) (hv : W.mg x = some v) (hx : env.kindOf x = some .globalImplicit := by rfl) (hd : (x == ("__debug__" : Str)) = false := by decide) : EvV W A env h (.Name x pos) v := fun s Q E l f =>
  Name_function_global c.ek hx (loadGlobal_global (by rw [c.eg]; exact c.cn.here.g.keeps l) hv (f s (Gw.refl s))) hd
theorem evv_built {x : Str} {pos : Pos} {v : Value} (c : Cx W k A h₀ L env X h) (hg : W.mg x = none) (hv : W.mb x = some v) (hx : env.kindOf x = some .globalImplicit := by rfl) (hd : (x == ("__debug__" : Str)) = false := by decide) : EvV W A env h (.Name x pos) v := fun s Q E l f =>
  Name_function_global c.ek hx (loadGlobal_builtin (by rw [c.eg]; exact c.cn.here.g.keeps l) hg (by rw [c.eb]; exact c.cn.here.b.keeps l) hv (f s (Gw.refl s))) hd

/-- arguments, displays: each item's value -/
def EvA (W : Wd) (A : Around) (env : Env) (X : List Addr) (h : Heap) (pos : Pos) (es : List Expr) (ds : List V) : Prop :=
  ∀ (s : Shared) (Q : List Value → Shared → Prop) (E : Value → Shared → Prop), Le h s.heap → (∀ vs s', Gw s s' → RdA X s'.heap vs ds → Q vs s') → wpAny (model W.prog W.w) A (spliced (backTo pos (starEach es env))) Q E s
theorem eva_nil {pos : Pos} : EvA W A env X h pos [] [] := fun s Q E l f => args_nil (f [] s (Gw.refl s) .nil)
theorem eva_cons {pos : Pos} {e : Expr} {es : List Expr} {d : V} {ds : List V} (he : Ev W A env X h e d) (hr : EvA W A env X h pos es ds) (hs : starEach (e :: es) env = (false, eval e env) :: starEach es env := by rfl) : EvA W A env X h pos (e :: es) (d :: ds) := fun s Q E l f =>
  args_cons (he s _ _ l fun v s₁ g₁ r₁ => hr s₁ _ _ (l.trans g₁.le) fun vs s₂ g₂ r₂ => f _ s₂ (g₁.trans g₂) (.cons (r₁.le g₂.le) r₂)) hs

theorem ev_tup {pos : Pos} {es : List Expr} {ds : List V} {n : Nat} (c : Cx W k A h₀ L env X h) (he : EvA W A env X h pos es ds) (hz : ds.length ≤ sizeLine := by exact Nat.le_of_ble_eq_true rfl) : Ev W A env X h (.Tuple es n pos) (.tup ds) := fun s Q E l f =>
  Tuple_ (he s _ _ l fun vs s₁ g₁ r₁ => wpAny_newObj_type (f _ _ (g₁.trans (Gw.push s₁ _)) (.tup (n := 0) (Heap.get?_push_size _ rfl) (c.fresh (l.trans g₁.le)) (r₁.le (Le.push _)))) (by show vs.toArray.size ≤ sizeLine; rw [List.size_toArray, r₁.length]; exact hz))
theorem evf_list {pos : Pos} {es : List Expr} {ds : List V} (c : Cx W k A h₀ L env X h) (he : EvA W A env X h pos es ds) (hz : ds.length ≤ sizeLine := by exact Nat.le_of_ble_eq_true rfl) : EvF W A env X h (.List es pos) ds := fun s Q E l f =>
  List_ (he s _ _ l fun vs s₁ g₁ r₁ => wpAny_newObj_type (f _ vs 0 _ (g₁.trans (Gw.push s₁ _)) (by
      cases e : s.heap.get? s₁.heap.objs.size with
      | none => rfl
      | some o => exact absurd (Heap.lt_size (g₁.le _ _ e)) (Nat.lt_irrefl _)) (Heap.get?_push_size _ rfl) (c.fresh (l.trans g₁.le)) (r₁.le (Le.push _)) (r₁.move fun a o e _ hx => ⟨Le.push _ _ _ e, fun z => (List.mem_cons.mp z).elim (fun q => absurd (Heap.lt_size e) (q ▸ Nat.lt_irrefl _)) hx⟩)) (by show vs.toArray.size ≤ sizeLine; rw [List.size_toArray, r₁.length]; exact hz))
end

section
variable {B : Bd} {μ : Mu} {ρ : Rho} {Post Post' : Fl → Mu → Rho → Prop}
theorem new_apart {Kp γ s} (y : Sat B Kp γ μ ρ s) {I : Addr} (hI : s.heap.get? I = none) : I ≠ B.env.locals ∧ (∀ z, (z, I) ∉ B.env.cells) ∧ (∀ o, ¬ Kp I o) ∧ I ∉ μ.at := by
  refine ⟨?_, ?_, ?_, ?_⟩
  · rintro rfl
    obtain ⟨m, o, _, _, e, _⟩ := y.cn.ns
    rw [hI] at e; cases e
  · intro z hz
    obtain ⟨v, o, e, _⟩ := y.cells z I hz
    rw [hI] at e; cases e
  · intro o ko
    have := (y.kp I o ko).1
    rw [hI] at this; cases this
  · intro hm
    obtain ⟨q, hq, rfl⟩ := List.mem_map.mp hm
    obtain ⟨_, _, vs, n, e, _⟩ := y.muts q hq
    rw [hI] at e; cases e
theorem size_none (h : Heap) : h.get? h.objs.size = none := by
  cases e : h.get? h.objs.size with
  | none => rfl
  | some o => exact absurd (Heap.lt_size e) (Nat.lt_irrefl _)

theorem tri_forL {x : Str} {px pos : Pos} {iter : Expr} {body : List Stmt} {ds : List V} (Inv : Nat → Mu → Rho → Prop) (hx : B.env.kindOf x = some .local ∨ (B.env.kindOf x = some .cell ∧ (B.env.cells.lookup x).isSome = true))
    (he : Es B μ ρ (μ.at ++ B.X₀) iter (.lst ds)) (h0 : Inv 0 μ ρ) (hxm : ∀ i μ' ρ', Inv i μ' ρ' → μ'.names.contains x = false)
    (turn : ∀ i d μ' ρ', ds[i]? = some d → Inv i μ' ρ' → Tri B μ' ((x, d) :: ρ') body fun f m r => match f with
      | .next => Inv (i + 1) m r
      | .cont => Inv (i + 1) m r
      | .brk => Post .next m r
      | .ret d => Post (.ret d) m r)
    (done : ∀ m r, Inv ds.length m r → Post .next m r) (hs : ∀ x, foldedSetIterable iter B.env x = pure x := by intro _; rfl) : Tr1 B μ ρ (.For (.Name x px) iter body [] pos) Post := fun Kp γ s E y => by
  refine wpAny_For (he Kp γ s y s _ _ (Le.refl _) fun v s₁ g₁ r₁ => ?_) hs
  have y₁ := y.gw g₁
  cases r₁ with
  | @lst a vs n _ ea hax ra =>
  have hl : s₁.heap.IsList a vs.toArray := ⟨_, ea, rfl, n, rfl⟩
  refine wpAny_pyIter_list hl ?_
  have y₂ : Sat B Kp γ μ ρ { s₁ with heap := s₁.heap.push { cls := .type "list_iterator", data := .fields #[.ref a, .int 0 0] } } := y₁.le (tk := s₁.toks) (Le.push _)
  have hne : a ≠ s₁.heap.objs.size := Nat.ne_of_lt (Heap.lt_size ea)
  have ap := new_apart y₁ (size_none s₁.heap)
  have kpa : a ≠ B.env.locals ∧ (∀ z, (z, a) ∉ B.env.cells) ∧ a ∉ μ.at := by
    refine ⟨?_, ?_, fun z => hax (List.mem_append.mpr (.inl z))⟩
    · rintro rfl
      obtain ⟨m, hm⟩ := y₁.cn.ns
      exact ns_notSq hm _ ea ⟨_, _, rfl⟩
    · intro z hz
      obtain ⟨v, hv⟩ := y₁.cells z a hz
      exact cell_notSq hv _ ea ⟨_, _, rfl⟩
  have y₃ : Sat B (fun b o => Kp b o ∨ (b = a ∧ o = lstO vs n)) ((.ref a, .lst ds) :: γ) μ ρ { s₁ with heap := s₁.heap.push { cls := .type "list_iterator", data := .fields #[.ref a, .int 0 0] } } :=
    (y₂.fly (v := .ref a) (d := .lst ds) (.lst (Heap.get?_push_of_some _ ea) hax (ra.le (Le.push _)))).more (fun b o e => .inl (y₂.h₀kp b o e)) (by
      rintro b o (e | ⟨rfl, rfl⟩)
      · exact y₂.kp b o e
      · exact ⟨Heap.get?_push_of_some _ ea, kpa.1, kpa.2.1, kpa.2.2⟩)
  have hlen : vs.toArray.size = ds.length := by rw [List.size_toArray, ra.length]
  have Wk := Walks.list (prog := B.W.prog) (w := B.W.w) (A := B.A) y.cn.hand s₁.heap.objs.size a hne vs.toArray
  rw [hlen] at Wk
  refine for_walk (it := fun i => ds.getD i .none) Inv y₃ Wk ⟨⟨_, Heap.get?_push_size _ rfl, rfl, rfl⟩, ⟨_, Heap.get?_push_of_some _ ea, rfl, n, rfl⟩⟩ hx ap.1 ap.2.1 ?_ ?_ ?_ ap.2.2.2 ?_ h0 hxm ?_ done ?_
  · rintro o (ko | ⟨z, _⟩)
    · exact ap.2.2.1 o ko
    · exact hne z.symm
  · rintro i h ⟨⟨o, e, hc, hd⟩, _⟩
    refine ⟨o, e, ?_⟩
    rintro ⟨its, n', q⟩
    rw [hd] at q; cases q
  · intro b hb
    rcases List.mem_cons.mp hb with rfl | hb
    · exact .inl rfl
    · rw [List.mem_singleton.mp hb]; exact .inr ⟨_, .inr ⟨rfl, rfl⟩⟩
  · intro i v μ' ρ' s' hi hv y'
    have r := y'.gam _ (.head _)
    cases r with
    | @lst _ vs' n' _ ea' _ ra' =>
    have k := (y'.kp a _ (.inr ⟨rfl, rfl⟩)).1
    rw [ea'] at k
    have e2 : vs'.toArray = vs.toArray := by injection k with k; injection k with _ _ k; injection k
    have e3 : vs' = vs := by simpa using e2
    subst e3
    obtain ⟨d, hd, rd⟩ := ra'.getV (show vs'[i]? = some v by simpa using hv)
    have : ds.getD i .none = d := by rw [List.getD_eq_getElem?_getD, hd]; rfl
    rw [this]; exact rd
  · intro i μ' ρ' hi hinv
    have : ds[i]? = some (ds.getD i .none) := by rw [List.getD_eq_getElem?_getD, List.getElem?_eq_getElem hi]; rfl
    exact turn i _ μ' ρ' this hinv
  · rintro fl s' ⟨fd, m, r, a1, a2, a3⟩
    exact ⟨fd, m, r, a1, (a2.less y.h₀kp fun b o e => .inl e).land fun q hq => .tail _ hq, a3⟩

theorem evr {e : Expr} {x : Str} {p pos : Pos} {N : Int} {h : Heap} {X : List Addr} {K : Value → Shared → Prop} {E : Value → Shared → Prop} {s : Shared} {W : Wd} {A : Around} {env : Env} (hv : EvV W A env h (.Name x p) (.type "range")) (he : Ev W A env X h e (.int N)) (l : Le h s.heap) (hlo : -(2 ^ 62) ≤ N) (hhi : N < 2 ^ 62)
    (f : ∀ I s', Gw s s' → s.heap.get? I = none → IsRangeIter s'.heap I 0 (N.toNat : Int) 1 → K (.ref I) s') (hse : starEach [e] env = [(false, eval e env)] := by rfl) :
    wpAny (model W.prog W.w) A (eval (.Call (.Name x p) [e] [] pos) env) (fun xv s₁ => wpAny (model W.prog W.w) A (pyIter xv) K E s₁) E s := by
  refine Call_ (hv s _ _ l fun s₁ g₁ => ?_) rfl
  rw [hse]
  refine PySem.callWith_type rfl (Calls.evalArgs_plain (Calls.spliced_cons (he s₁ _ _ (l.trans g₁.le) fun nv s₂ g₂ r₂ => Calls.spliced_nil ?_)))
  cases r₂
  refine call_range_1 ?_
  refine wpAny_pyIter_range (IsRange.new ..) (small_one (by decide) (by decide) hlo hhi) ?_
  have hsz : Builtin.Range.rangeSize 0 N 1 = (N.toNat : Int) := by rw [rangeSize_one]; split <;> omega
  rw [hsz]
  refine f _ _ (g₁.trans (g₂.trans ⟨⟨_, _, rfl⟩, (Le.push _).trans (Le.push _)⟩)) ?_ (Heap.get?_push_size _ rfl)
  cases q : s.heap.get? (s₂.heap.push { cls := .type "range", data := .fields #[.int 0 s₂.toks, .int N _, .int 1 (s₂.toks + 1)] }).objs.size with
  | none => rfl
  | some o => exact absurd (Heap.lt_size (Le.push _ _ _ (g₂.le _ _ (g₁.le _ _ q)))) (Nat.lt_irrefl _)

theorem tri_forR {x rg : Str} {px pr pp pos : Pos} {e : Expr} {body : List Stmt} {N : Int} {X : List Addr} (Inv : Nat → Mu → Rho → Prop) (hx : B.env.kindOf x = some .local ∨ (B.env.kindOf x = some .cell ∧ (B.env.cells.lookup x).isSome = true))
    (hr : ∀ Kp γ s, Sat B Kp γ μ ρ s → EvV B.W B.A B.env s.heap (.Name rg pr) (.type "range")) (he : Es B μ ρ X e (.int N)) (hlo : -(2 ^ 62) ≤ N) (hhi : N < 2 ^ 62) (h0 : Inv 0 μ ρ) (hxm : ∀ i μ' ρ', Inv i μ' ρ' → μ'.names.contains x = false)
    (turn : ∀ i μ' ρ', i < N.toNat → Inv i μ' ρ' → Tri B μ' ((x, .int (i : Nat)) :: ρ') body fun f m r => match f with
      | .next => Inv (i + 1) m r
      | .cont => Inv (i + 1) m r
      | .brk => Post .next m r
      | .ret d => Post (.ret d) m r)
    (done : ∀ m r, Inv N.toNat m r → Post .next m r) (hse : starEach [e] B.env = [(false, eval e B.env)] := by rfl) (hs : ∀ x, foldedSetIterable (.Call (.Name rg pr) [e] [] pp) B.env x = pure x := by intro _; rfl) :
    Tr1 B μ ρ (.For (.Name x px) (.Call (.Name rg pr) [e] [] pp) body [] pos) Post := fun Kp γ s E y => by
  refine wpAny_For (evr (hr Kp γ s y) (he Kp γ s y) (Le.refl _) hlo hhi (fun I s₁ g₁ hn hI => ?_) hse) hs
  have y₁ := y.gw g₁
  have ap := new_apart y hn
  refine for_walk (it := fun i => .int (i : Nat)) Inv y₁ (Walks.range y.cn.hand I 0 1 N.toNat) (by simpa using hI) hx ap.1 ap.2.1 ap.2.2.1 ?_ ?_ ap.2.2.2 ?_ h0 hxm turn done (fun _ _ o => o)
  · intro i h st
    refine ⟨_, st, ?_⟩
    rintro ⟨its, n', q⟩
    cases q
  · intro b hb
    exact .inl (List.mem_singleton.mp hb)
  · rintro i v μ' ρ' s' hi ⟨t, rfl⟩ y'
    have : (0 + (i : Int) * 1) = (i : Int) := by omega
    rw [this]; exact .int _ _
end
end Mine
namespace Mine
open PySem PySem.Calls PySem.Spec PyProof.Rows

theorem bindL_off {kf : Str → Option NameKind} {x : Str} : ∀ (bs : List (Str × Value)) (m : Str → Option Value), x ∉ bs.map (·.1) → bindL kf bs m x = m x
  | [], m, _ => rfl
  | (n, v) :: r, m, h => by
    have hn : x ≠ n := fun e => h (e ▸ .head _)
    unfold bindL
    rw [bindL_off r _ fun q => h (.tail _ q)]
    split
    · simp [hn]
    · rfl
theorem bindC_off {kf : Str → Option NameKind} {x : Str} : ∀ (bs : List (Str × Value)) (m : Str → Option Value), x ∉ bs.map (·.1) → bindC kf bs m x = m x
  | [], m, _ => rfl
  | (n, v) :: r, m, h => by
    have hn : x ≠ n := fun e => h (e ▸ .head _)
    unfold bindC
    rw [bindC_off r _ fun q => h (.tail _ q)]
    split
    · rfl
    · simp [hn]
theorem bindL_mem {kf : Str → Option NameKind} {x : Str} {v : Value} (hk : kf x = some .local) : ∀ (bs : List (Str × Value)) (m : Str → Option Value), (bs.map (·.1)).Nodup → (x, v) ∈ bs → bindL kf bs m x = some v
  | (n, u) :: r, m, hd, hm => by
    obtain ⟨h1, h2⟩ := List.nodup_cons.mp hd
    unfold bindL
    rcases List.mem_cons.mp hm with e | hm
    · cases e
      rw [bindL_off r _ h1, if_pos hk]; simp
    · exact bindL_mem hk r _ h2 hm
theorem bindC_mem {kf : Str → Option NameKind} {x : Str} {v : Value} (hk : kf x ≠ some .local) : ∀ (bs : List (Str × Value)) (m : Str → Option Value), (bs.map (·.1)).Nodup → (x, v) ∈ bs → bindC kf bs m x = some v
  | (n, u) :: r, m, hd, hm => by
    obtain ⟨h1, h2⟩ := List.nodup_cons.mp hd
    unfold bindC
    rcases List.mem_cons.mp hm with e | hm
    · cases e
      rw [bindC_off r _ h1, if_neg hk]; simp
    · exact bindC_mem hk r _ h2 hm

theorem RdA.zip {X : List Addr} {h : Heap} : ∀ {vs : List Value} {ds : List V} {ps : List Str}, RdA X h vs ds → ∀ q ∈ ps.zip ds, ∃ v, (q.1, v) ∈ ps.zip vs ∧ Rd X h v q.2
  | _, _, [], _, q, hq => by simp at hq
  | _, _, p :: ps, .nil, q, hq => by simp at hq
  | _, _, p :: ps, .cons a r, q, hq => by
    rw [List.zip_cons_cons] at hq
    rcases List.mem_cons.mp hq with rfl | hq
    · exact ⟨_, .head _, a⟩
    · obtain ⟨v, h1, h2⟩ := RdA.zip r q hq
      exact ⟨v, .tail _ h1, h2⟩

/-- what a call of a def gives -/
def FnC (W : Wd) (k : Nat) (f : Addr) (args : List V) (d : V) : Prop :=
  ∀ (A : Around) (h₀ : Heap) (L : Addr) (X : List Addr) (s : Shared) (vs : List Value) (Q E : Value → Shared → Prop), Cn W k A h₀ L s.heap → (∀ a ∈ X, ∃ o, s.heap.get? a = some o) → RdA X s.heap vs args →
    (∀ v s', Gw s s' → Rd X s'.heap v d → Q v s') → wpAny (model W.prog W.w) A (call (.ref f) vs) Q E s

/-- the env in which a def's body runs -/
structure EnvIs (fd : FuncData) (f : Addr) (env : Env) : Prop where
  is : ∃ L, env = callEnvC fd L f

/-- a def's call, entered -/
theorem call_core {W : Wd} {k : Nat} {f : Addr} {fd : FuncData} {body : List Stmt} {ps : List Str} {args : List V} {A : Around} {base : Heap} {outer : List Env} {s : Shared} {X : List Addr} {vs : List Value} {R : Result → Shared → Prop} {o : Obj}
    (gr : Gr W s.heap) (hB1 : Below A base outer s.heap) (hhd : A.handled = none) (hrm : A.depth + (k + 1) < recursionLimit) (hun : A.units + 8 * (k + 1) + 100 < cLine)
    (ho : s.heap.get? f = some o) (hdat : o.data = .func fd) (hcd : s.heap.CodeRec fd.code fd.qualname) (hX : ∀ a ∈ X, ∃ o, s.heap.get? a = some o) (ra : RdA X s.heap vs args)
    (hbody : fd.body = .stmts body) (hclo : fd.closure = []) (hgl : fd.globals = mainGlobals) (hbl : fd.builtins = builtinsNs)
    (hbind : ∀ vs, vs.length = ps.length → bindArgs fd ⟨vs, []⟩ = pure (ps.zip vs)) (hps : ps.Nodup) (hlen : args.length = ps.length)
    (hkind : ∀ n, ∀ x ∈ ps, fd.scope.names.lookup x = some .local ∨ (fd.scope.names.lookup x = some .cell ∧ ((cellsFrom n fd.scope.names []).lookup x).isSome = true))
    (hnd : ((cellsFrom 0 fd.scope.names []).map (·.1)).Nodup) (hco : fd.scope.isCoroutine = false) (hgen : fd.scope.isGenerator = false) (hk : fd.scope.kind = .function)
    (h : ∀ (B : Bd) s₁, B.W = W → B.k = k → EnvIs fd f B.env → B.A = A.deeper B.env → B.h₀ = s.heap → B.X₀ = X → B.s₀ = s → Sat B (fun a o => s.heap.get? a = some o) [] [] (ps.zip args) s₁ →
      wpAny (model W.prog W.w) B.A (execs body B.env) (fun f s' => R (.ok (.ret (match f with | .ret v => v | _ => .none))) s')
        (fun e s' => wpAny (model W.prog W.w) B.A (leaving B.env e) (fun _ s'' => R (.error e) s'') (fun e' s'' => R (.error e') s'') s') s₁) :
    codeAny (model W.prog W.w) A (.call (.ref f) ⟨vs, []⟩) R s := by
  have hvl : vs.length = ps.length := by rw [ra.length, hlen]
  have hzn : (ps.zip vs).map (·.1) = ps := List.map_fst_zip (by omega)
  have hzm : ∀ x ∈ ps.zip vs, x.1 ∈ ps := fun x hx => hzn ▸ List.mem_map.mpr ⟨x, hx, rfl⟩
  refine codeAny_call_cells (by omega) ho hdat gr.lim hcd hbody (hbind vs hvl) hclo (fun x hx => hkind _ _ (hzm x hx)) (fun s₁ x => ?_) hco hgen hk
  generalize henv : callEnvC fd s.heap.objs.size f = env at x ⊢
  have hfe : env.frame = some env.locals := by rw [← henv]; rfl
  have hloc : env.locals = s.heap.objs.size := by rw [← henv]; rfl
  have hcells : env.cells = cellsFrom (s.heap.objs.size + 1) fd.scope.names [] := by rw [← henv]; rfl
  have hsc : env.scope = fd.scope := by rw [← henv]; rfl
  have memc : ∀ y c, (y, c) ∈ env.cells → env.cells.lookup y = some c := fun y c hy => by
    rw [hcells] at hy ⊢
    exact lookup_of_mem_nodup (cellsFrom_names fd.scope.names 0 (s.heap.objs.size + 1) [] [] rfl ▸ hnd) hy
  have hkeep := x.toInCall.keep
  obtain ⟨h₁, t₁, hs₁⟩ := x.toInCall.same
  let B : Bd := { W := W, k := k, A := A.deeper env, h₀ := s.heap, env := env, X₀ := X, s₀ := s }
  have sat : Sat B (fun a o => s.heap.get? a = some o) [] [] (ps.zip args) s₁ := by
    refine ⟨⟨?_, ?_, ?_, x.apart, fun y c hy => Nat.ne_of_gt (x.above y c hy), hX⟩, ⟨gr, ⟨A, base, outer, env, hB1, ?_, hfe, ?_⟩, ?_, hhd, ?_, ?_, hkeep, ⟨_, x.toInCall.ns⟩⟩, ⟨h₁, t₁, hs₁⟩, fun a o e => e, ?_, ?_, ?_, ?_, ?_, List.nodup_nil⟩
    · show env.scope.kind = _; rw [hsc]; exact hk
    · show env.globals = _; rw [← henv]; exact hgl
    · show env.builtins = _; rw [← henv]; exact hbl
    · exact Around.frames_deeper hB1.stack
    · show env.scope.kind = _; rw [hsc]; exact hk
    · show s.heap.objs.size ≤ env.locals; rw [hloc]; exact Nat.le_refl _
    · show (A.deeper env).depth + k < _; rw [show (A.deeper env).depth = A.depth + 1 from rfl]; omega
    · show (A.deeper env).units + 8 * k + 100 < _; rw [show (A.deeper env).units = A.units + 3 from rfl]; omega
    · intro a o e
      refine ⟨hkeep a o e, ?_, ?_, ?_⟩
      · show a ≠ env.locals; rw [hloc]; exact Nat.ne_of_lt (Heap.lt_size e)
      · intro z hz
        have h1 := x.above z a hz
        rw [hloc] at h1
        exact absurd (Heap.lt_size e) (Nat.not_lt.mpr (Nat.le_of_lt h1))
      · exact fun z => (nomatch z)
    · intro y c hy
      exact ⟨_, x.cell y c (memc y c hy)⟩
    · exact fun q hq => (nomatch hq)
    · intro z e hz
      have hq : (z, e) ∈ ps.zip args := mem_of_lookup hz
      generalize hqq : (z, e) = q at hq
      obtain ⟨v, h1, h2⟩ := ra.zip q hq
      have hqp : q.1 ∈ ps := (List.of_mem_zip hq).1
      have hko : ∀ z, env.kindOf z = fd.scope.names.lookup z := fun z => by unfold Env.kindOf; rw [hsc]
      have hnz : ((ps.zip vs).map (·.1)).Nodup := by rw [hzn]; exact hps
      have hz1 : z = q.1 := by rw [← hqq]
      have hz2 : e = q.2 := by rw [← hqq]
      rw [hz1, hz2]
      refine ⟨v, ?_, h2.le hkeep⟩
      rcases hkind (s.heap.objs.size + 1) q.1 hqp with hl | ⟨hl, hc⟩
      · refine .inl ⟨by rw [hko]; exact hl, _, x.toInCall.ns, bindL_mem (by rw [hko]; exact hl) _ _ hnz h1⟩
      · obtain ⟨c, hc⟩ := Option.isSome_iff_exists.mp hc
        have hlc : env.cells.lookup q.1 = some c := by rw [hcells]; exact hc
        have hne : env.kindOf q.1 ≠ some .local := by rw [hko, hl]; decide
        refine .inr ⟨.inl (by rw [hko]; exact hl), c, hlc, ?_⟩
        have := x.cell q.1 c hlc
        rw [bindC_mem hne _ _ hnz h1] at this
        exact this
    · exact fun q hq => (nomatch hq)
  exact h B s₁ rfl rfl ⟨_, henv.symm⟩ rfl rfl rfl rfl sat

theorem fnc_of {W : Wd} {k : Nat} {f : Addr} {fd : FuncData} {body : List Stmt} {ps : List Str} {args : List V} {d : V} (hd : W.defs f fd) (hbody : fd.body = .stmts body) (hclo : fd.closure = []) (hgl : fd.globals = mainGlobals) (hbl : fd.builtins = builtinsNs)
    (hbind : ∀ vs, vs.length = ps.length → bindArgs fd ⟨vs, []⟩ = pure (ps.zip vs)) (hps : ps.Nodup) (hlen : args.length = ps.length)
    (hkind : ∀ n, ∀ x ∈ ps, fd.scope.names.lookup x = some .local ∨ (fd.scope.names.lookup x = some .cell ∧ ((cellsFrom n fd.scope.names []).lookup x).isSome = true))
    (hnd : ((cellsFrom 0 fd.scope.names []).map (·.1)).Nodup) (hco : fd.scope.isCoroutine = false) (hgen : fd.scope.isGenerator = false) (hk : fd.scope.kind = .function)
    (h : ∀ B : Bd, B.W = W → B.k = k → EnvIs fd f B.env → Tri B [] (ps.zip args) body fun fl _ _ => fl = .ret d ∨ (fl = .next ∧ d = .none)) : FnC W (k + 1) f args d := by
  intro A h₀ L X s vs Q E cn hX ra hQ
  have gr := cn.here
  obtain ⟨o, ho, hdat, hcd⟩ := gr.defs f fd hd
  obtain ⟨A₀, base, outer, fenv, bl, hfr, hfL, hfk⟩ := cn.bel
  obtain ⟨m, hm⟩ := cn.ns
  have F : Fr h₀ L s.heap m := ⟨hm, cn.keep, cn.above⟩
  have hB1 : Below A base (fenv :: outer) s.heap := by
    have hnew : base.get? L = none := by
      cases hq : base.get? L with
      | none => rfl
      | some o => exact absurd (Nat.lt_of_lt_of_le (Heap.lt_size (bl.stays L o hq)) F.above) (Nat.lt_irrefl _)
    exact ⟨hfr, fun b o e => F.keep b o (bl.stays b o e), .cons (by rw [hfk]; decide) hfL F.ns hnew (bl.frames.of_keeps fun b o e _ => ⟨o, F.keep b o e, rfl⟩)⟩
  refine wpAny_call (call_core gr hB1 cn.hand cn.room cn.units ho hdat hcd hX ra hbody hclo hgl hbl hbind hps hlen hkind hnd hco hgen hk ?_)
  rintro B s₁ rfl rfl he hA hh₀ rfl hs₀ sat
  refine wpAny_mono (h B rfl rfl he _ _ s₁ _ sat) (fun fl s' ou => ?_) fun _ _ e => e
  obtain ⟨fd', μ', ρ', fi, y, po⟩ := ou
  have gw : Gw s s' := ⟨hs₀ ▸ y.same, fun a o e => (y.kp a o e).1⟩
  rcases po with rfl | ⟨rfl, rfl⟩
  · cases fl <;> first | exact fi.elim | exact hQ _ s' gw fi
  · cases fl <;> first | exact fi.elim | exact hQ _ s' gw .none

section
variable {W : Wd} {k : Nat} {A : Around} {h₀ : Heap} {L : Addr} {env : Env} {X Y : List Addr} {h : Heap}
/-- a call of a def -/
theorem ev_call {fn : Expr} {es : List Expr} {e : Expr} {pos : Pos} {f : Addr} {fd : FuncData} {ds : List V} {d : V} (c : Cx W k A h₀ L env X h) (hf : EvV W A env h fn (.ref f)) (ha : EvA W A env X h pos (e :: es) ds) (hd : W.defs f fd) (hc : FnC W k f ds d)
    (hs : starEach (e :: es) env = (false, eval e env) :: starEach es env := by rfl)
    (he : eval (.Call fn (e :: es) [] pos) env = (do callWith pos (← eval fn env) [] (backTo pos (starEach (e :: es) env)) (backToKw pos (keywordEach [] env))) := by rfl) : Ev W A env X h (.Call fn (e :: es) [] pos) d := fun s Q E l g => by
  obtain ⟨o, ho, hdat, hcd⟩ := c.cn.here.defs f fd hd
  refine Call_ (hf s _ _ l fun s₁ g₁ => callWith_def hdat (ha s₁ _ _ (l.trans g₁.le) fun vs s₂ g₂ r₂ => ?_) hs) he
  have l₂ : Le h s₂.heap := l.trans (g₁.le.trans g₂.le)
  exact ⟨l₂ _ _ ho, hc A h₀ L X s₂ vs Q E (c.cn.le l₂) (c.le l₂).xs r₂ fun v s' g₃ r => g v s' (g₁.trans (g₂.trans g₃)) r⟩
end
end Mine
namespace Mine
open PySem PySem.Calls PySem.Spec PyProof.Rows

section
variable {W : Wd} {k : Nat} {A : Around} {h₀ : Heap} {L : Addr} {env : Env} {X Y : List Addr} {h : Heap}

theorem ev_sub {l r : Expr} {pos : Pos} {a b : Int} (ha : Ev W A env [] h l (.int a)) (hb : Ev W A env [] h r (.int b)) : Ev W A env X h (.BinOp l .Sub r pos) (.int (a - b)) :=
  ev_bin ha hb fun s u v Q E _ ru rv f => by cases ru; cases rv; exact PySem.P.sub_int (f _ _ (Gw.toks s _) (.int _ _))
theorem ev_mulL {l r : Expr} {pos : Pos} {a b : Int} (ha : Ev W A env [] h l (.int a)) (hb : Ev W A env [] h r (.int b)) (h1 : -(2 ^ 64) < a := by decide) (h2 : a < 2 ^ 64 := by decide) : Ev W A env X h (.BinOp l .Mult r pos) (.int (a * b)) :=
  ev_bin ha hb fun s u v Q E _ ru rv f => by cases ru; cases rv; exact PySem.P.mul_int (f _ _ (Gw.toks s _) (.int _ _)) (IntMulOk.of_left (intBits_le_64 h1 h2))
theorem ev_mod {l r : Expr} {pos : Pos} {a b : Int} (ha : Ev W A env [] h l (.int a)) (hb : Ev W A env [] h r (.int b)) (h0 : 0 < b := by decide) : Ev W A env X h (.BinOp l .Mod r pos) (.int (a % b)) :=
  ev_bin ha hb fun s u v Q E _ ru rv f => by cases ru; cases rv; exact PyProof.Rows.mod_int' (by omega) (f _ _ (Gw.toks s _) (by rw [Int.fmod_eq_emod_of_nonneg a (by omega)]; exact .int _ _))
theorem ev_div {l r : Expr} {pos : Pos} {a b : Int} (ha : Ev W A env [] h l (.int a)) (hb : Ev W A env [] h r (.int b)) (h0 : 0 < b := by decide) (h1 : b.natAbs < 1073741824 := by decide) : Ev W A env X h (.BinOp l .FloorDiv r pos) (.int (a / b)) :=
  ev_bin ha hb fun s u v Q E _ ru rv f => by cases ru; cases rv; exact PyProof.Rows.floordiv_int (by omega) (f _ _ (Gw.toks s _) (by rw [Int.fdiv_eq_ediv_of_nonneg a (by omega)]; exact .int _ _)) (.inl (PyProof.noPylong_small h1))
theorem ev_neg {e : Expr} {pos : Pos} {a : Int} (ha : Ev W A env [] h e (.int a)) : Ev W A env X h (.UnaryOp .USub e pos) (.int (-a)) := fun s Q E l f =>
  UnaryOp_ (ha s _ _ l fun v s₁ g₁ r₁ => by cases r₁; exact PySem.P.neg_int (f _ _ (g₁.trans (Gw.toks s₁ _)) (.int _ _)))
theorem ev_eqI {l r : Expr} {pos : Pos} {a b : Int} (ha : Ev W A env [] h l (.int a)) (hb : Ev W A env [] h r (.int b)) (hm : behindInMarks .Eq r = false := by with_unfolding_all rfl) : Ev W A env X h (.Compare l [.Eq] [r] pos) (.bool (decide (a = b))) :=
  ev_cmp ha hb (fun s u v Q E _ ru rv f => by cases ru; cases rv; exact PySem.P.eq_int (f _ _ (Gw.refl s) (by rw [show (a == b) = decide (a = b) from by by_cases h : a = b <;> simp [h]]; exact .bool _))) hm
theorem ev_neI {l r : Expr} {pos : Pos} {a b : Int} (ha : Ev W A env [] h l (.int a)) (hb : Ev W A env [] h r (.int b)) (hm : behindInMarks .NotEq r = false := by with_unfolding_all rfl) : Ev W A env X h (.Compare l [.NotEq] [r] pos) (.bool (decide (a ≠ b))) :=
  ev_cmp ha hb (fun s u v Q E _ ru rv f => by cases ru; cases rv; exact PySem.P.ne_int (f _ _ (Gw.refl s) (by rw [show (a != b) = decide (a ≠ b) from by by_cases h : a = b <;> simp [h]]; exact .bool _))) hm
theorem ev_ltI {l r : Expr} {pos : Pos} {a b : Int} (ha : Ev W A env [] h l (.int a)) (hb : Ev W A env [] h r (.int b)) (hm : behindInMarks .Lt r = false := by with_unfolding_all rfl) : Ev W A env X h (.Compare l [.Lt] [r] pos) (.bool (decide (a < b))) :=
  ev_cmp ha hb (fun s u v Q E _ ru rv f => by cases ru; cases rv; exact PySem.P.lt_int (f _ _ (Gw.refl s) (.bool _))) hm
theorem ev_leI {l r : Expr} {pos : Pos} {a b : Int} (ha : Ev W A env [] h l (.int a)) (hb : Ev W A env [] h r (.int b)) (hm : behindInMarks .LtE r = false := by with_unfolding_all rfl) : Ev W A env X h (.Compare l [.LtE] [r] pos) (.bool (decide (a ≤ b))) :=
  ev_cmp ha hb (fun s u v Q E _ ru rv f => by cases ru; cases rv; exact PySem.P.le_int (f _ _ (Gw.refl s) (.bool _))) hm
theorem ev_gtI {l r : Expr} {pos : Pos} {a b : Int} (ha : Ev W A env [] h l (.int a)) (hb : Ev W A env [] h r (.int b)) (hm : behindInMarks .Gt r = false := by with_unfolding_all rfl) : Ev W A env X h (.Compare l [.Gt] [r] pos) (.bool (decide (b < a))) :=
  ev_cmp ha hb (fun s u v Q E _ ru rv f => by cases ru; cases rv; exact PySem.P.gt_int (f _ _ (Gw.refl s) (.bool _))) hm
theorem ev_geI {l r : Expr} {pos : Pos} {a b : Int} (ha : Ev W A env [] h l (.int a)) (hb : Ev W A env [] h r (.int b)) (hm : behindInMarks .GtE r = false := by with_unfolding_all rfl) : Ev W A env X h (.Compare l [.GtE] [r] pos) (.bool (decide (b ≤ a))) :=
  ev_cmp ha hb (fun s u v Q E _ ru rv f => by cases ru; cases rv; exact PySem.P.ge_int (f _ _ (Gw.refl s) (.bool _))) hm

/-- a comparison as a test -/
theorem bt_cmp {l r : Expr} {op : CmpOp} {pos : Pos} {a b : V} {c : Bool} (ha : Ev W A env Y h l a) (hb : Ev W A env Y h r b)
    (ho : ∀ (s : Shared) (u v : Value) (Q E : Value → Shared → Prop), Le h s.heap → Rd Y s.heap u a → Rd Y s.heap v b → (∀ s', Gw s s' → Q (.bool c) s') → wpAny (model W.prog W.w) A (compareOp op u v) Q E s)
    (hm : behindInMarks op r = false := by with_unfolding_all rfl) : Bt W A env h (.Compare l [op] [r] pos) c := fun s Q E le f =>
  wpAny_isTrue_Compare1 (ha s _ _ le fun u s₁ k₁ r₁ => hb s₁ _ _ (le.trans k₁.le) fun v s₂ k₂ r₂ => ho s₂ u v _ _ (le.trans (k₁.le.trans k₂.le)) (r₁.le k₂.le) r₂ fun s₃ k₃ => wpAny_truthy_bool (f s₃ (k₁.trans (k₂.trans k₃)))) hm
theorem bt_eqI {l r : Expr} {pos : Pos} {a b : Int} (ha : Ev W A env [] h l (.int a)) (hb : Ev W A env [] h r (.int b)) (hm : behindInMarks .Eq r = false := by with_unfolding_all rfl) : Bt W A env h (.Compare l [.Eq] [r] pos) (decide (a = b)) :=
  bt_cmp ha hb (fun s u v Q E _ ru rv f => by cases ru; cases rv; exact PySem.P.eq_int (by rw [show (a == b) = decide (a = b) from by by_cases h : a = b <;> simp [h]]; exact f _ (Gw.refl s))) hm
theorem bt_neI {l r : Expr} {pos : Pos} {a b : Int} (ha : Ev W A env [] h l (.int a)) (hb : Ev W A env [] h r (.int b)) (hm : behindInMarks .NotEq r = false := by with_unfolding_all rfl) : Bt W A env h (.Compare l [.NotEq] [r] pos) (decide (a ≠ b)) :=
  bt_cmp ha hb (fun s u v Q E _ ru rv f => by cases ru; cases rv; exact PySem.P.ne_int (by rw [show (a != b) = decide (a ≠ b) from by by_cases h : a = b <;> simp [h]]; exact f _ (Gw.refl s))) hm
theorem bt_ltI {l r : Expr} {pos : Pos} {a b : Int} (ha : Ev W A env [] h l (.int a)) (hb : Ev W A env [] h r (.int b)) (hm : behindInMarks .Lt r = false := by with_unfolding_all rfl) : Bt W A env h (.Compare l [.Lt] [r] pos) (decide (a < b)) :=
  bt_cmp ha hb (fun s u v Q E _ ru rv f => by cases ru; cases rv; exact PySem.P.lt_int (f _ (Gw.refl s))) hm
theorem bt_leI {l r : Expr} {pos : Pos} {a b : Int} (ha : Ev W A env [] h l (.int a)) (hb : Ev W A env [] h r (.int b)) (hm : behindInMarks .LtE r = false := by with_unfolding_all rfl) : Bt W A env h (.Compare l [.LtE] [r] pos) (decide (a ≤ b)) :=
  bt_cmp ha hb (fun s u v Q E _ ru rv f => by cases ru; cases rv; exact PySem.P.le_int (f _ (Gw.refl s))) hm
theorem bt_gtI {l r : Expr} {pos : Pos} {a b : Int} (ha : Ev W A env [] h l (.int a)) (hb : Ev W A env [] h r (.int b)) (hm : behindInMarks .Gt r = false := by with_unfolding_all rfl) : Bt W A env h (.Compare l [.Gt] [r] pos) (decide (b < a)) :=
  bt_cmp ha hb (fun s u v Q E _ ru rv f => by cases ru; cases rv; exact PySem.P.gt_int (f _ (Gw.refl s))) hm
theorem bt_geI {l r : Expr} {pos : Pos} {a b : Int} (ha : Ev W A env [] h l (.int a)) (hb : Ev W A env [] h r (.int b)) (hm : behindInMarks .GtE r = false := by with_unfolding_all rfl) : Bt W A env h (.Compare l [.GtE] [r] pos) (decide (b ≤ a)) :=
  bt_cmp ha hb (fun s u v Q E _ ru rv f => by cases ru; cases rv; exact PySem.P.ge_int (f _ (Gw.refl s))) hm

theorem bt_not {e : Expr} {pos : Pos} {b : Bool} (he : Bt W A env h e b) : Bt W A env h (.UnaryOp .Not e pos) (!b) := fun s Q E l f => isTrue_not (he s _ _ l fun s' g => f s' g)
theorem bt_and_nil {pos : Pos} : Bt W A env h (.BoolOp .And [] pos) true := fun s Q E l f => isTrue_and_nil (f s (Gw.refl s))
theorem bt_or_nil {pos : Pos} : Bt W A env h (.BoolOp .Or [] pos) false := fun s Q E l f => isTrue_or_nil (f s (Gw.refl s))
theorem bt_and {e : Expr} {es : List Expr} {pos : Pos} {b c : Bool} (he : Bt W A env h e b) (hr : b = true → Bt W A env h (.BoolOp .And es pos) c) : Bt W A env h (.BoolOp .And (e :: es) pos) (b && c) := fun s Q E l f =>
  isTrue_and (he s _ _ l fun s' g => by
    cases b with
    | true =>
      simp only [if_true]
      have q := hr rfl s' Q E (l.trans g.le) fun s'' g' => f s'' (g.trans g')
      exact q
    | false => exact f s' g)
theorem bt_or {e : Expr} {es : List Expr} {pos : Pos} {b c : Bool} (he : Bt W A env h e b) (hr : b = false → Bt W A env h (.BoolOp .Or es pos) c) : Bt W A env h (.BoolOp .Or (e :: es) pos) (b || c) := fun s Q E l f =>
  isTrue_or (he s _ _ l fun s' g => by
    cases b with
    | false =>
      simp only [Bool.false_eq_true, if_false]
      have q := hr rfl s' Q E (l.trans g.le) fun s'' g' => f s'' (g.trans g')
      exact q
    | true => exact f s' g)
theorem bt_val {e : Expr} {b : Bool} (he : Ev W A env [] h e (.bool b)) (hp : ∀ whole, isTrue e env whole = (do let v ← whole; standAt e.pos; holding [v] (truthy v)) := by intro _; rfl) : Bt W A env h e b := fun s Q E l f =>
  isTrue_plain (he s _ _ l fun v s' g r => by cases r; exact wpAny_truthy_bool (f s' g)) (hp _)

theorem ev_if {t e f : Expr} {pos : Pos} {b : Bool} {d : V} (ht : Bt W A env h t b) (he : if b then Ev W A env X h e d else Ev W A env X h f d) : Ev W A env X h (.IfExp t e f pos) d := fun s Q E l g =>
  IfExp_ (ht s _ _ l fun s₁ g₁ => by
    cases b with
    | true => exact he s₁ _ _ (l.trans g₁.le) fun v s' g₂ r => g v s' (g₁.trans g₂) r
    | false => exact he s₁ _ _ (l.trans g₁.le) fun v s' g₂ r => g v s' (g₁.trans g₂) r)

/-- a built-in function of one argument -/
theorem ev_b1 {fn e : Expr} {pos : Pos} {id : String} {a d : V} (hf : EvV W A env h fn (.builtin id)) (ha : Ev W A env Y h e a)
    (ho : ∀ (s : Shared) (u : Value) (Q E : Value → Shared → Prop), Le h s.heap → Rd Y s.heap u a → (∀ v s', Gw s s' → Rd X s'.heap v d → Q v s') → wpAny (model W.prog W.w) A (call (.builtin id) [u]) Q E s)
    (hs : starEach [e] env = [(false, eval e env)] := by rfl)
    (he : eval (.Call fn [e] [] pos) env = (do callWith pos (← eval fn env) [] (backTo pos (starEach [e] env)) (backToKw pos (keywordEach [] env))) := by rfl) : Ev W A env X h (.Call fn [e] [] pos) d := fun s Q E l g =>
  Call_ (hf s _ _ l fun s₁ g₁ => callWith_builtin1 (args_cons (ha s₁ _ _ (l.trans g₁.le) fun v s₂ g₂ r₂ => args_nil (ho s₂ v _ _ (l.trans (g₁.le.trans g₂.le)) r₂ fun v' s₃ g₃ r₃ => g v' s₃ (g₁.trans (g₂.trans g₃)) r₃)) hs) hs rfl) he
theorem ev_t1 {fn e : Expr} {pos : Pos} {T : String} {a d : V} (hf : EvV W A env h fn (.type T)) (ha : Ev W A env Y h e a)
    (ho : ∀ (s : Shared) (u : Value) (Q E : Value → Shared → Prop), Le h s.heap → Rd Y s.heap u a → (∀ v s', Gw s s' → Rd X s'.heap v d → Q v s') → wpAny (model W.prog W.w) A (call (.type T) [u]) Q E s)
    (hs : starEach [e] env = [(false, eval e env)] := by rfl)
    (he : eval (.Call fn [e] [] pos) env = (do callWith pos (← eval fn env) [] (backTo pos (starEach [e] env)) (backToKw pos (keywordEach [] env))) := by rfl) : Ev W A env X h (.Call fn [e] [] pos) d := fun s Q E l g =>
  Call_ (hf s _ _ l fun s₁ g₁ => by
    rw [hs]
    refine PySem.callWith_type rfl (Calls.evalArgs_plain (Calls.spliced_cons (ha s₁ _ _ (l.trans g₁.le) fun v s₂ g₂ r₂ => Calls.spliced_nil ?_)))
    exact ho s₂ v _ _ (l.trans (g₁.le.trans g₂.le)) r₂ fun v' s₃ g₃ r₃ => g v' s₃ (g₁.trans (g₂.trans g₃)) r₃) he

theorem ev_len {fn e : Expr} {pos : Pos} {ds : List V} (hf : EvV W A env h fn (.builtin "len")) (ha : Ev W A env [] h e (.lst ds)) (hz : ds.length < 2 ^ 62) (hs : starEach [e] env = [(false, eval e env)] := by rfl)
    (he : eval (.Call fn [e] [] pos) env = (do callWith pos (← eval fn env) [] (backTo pos (starEach [e] env)) (backToKw pos (keywordEach [] env))) := by rfl) : Ev W A env X h (.Call fn [e] [] pos) (.int ds.length) :=
  ev_b1 hf ha (fun s u Q E l r f => by
    cases r with
    | @lst a vs n _ ea _ ra =>
    have e2 : vs.toArray.size = ds.length := by rw [List.size_toArray, ra.length]
    exact PyProof.Rows.len_list ⟨_, ea, rfl, n, rfl⟩ (by rw [e2]; omega) (f _ _ (Gw.toks s _) (by rw [e2]; exact .int _ _))) hs he
theorem ev_abs {fn e : Expr} {pos : Pos} {a : Int} (hf : EvV W A env h fn (.builtin "abs")) (ha : Ev W A env [] h e (.int a)) (hs : starEach [e] env = [(false, eval e env)] := by rfl)
    (he : eval (.Call fn [e] [] pos) env = (do callWith pos (← eval fn env) [] (backTo pos (starEach [e] env)) (backToKw pos (keywordEach [] env))) := by rfl) : Ev W A env X h (.Call fn [e] [] pos) (.int (a.natAbs : Int)) :=
  ev_b1 hf ha (fun s u Q E l r f => by
    cases r
    refine call_abs_int fun u tk => f _ _ (Gw.toks s _) ?_
    have : (if a < 0 then -a else a) = (a.natAbs : Int) := by split <;> omega
    rw [this]; exact .int _ _) hs he

theorem le_fresh {h h' : Heap} {g : Heap} (l : Le h h') : h.get? h'.objs.size = none := by
  cases e : h.get? h'.objs.size with
  | none => rfl
  | some o => exact absurd (Heap.lt_size (l _ _ e)) (Nat.lt_irrefl _)
theorem RdA.past {X : List Addr} {h : Heap} {vs : List Value} {ds : List V} (r : RdA X h vs ds) (o : Obj) : RdA (h.objs.size :: X) (h.push o) vs ds :=
  r.move fun a o' e _ hx => ⟨Le.push _ _ _ e, fun z => (List.mem_cons.mp z).elim (fun q => absurd (Heap.lt_size e) (q ▸ Nat.lt_irrefl _)) hx⟩

/-- two lists joined: a new one -/
theorem evf_add {l r : Expr} {pos : Pos} {a b : List V} (c : Cx W k A h₀ L env X h) (ha : Ev W A env Y h l (.lst a)) (hb : Ev W A env Y h r (.lst b)) (hz : a.length + b.length ≤ sizeLine) (hY : ∀ (s' : Heap) vs ds, RdA Y s' vs ds → (ds = a ∨ ds = b) → RdA X s' vs ds) : EvF W A env X h (.BinOp l .Add r pos) (a ++ b) := fun s Q E le f =>
  wpAny_BinOp (ha s _ _ le fun u s₁ g₁ r₁ => hb s₁ _ _ (le.trans g₁.le) fun v s₂ g₂ r₂ => by
    have r₁' := r₁.le g₂.le
    cases r₁' with
    | @lst x vs n _ ex _ rx =>
    cases r₂ with
    | @lst y ws m _ ey _ ry =>
    refine PySem.P.add_list ex ey ?_ (by rw [List.size_toArray, List.size_toArray, rx.length, ry.length]; exact hz)
    have l2 : Le h s₂.heap := le.trans (g₁.le.trans g₂.le)
    have rr : RdA X s₂.heap (vs ++ ws) (a ++ b) := (hY _ _ _ rx (.inl rfl)).append (hY _ _ _ ry (.inr rfl))
    have e : vs.toArray ++ ws.toArray = (vs ++ ws).toArray := by simp
    rw [e]
    exact f _ (vs ++ ws) 0 _ (g₁.trans (g₂.trans (Gw.push s₂ _))) (le_fresh (g := h) (g₁.le.trans g₂.le)) (Heap.get?_push_size _ rfl) (c.fresh l2) (rr.le (Le.push _)) (rr.past _))
theorem evf_addX {l r : Expr} {pos : Pos} {a b : List V} (c : Cx W k A h₀ L env X h) (ha : Ev W A env X h l (.lst a)) (hb : Ev W A env X h r (.lst b)) (hz : a.length + b.length ≤ sizeLine) : EvF W A env X h (.BinOp l .Add r pos) (a ++ b) := evf_add c ha hb hz fun _ _ _ r _ => r
theorem evf_addF {l r : Expr} {pos : Pos} {a b : List V} (c : Cx W k A h₀ L env X h) (ha : Ev W A env [] h l (.lst a)) (hb : Ev W A env [] h r (.lst b)) (hz : a.length + b.length ≤ sizeLine) (fa : ∀ x ∈ a, x.flat = true) (fb : ∀ x ∈ b, x.flat = true) : EvF W A env X h (.BinOp l .Add r pos) (a ++ b) := evf_add c ha hb hz fun _ _ _ r q => r.flat (q.elim (fun e => e ▸ fa) fun e => e ▸ fb)

/-- an item of a list -/
theorem ev_item {v i : Expr} {pos : Pos} {ds : List V} {j : Int} {d : V} (hv : Ev W A env X h v (.lst ds)) (hi : Ev W A env [] h i (.int j)) (h0 : 0 ≤ j) (hd : ds[j.toNat]? = some d) (hj : j < 2 ^ 63)
    (hs : ∀ l u, subscripted i false (.ref l) (.int j u) = operate [.ref l, .int j u] (getItem (.ref l) (.int j u)) := by intro _ _; with_unfolding_all rfl) : Ev W A env X h (.Subscript v i pos) d := fun s Q E l f =>
  Subscript_ (hv s _ _ l fun o s₁ g₁ r₁ => hi s₁ _ _ (l.trans g₁.le) fun w s₂ g₂ r₂ => by
    cases r₂
    have r := r₁.le g₂.le
    cases r with
    | @lst a vs n _ ea _ ra =>
    obtain ⟨x, hx, rx⟩ := ra.get hd
    have hl : s₂.heap.IsList a vs.toArray := ⟨_, ea, rfl, n, rfl⟩
    exact tail_any hl.typeIs slot_list_getitem.lookup (wpAny_getItem_list hl h0 hj (by simpa using hx) (f _ _ (g₁.trans g₂) rx)) (hs _ _))
end
end Mine
namespace Mine
open PySem PySem.Calls PySem.Spec PyProof.Rows

section
variable {B : Bd} {μ μ₁ μ₂ : Mu} {ρ : Rho} {Post Post' : Fl → Mu → Rho → Prop}

theorem mu_at {x : Str} {a : Addr} {ds ds' : List V} : Mu.at (μ₁ ++ (x, a, ds) :: μ₂) = Mu.at (μ₁ ++ (x, a, ds') :: μ₂) := by simp [Mu.at]

/-- a list of the function's own turns -/
theorem Sat.mutate {Kp γ s} {x : Str} {a : Addr} {ds ds' : List V} {h' : Heap} {tk : Nat} {vs' : List Value} {n' : Nat} (y : Sat B Kp γ (μ₁ ++ (x, a, ds) :: μ₂) ρ s) (hs : Heap.SameBut a s.heap h') (e : h'.get? a = some (lstO vs' n'))
    (r : RdA (Mu.at (μ₁ ++ (x, a, ds) :: μ₂) ++ B.X₀) s.heap vs' ds') : Sat B Kp γ (μ₁ ++ (x, a, ds') :: μ₂) ρ { s with heap := h', toks := tk } := by
  have hat := mu_at (μ₁ := μ₁) (μ₂ := μ₂) (x := x) (a := a) (ds := ds) (ds' := ds')
  have am : a ∈ Mu.at (μ₁ ++ (x, a, ds) :: μ₂) := by simp [Mu.at]
  obtain ⟨hva, hax, vs, n, ea, ra⟩ := y.muts (x, a, ds) (by simp)
  have sqa : IsSq (lstO vs n) := ⟨_, _, rfl⟩
  have mv : ∀ {v d}, Rd (Mu.at (μ₁ ++ (x, a, ds) :: μ₂) ++ B.X₀) s.heap v d → Rd (Mu.at (μ₁ ++ (x, a, ds') :: μ₂) ++ B.X₀) h' v d := fun r => r.move fun b o e q hx => ⟨(hs.2 b fun z => hx (by rw [z]; exact List.mem_append.mpr (.inl am))).trans e, by rw [← hat]; exact hx⟩
  have mvA : ∀ {v d}, RdA (Mu.at (μ₁ ++ (x, a, ds) :: μ₂) ++ B.X₀) s.heap v d → RdA (Mu.at (μ₁ ++ (x, a, ds') :: μ₂) ++ B.X₀) h' v d := fun r => r.move fun b o e q hx => ⟨(hs.2 b fun z => hx (by rw [z]; exact List.mem_append.mpr (.inl am))).trans e, by rw [← hat]; exact hx⟩
  have aL : B.env.locals ≠ a := by
    intro z
    obtain ⟨m, hm⟩ := y.cn.ns
    exact ns_notSq hm _ (z ▸ ea) sqa
  have aC : ∀ z c, (z, c) ∈ B.env.cells → c ≠ a := by
    intro z c hz q
    obtain ⟨v, hv⟩ := y.cells z c hz
    exact cell_notSq hv _ (q ▸ ea) sqa
  have vr : ∀ {z v}, Var B.env s.heap z v → Var B.env h' z v := by
    rintro z v (⟨p, m, q, r⟩ | ⟨p, c, q, r⟩)
    · exact .inl ⟨p, m, q.sameBut hs aL, r⟩
    · exact .inr ⟨p, c, q, r.sameBut hs (aC z c (mem_of_lookup q))⟩
  refine ⟨y.wf, ⟨y.cn.gr, y.cn.bel, y.cn.above, y.cn.hand, y.cn.room, y.cn.units, fun b o e => ?_, ?_⟩, ?_, y.h₀kp, fun b o e => ?_, fun z c hz => ?_, fun q hq => mv (y.gam q hq), fun z d hz => ?_, fun q hq => ?_, hat ▸ y.nd⟩
  · exact (hs.2 b fun z => (y.kp b o (y.h₀kp b o e)).2.2.2 (z ▸ am)).trans (y.cn.keep b o e)
  · obtain ⟨m, hm⟩ := y.cn.ns
    exact ⟨m, hm.sameBut hs aL⟩
  · obtain ⟨h, t, e⟩ := y.same
    exact ⟨h', tk, by rw [e]⟩
  · have k := y.kp b o e
    exact ⟨(hs.2 b fun z => k.2.2.2 (z ▸ am)).trans k.1, k.2.1, k.2.2.1, by rw [← hat]; exact k.2.2.2⟩
  · obtain ⟨v, hv⟩ := y.cells z c hz
    exact ⟨v, hv.sameBut hs (aC z c hz)⟩
  · obtain ⟨v, h1, h2⟩ := y.vars z d hz
    exact ⟨v, vr h1, mv h2⟩
  · have other : ∀ q ∈ μ₁ ++ (x, a, ds) :: μ₂, q.2.1 ≠ a → Var B.env h' q.1 (.ref q.2.1) ∧ q.2.1 ∉ B.X₀ ∧ ∃ vs n, h'.get? q.2.1 = some (lstO vs n) ∧ RdA (Mu.at (μ₁ ++ (x, a, ds') :: μ₂) ++ B.X₀) h' vs q.2.2 := by
      intro q hq hne
      obtain ⟨h1, h2, vs₂, n₂, h3, h4⟩ := y.muts q hq
      exact ⟨vr h1, h2, vs₂, n₂, (hs.2 _ hne).trans h3, mvA h4⟩
    have nd := y.nd
    unfold Mu.at at nd
    rw [List.map_append, List.map_cons] at nd
    have nd1 := List.nodup_append.mp nd
    have nd2 := List.nodup_cons.mp nd1.2.1
    rcases List.mem_append.mp hq with h1 | h1
    · exact other q (List.mem_append.mpr (.inl h1)) fun z => nd1.2.2 _ (List.mem_map.mpr ⟨q, h1, rfl⟩) a (.head _) z
    · rcases List.mem_cons.mp h1 with rfl | h1
      · exact ⟨vr hva, hax, vs', n', e, mvA r⟩
      · exact other q (List.mem_append.mpr (.inr (.tail _ h1))) fun z => nd2.1 (List.mem_map.mpr ⟨q, h1, z⟩)

/-- a list's append -/
theorem tri_append {x : Str} {a : Addr} {ds : List V} {e : Expr} {d : V} {px apos cpos pos : Pos} (hμ : μ = μ₁ ++ (x, a, ds) :: μ₂) (he : Es B μ ρ (μ.at ++ B.X₀) e d) (hz : ds.length ≤ sizeLine) (h : Post .next (μ₁ ++ (x, a, ds ++ [d]) :: μ₂) ρ)
    (hline : (apos.endLine == cpos.line) = true := by rfl) (hse : starEach [e] B.env = [(false, eval e B.env)] := by rfl) (hi : interactive B.env = false := by rfl) (hd : (x == ("__debug__" : Str)) = false := by decide)
    (hbase : attributeBase (.Name x px) "append" B.env (eval (.Name x px) B.env) = eval (.Name x px) B.env := by rfl) (hsw : swapsWith (.Call (.Attribute (.Name x px) "append" apos) [e] [] cpos) none pos.line B.env = pure false := by rfl) :
    Tr1 B μ ρ (.Expr (.Call (.Attribute (.Name x px) "append" apos) [e] [] cpos) pos) Post := fun Kp γ s E y => by
  subst hμ
  obtain ⟨hva, hax, vs, n, ea, ra⟩ := y.muts (x, a, ds) (by simp)
  refine wpAny_Expr (wpAny_Call_append hbase (by rw [show backTo cpos (starEach [e] B.env) = [(false, eval e B.env)] from by rw [hse]; rfl]; rfl) hline (by rw [hse]; rfl) ?_) hi hsw
  have ev : Ev B.W B.A B.env [] s.heap (.Name x px) (.lst ds) := ev_var (y.cx.sub (Y := []) fun _ h => (nomatch h)) hva (.lst ea (fun h => (nomatch h)) (ra.sub fun _ h => (nomatch h))) hd
  have go : wpAny (model B.W.prog B.W.w) B.A (loadName B.env x) (fun ov s₁ => ov = .ref a ∧ s₁ = s) E s := by
    rcases hva with ⟨p, m, q, r⟩ | ⟨p | ⟨p, p'⟩, c, q, r⟩
    · exact wpAny_loadName_local y.wf.ek p q r ⟨rfl, rfl⟩
    · exact wpAny_loadName_cell y.wf.ek p q r ⟨rfl, rfl⟩
    · exact wpAny_loadName_free y.wf.ek p q r ⟨rfl, rfl⟩ p'
  refine wpAny_Name (wpAny_mono go (fun ov s₁ q => ?_) fun _ _ e => e) hd
  obtain ⟨rfl, rfl⟩ := q
  refine ⟨a, vs.toArray, rfl, ⟨_, n, ea, rfl, rfl, rfl⟩, he Kp γ s₁ y s₁ _ _ (Le.refl _) fun v s₂ g₂ r₂ => ?_⟩
  refine append_at (g₂.le _ _ ea) (fun h' hs' e' => ?_) (by rw [List.size_toArray, ra.length]; exact hz)
  have e2 : h'.get? a = some (lstO (vs ++ [v]) (n + 1)) := by rw [e', List.push_toArray]
  exact ⟨.next, _, _, trivial, (y.gw g₂).mutate (tk := s₂.toks) hs' e2 ((ra.le g₂.le).append (.cons r₂ .nil)), h⟩
end
end Mine
namespace Mine
open PySem PySem.Calls PySem.Spec PyProof.Rows

mutual
def V.py : V → PyData
  | .none => .none
  | .bool b => .bool b
  | .int i => .int i
  | .str x => .str x
  | .typ _ => .none
  | .tup ds => .tuple (V.pys ds)
  | .lst ds => .list (V.pys ds)
def V.pys : List V → List PyData
  | [] => []
  | d :: ds => V.py d :: V.pys ds
end
def V.ok : Nat → V → Bool
  | _, .none => true
  | _, .bool _ => true
  | _, .int _ => true
  | _, .str x => PyData.strOk x
  | n + 1, .tup ds => ds.all (V.ok n)
  | n + 1, .lst ds => ds.all (V.ok n)
  | _, _ => false

mutual
theorem rd_reads {X : List Addr} {h : Heap} : ∀ {v : Value} {d : V} (n : Nat), Rd X h v d → d.ok n = true → ∃ as, Reads h v d.py as
  | _, _, _, .none, _ => ⟨_, Reads.none⟩
  | _, _, _, .bool b, _ => ⟨_, Reads.bool b⟩
  | _, _, _, .int i t, _ => ⟨_, Reads.int i t⟩
  | _, _, _, .str x t, _ => ⟨_, Reads.str x t⟩
  | _, _, n, .typ _, hk => by cases n <;> simp [V.ok] at hk
  | _, _, 0, .tup _ _ _, hk => by simp [V.ok] at hk
  | _, _, 0, .lst _ _ _, hk => by simp [V.ok] at hk
  | _, _, n + 1, .tup e _ r, hk => by
    obtain ⟨as, q⟩ := rda_reads n r (by simpa [V.ok] using hk)
    rw [V.py]
    exact ⟨as, reads_tuple_at e rfl rfl (by simpa using q)⟩
  | _, _, n + 1, .lst e _ r, hk => by
    obtain ⟨as, q⟩ := rda_reads n r (by simpa [V.ok] using hk)
    rw [V.py]
    exact ⟨_, reads_list_at e rfl rfl (by simpa using q)⟩
theorem rda_reads {X : List Addr} {h : Heap} : ∀ {vs : List Value} {ds : List V} (n : Nat), RdA X h vs ds → (∀ d ∈ ds, d.ok n = true) → ∃ as, ReadsAll h vs (V.pys ds) as
  | _, _, _, .nil, _ => ⟨_, ReadsAll.nil⟩
  | _, _, n, .cons hd r, hk => by
    obtain ⟨as, q⟩ := rd_reads n hd (hk _ (.head _))
    obtain ⟨bs, p⟩ := rda_reads n r fun d hm => hk d (.tail _ hm)
    rw [V.pys]
    exact ⟨_, ReadsAll.cons q p⟩
end
theorem v_lay : ∀ (n : Nat) (d : V), d.ok n = true → d.py.canLay0 = true ∧ d.py.depth ≤ n ∧ PyData.eqv d.py d.py = true := by
  have all : ∀ (n : Nat), (∀ d : V, d.ok n = true → d.py.canLay0 = true ∧ d.py.depth ≤ n ∧ PyData.eqv d.py d.py = true) → ∀ ds : List V, (∀ d ∈ ds, d.ok n = true) → PyData.canLayAll0 (V.pys ds) = true ∧ PyData.depthAll (V.pys ds) ≤ n ∧ PyData.eqvAll (V.pys ds) (V.pys ds) = true := by
    intro n ih ds
    induction ds with
    | nil => intro _; simp [V.pys, PyData.canLayAll0, PyData.depthAll, PyData.eqvAll]
    | cons d ds hi =>
      intro h
      have h1 := ih d (h d (.head _))
      have h2 := hi fun e he => h e (.tail _ he)
      simp only [V.pys, PyData.canLayAll0, PyData.depthAll, PyData.eqvAll, h1.1, h2.1, h1.2.2, h2.2.2, Bool.and_self, true_and, and_true]
      have a1 := h1.2.1
      have a2 := h2.2.1
      omega
  intro n
  induction n with
  | zero =>
    intro d h
    cases d <;> simp_all [V.ok, V.py, PyData.canLay0, PyData.depth, PyData.eqv]
  | succ n ih =>
    intro d h
    cases d with
    | none => simp [V.py, PyData.canLay0, PyData.depth, PyData.eqv]
    | bool b => simp [V.py, PyData.canLay0, PyData.depth, PyData.eqv]
    | int i => simp [V.py, PyData.canLay0, PyData.depth, PyData.eqv]
    | str x => simp [V.ok] at h; simp [V.py, PyData.canLay0, PyData.depth, PyData.eqv, h]
    | typ b => simp [V.ok] at h
    | tup ds =>
      have q := all n ih ds (by simpa [V.ok] using h)
      have q2 := q.2.1
      simp only [V.py, PyData.canLay0, PyData.depth, PyData.eqv, q.1, q.2.2, true_and, and_true]
      omega
    | lst ds =>
      have q := all n ih ds (by simpa [V.ok] using h)
      have q2 := q.2.1
      simp only [V.py, PyData.canLay0, PyData.depth, PyData.eqv, q.1, q.2.2, true_and, and_true]
      omega

theorem v_shaped {n : Nat} {d : V} (h : d.ok n = true) (hn : n ≤ 64) : SeqAt.shaped d.py = true := by
  obtain ⟨a, b, _⟩ := v_lay n d h
  unfold SeqAt.shaped
  rw [a, Bool.true_and]
  exact decide_eq_true (by omega)

section
variable {W : Wd} {k : Nat} {A : Around} {h₀ : Heap} {L : Addr} {env : Env} {X Y Z : List Addr} {h : Heap}
/-- == of two things that read alike -/
theorem ev_eqV {l r : Expr} {pos : Pos} {d : V} (c : Cx W k A h₀ L env X h) (ha : Ev W A env [] h l d) (hb : Ev W A env [] h r d) (n : Nat) (ho : d.ok n = true) (hn : n ≤ 64) (hm : behindInMarks .Eq r = false := by with_unfolding_all rfl) : Ev W A env X h (.Compare l [.Eq] [r] pos) (.bool true) :=
  ev_cmp ha hb (fun s u v Q E le ru rv f => by
    obtain ⟨as, ra⟩ := rd_reads n ru ho
    obtain ⟨bs, rb⟩ := rd_reads n rv ho
    refine eq_dataH ra rb (v_shaped ho hn) (v_shaped ho hn) (by have := c.cn.units; omega) (f _ _ (Gw.refl s) ?_)
    rw [(v_lay n d ho).2.2]; exact .bool _) hm
theorem bt_eqV {l r : Expr} {pos : Pos} {d : V} (c : Cx W k A h₀ L env X h) (ha : Ev W A env [] h l d) (hb : Ev W A env [] h r d) (n : Nat) (ho : d.ok n = true) (hn : n ≤ 64) (hm : behindInMarks .Eq r = false := by with_unfolding_all rfl) : Bt W A env h (.Compare l [.Eq] [r] pos) true :=
  bt_cmp ha hb (fun s u v Q E le ru rv f => by
    obtain ⟨as, ra⟩ := rd_reads n ru ho
    obtain ⟨bs, rb⟩ := rd_reads n rv ho
    refine eq_dataH ra rb (v_shaped ho hn) (v_shaped ho hn) (by have := c.cn.units; omega) ?_
    rw [(v_lay n d ho).2.2]; exact f _ (Gw.refl s)) hm
theorem bt_neV {l r : Expr} {pos : Pos} {d : V} (c : Cx W k A h₀ L env X h) (ha : Ev W A env [] h l d) (hb : Ev W A env [] h r d) (n : Nat) (ho : d.ok n = true) (hn : n ≤ 64) (hm : behindInMarks .NotEq r = false := by with_unfolding_all rfl) : Bt W A env h (.Compare l [.NotEq] [r] pos) false :=
  bt_cmp ha hb (fun s u v Q E le ru rv f => by
    obtain ⟨as, ra⟩ := rd_reads n ru ho
    obtain ⟨bs, rb⟩ := rd_reads n rv ho
    refine ne_dataH ra rb (v_shaped ho hn) (v_shaped ho hn) (by have := c.cn.units; omega) ?_
    rw [(v_lay n d ho).2.2]; exact f _ (Gw.refl s)) hm

def V.tyName : V → String
  | .none => "NoneType"
  | .bool _ => "bool"
  | .int _ => "int"
  | .str _ => "str"
  | .typ _ => "type"
  | .tup _ => "tuple"
  | .lst _ => "list"
theorem ev_type {fn e : Expr} {pos : Pos} {d : V} (hf : EvV W A env h fn (.type "type")) (ha : Ev W A env [] h e d) (hd : (match d with | .typ _ => false | _ => true) = true := by rfl) (hs : starEach [e] env = [(false, eval e env)] := by rfl)
    (he : eval (.Call fn [e] [] pos) env = (do callWith pos (← eval fn env) [] (backTo pos (starEach [e] env)) (backToKw pos (keywordEach [] env))) := by rfl) : Ev W A env X h (.Call fn [e] [] pos) (.typ d.tyName) :=
  ev_t1 hf ha (fun s u Q E l r f => by
    cases r with
    | none => exact call_type_of (Tx := "NoneType") rfl (by decide +kernel) (f _ _ (Gw.refl s) (.typ _))
    | bool b => exact call_type_of (Tx := "bool") rfl (by decide +kernel) (f _ _ (Gw.refl s) (.typ _))
    | int i t => exact call_type_of (Tx := "int") rfl (by decide +kernel) (f _ _ (Gw.refl s) (.typ _))
    | str x t => exact call_type_of (Tx := "str") rfl (by decide +kernel) (f _ _ (Gw.refl s) (.typ _))
    | typ n => cases hd
    | tup e hx q => exact call_type_of (Tx := "tuple") ⟨_, e, rfl⟩ (by decide +kernel) (f _ _ (Gw.refl s) (.typ _))
    | lst e hx q => exact call_type_of (Tx := "list") ⟨_, e, rfl⟩ (by decide +kernel) (f _ _ (Gw.refl s) (.typ _))) hs he
theorem ev_typ {e : Expr} {n : String} (hf : EvV W A env h e (.type n)) : Ev W A env X h e (.typ n) := fun s Q E l f => hf s _ _ l fun s' g => f _ s' g (.typ n)
theorem bt_isT {l r : Expr} {pos : Pos} {n m : String} (ha : Ev W A env [] h l (.typ n)) (hb : Ev W A env [] h r (.typ m)) (hm : behindInMarks .Is r = false := by with_unfolding_all rfl) : Bt W A env h (.Compare l [.Is] [r] pos) (decide (n = m)) :=
  bt_cmp ha hb (fun s u v Q E le ru rv f => by
    cases ru; cases rv
    by_cases e : n = m
    · subst e; exact wpAny_is_self rfl (by simpa using f _ (Gw.refl s))
    · exact wpAny_is_other rfl (fun z => e (by injection z)) (by simpa [e] using f _ (Gw.refl s))) hm
def V.isNone : V → Bool
  | .none => true
  | _ => false
theorem bt_isNotN {l r : Expr} {pos : Pos} {d : V} (ha : Ev W A env [] h l d) (hb : Ev W A env [] h r .none) (hm : behindInMarks .IsNot r = false := by with_unfolding_all rfl) : Bt W A env h (.Compare l [.IsNot] [r] pos) (!d.isNone) :=
  bt_cmp ha hb (fun s u v Q E le ru rv f => by
    cases rv
    cases ru <;> first | exact wpAny_isNot_self rfl (f _ (Gw.refl s)) | exact wpAny_isNot_other rfl (fun z => by cases z) (f _ (Gw.refl s))) hm
theorem bt_isN {l r : Expr} {pos : Pos} {d : V} (ha : Ev W A env [] h l d) (hb : Ev W A env [] h r .none) (hm : behindInMarks .Is r = false := by with_unfolding_all rfl) : Bt W A env h (.Compare l [.Is] [r] pos) d.isNone :=
  bt_cmp ha hb (fun s u v Q E le ru rv f => by
    cases rv
    cases ru <;> first | exact wpAny_is_self rfl (f _ (Gw.refl s)) | exact wpAny_is_other rfl (fun z => by cases z) (f _ (Gw.refl s))) hm

/-- an item of a tuple -/
theorem ev_itemT {v i : Expr} {pos : Pos} {ds : List V} {j : Int} {d : V} (hv : Ev W A env X h v (.tup ds)) (hi : Ev W A env [] h i (.int j)) (h0 : 0 ≤ j) (hd : ds[j.toNat]? = some d) (hj : j < 2 ^ 63)
    (hs : ∀ l u, subscripted i false (.ref l) (.int j u) = operate [.ref l, .int j u] (getItem (.ref l) (.int j u)) := by intro _ _; with_unfolding_all rfl) : Ev W A env X h (.Subscript v i pos) d := fun s Q E l f =>
  Subscript_ (hv s _ _ l fun o s₁ g₁ r₁ => hi s₁ _ _ (l.trans g₁.le) fun w s₂ g₂ r₂ => by
    cases r₂
    have r := r₁.le g₂.le
    cases r with
    | @tup a vs n _ ea _ ra =>
    obtain ⟨x, hx, rx⟩ := ra.get hd
    have hl : j.toNat < vs.length := (List.getElem?_eq_some_iff.mp hx).1
    refine tail_any (T := "tuple") ⟨_, ea, rfl⟩ slot_tuple_getitem.lookup (PySem.P.getItem_tuple ea (by omega) hj (k := j.toNat) (seqIndex_of h0 (by rw [List.size_toArray]; omega)) (by simpa using hx) (f _ _ (g₁.trans g₂) rx)) (hs _ _))
end
end Mine
namespace Mine
open PySem PySem.Calls PySem.Spec PyProof.Rows

/-- an expression whose items can be gone over: n of them, item i reads as it i -/
def Src (W : Wd) (A : Around) (env : Env) (Y : List Addr) (h : Heap) (iter : Expr) (n : Nat) (it : Nat → V) : Prop :=
  ∀ (s : Shared) (Q E : Value → Shared → Prop), Le h s.heap →
    (∀ (I : Addr) (fp : List Addr) (P : Nat → Value → Prop) (St : Nat → Heap → Prop) (s' : Shared), Gw s s' → s.heap.get? I = none → Walks W.prog W.w A I fp [I] n P St → St 0 s'.heap → (∀ b ∈ fp, b < s'.heap.objs.size) → (∀ i h, St i h → ∃ o, h.get? I = some o ∧ ¬ IsSq o) →
      (∀ i v h', i < n → P i v → (∀ b o, b ≠ I → s'.heap.get? b = some o → h'.get? b = some o) → Rd Y h' v (it i)) → Q (.ref I) s') →
    wpAny (model W.prog W.w) A (eval iter env) (fun xv s₁ => wpAny (model W.prog W.w) A (pyIter xv) Q E s₁) E s

section
variable {W : Wd} {k : Nat} {A : Around} {h₀ : Heap} {L : Addr} {env : Env} {X Y : List Addr} {h : Heap}
theorem src_list {iter : Expr} {ds : List V} (hh : A.handled = none) (he : Ev W A env Y h iter (.lst ds)) : Src W A env Y h iter ds.length (fun i => ds.getD i .none) := fun s Q E l f =>
  he s _ _ l fun v s₁ g₁ r₁ => by
    cases r₁ with
    | @lst a vs n _ ea hax ra =>
    have hl : s₁.heap.IsList a vs.toArray := ⟨_, ea, rfl, n, rfl⟩
    refine wpAny_pyIter_list hl ?_
    have hne : a ≠ s₁.heap.objs.size := Nat.ne_of_lt (Heap.lt_size ea)
    have hlen : vs.toArray.size = ds.length := by rw [List.size_toArray, ra.length]
    have Wk := Walks.list (prog := W.prog) (w := W.w) (A := A) hh s₁.heap.objs.size a hne vs.toArray
    rw [hlen] at Wk
    refine f _ _ _ _ _ (g₁.trans (Gw.push s₁ _)) (le_fresh (g := h) g₁.le) Wk ⟨⟨_, Heap.get?_push_size _ rfl, rfl, rfl⟩, ⟨_, Heap.get?_push_of_some _ ea, rfl, n, rfl⟩⟩ ?_ ?_ ?_
    · intro b hb
      show b < (s₁.heap.push _).objs.size
      rw [Heap.size_push]
      rcases List.mem_cons.mp hb with rfl | hb
      · exact Nat.lt_succ_self _
      · rw [List.mem_singleton.mp hb]; exact Nat.lt_succ_of_lt (Heap.lt_size ea)
    · rintro i h ⟨⟨o, e, hc, hd⟩, _⟩
      refine ⟨o, e, ?_⟩
      rintro ⟨its, n', q⟩
      rw [hd] at q; cases q
    · intro i v h' hi hv hk
      obtain ⟨d, hd, rd⟩ := ra.getV (show vs[i]? = some v by simpa using hv)
      have : ds.getD i .none = d := by rw [List.getD_eq_getElem?_getD, hd]; rfl
      show Rd Y h' v (ds.getD i .none)
      rw [this]
      exact rd.move fun b o e _ hx => ⟨hk b o (Nat.ne_of_lt (Heap.lt_size e)) (Heap.get?_push_of_some _ e), hx⟩
theorem src_range {e : Expr} {x : Str} {p pos : Pos} {N : Int} (hh : A.handled = none) (hv : EvV W A env h (.Name x p) (.type "range")) (he : Ev W A env X h e (.int N)) (hlo : -(2 ^ 62) ≤ N) (hhi : N < 2 ^ 62) (hse : starEach [e] env = [(false, eval e env)] := by rfl) :
    Src W A env Y h (.Call (.Name x p) [e] [] pos) N.toNat (fun i => .int (i : Nat)) := fun s Q E l f =>
  evr hv he l hlo hhi (fun I s' g hn hI => by
    refine f I [I] _ _ s' g hn (Walks.range hh I 0 1 N.toNat) (by simpa using hI) ?_ ?_ ?_
    · intro b hb
      rw [List.mem_singleton.mp hb]; exact Heap.lt_size hI
    · intro i h st
      refine ⟨_, st, ?_⟩
      rintro ⟨its, n', q⟩
      cases q
    · rintro i v h' hi ⟨t, rfl⟩ _
      have : (0 + (i : Int) * 1) = (i : Int) := by omega
      rw [this]; exact .int _ _) hse

theorem Rd.fresh {X : List Addr} {h h' : Heap} {D : Addr} {v : Value} {d : V} (r : Rd X h v d) (hD : h.get? D = Option.none) (l : Le h h') : Rd (D :: X) h' v d := r.move fun b o e _ hx => ⟨l b o e, fun z => (List.mem_cons.mp z).elim (fun q => by rw [q, hD] at e; cases e) hx⟩
theorem RdA.fresh {X : List Addr} {h h' : Heap} {D : Addr} {v : List Value} {d : List V} (r : RdA X h v d) (hD : h.get? D = none) (l : Le h h') : RdA (D :: X) h' v d := r.move fun b o e _ hx => ⟨l b o e, fun z => (List.mem_cons.mp z).elim (fun q => by rw [q, hD] at e; cases e) hx⟩

/-- a name that a comprehension draws from around it -/
theorem var_free {scope : Scope} {cl : List (Str × Addr)} {C : Addr} {y : Str} {u : Value} {h : Heap} (hv : Var env h y u) (hk : (compEnvC scope cl C env).kindOf y = some .cell) (hc : env.kindOf y = some .cell) (hl : cl.lookup y = env.cells.lookup y) : Var (compEnvC scope cl C env) h y u := by
  rcases hv with ⟨a, _⟩ | ⟨_, c, b, d⟩
  · rw [hc] at a; cases a
  · exact .inr ⟨.inl hk, c, by show cl.lookup y = some c; rw [hl]; exact b, d⟩

def picked (n : Nat) (b : Nat → Bool) (g : Nat → V) : List V := ((List.range n).filter b).map g
theorem picked_succ {n : Nat} {b : Nat → Bool} {g : Nat → V} : picked (n + 1) b g = picked n b g ++ (if b n then [g n] else []) := by
  unfold picked
  rw [List.range_succ, List.filter_append, List.map_append]
  congr 1
  by_cases h : b n = true <;> simp [h]
theorem picked_len {n : Nat} {b : Nat → Bool} {g : Nat → V} : (picked n b g).length ≤ n := by
  unfold picked
  rw [List.length_map]
  exact Nat.le_trans (List.length_filter_le _ _) (by simp)

/-- a list comprehension of one clause: a new list -/
theorem comp_gen {elt iter : Expr} {x : Str} {px pos : Pos} {ifs : List Expr} {scope : Scope} {cl : List (Str × Addr)} {n : Nat} {it : Nat → V} (b : Nat → Bool) (g : Nat → V) (c : Cx W k A h₀ L env X h)
    (hclos : closureFor scope env = pure cl) (hcell : ∀ y ∈ scope.names, y.2 ≠ .cell) (hkind : scope.kind = .function) (hnames : ∀ y ∈ scope.names, y.2 = .local → scope.names.lookup y.1 = some .local) (hx : scope.names.lookup x = some .local)
    (hsrc : Src W A env X h iter n it) (hn : n ≤ sizeLine)
    (tests : ∀ i C v s E (Q : Bool → Shared → Prop), i < n → Le h s.heap → Cx W k A h₀ L (compEnvC scope cl C env) X s.heap → Var (compEnvC scope cl C env) s.heap x v → Rd X s.heap v (it i) → (∀ s', Gw s s' → Q (b i) s') →
      wpAny (model W.prog W.w) A (forIn ifs true fun c r => if r = true then do let ok ← isTrue c (compEnvC scope cl C env) (eval c (compEnvC scope cl C env)); pure (ForInStep.yield ok) else pure (ForInStep.yield r)) Q E s)
    (helt : ∀ i C D v h', i < n → b i = true → Le h h' → h.get? D = none → Cx W k A h₀ L (compEnvC scope cl C env) (D :: X) h' → Var (compEnvC scope cl C env) h' x v → Rd X h' v (it i) → Ev W A (compEnvC scope cl C env) (D :: X) h' elt (g i))
    (RR : Value → Addr → Result → Shared → Prop) {s : Shared} {E : Value → Shared → Prop} (l : Le h s.heap)
    (fin : ∀ D C ys mm m' s', Gw s s' → s.heap.get? D = none → s.heap.get? C = none → C ≠ D → s'.heap.Ns C m' → s'.heap.get? D = some (lstO ys mm) → D ∉ X → RdA (D :: X) s'.heap ys (picked n b g) → RR (.ref D) C (.ok .next) s') :
    wpAny (model W.prog W.w) A (eval iter env) (fun xv s₁ => wpAny (model W.prog W.w) A (pyIter xv) (fun it s₂ => wpAny (model W.prog W.w) A (newList []) (fun acc s₃ =>
      wpAny (model W.prog W.w) A (newFunctionEnv scope env.globals cl [] env.qual none .none (some env)) (fun cenv s₄ =>
        codeAny (model W.prog W.w) A (.compStart (.ListComp elt [⟨.Name x px, iter, ifs, 0⟩] scope pos) 0 it acc { cenv with scope := relabel scope env }) (RR acc cenv.locals) s₄) E s₃) E s₂) E s₁) E s := by
  refine hsrc s _ _ l fun I fp P St s₂ g₂ hIn Wk hst hfp hIs hit => ?_
  have l₂ : Le h s₂.heap := l.trans g₂.le
  refine wpAny_newObj_type (wpAny_newFunctionEnv hcell (by intro y hy; simp at hy) (fun h₁ hns₁ hsb₁ => ?_) hkind)
  dsimp only at hns₁ hsb₁ ⊢
  generalize hH2 : s₂.heap.push { cls := .type "list", dict := none, data := .seq ([] : List Value).toArray } = H2 at hns₁ hsb₁ ⊢
  have hC : H2.objs.size = s₂.heap.objs.size + 1 := by rw [← hH2, Heap.size_push]
  have hDC : s₂.heap.objs.size ≠ H2.objs.size := by rw [hC]; exact Nat.ne_of_lt (Nat.lt_succ_self _)
  have below : ∀ b, b < s₂.heap.objs.size → b ≠ H2.objs.size ∧ b ≠ s₂.heap.objs.size := fun b hb => ⟨by rw [hC]; exact Nat.ne_of_lt (Nat.lt_succ_of_lt hb), Nat.ne_of_lt hb⟩
  have hDf : s₂.heap.objs.size ∉ fp := fun hm => Nat.lt_irrefl _ (hfp _ hm)
  have hCf : H2.objs.size ∉ fp := fun hm => by have := hfp _ hm; rw [hC] at this; exact Nat.lt_irrefl _ (Nat.lt_of_succ_lt this)
  have old : ∀ b o, s₂.heap.get? b = some o → h₁.get? b = some o := fun b o e => hsb₁.extBut b o (below b (Heap.lt_size e)).1 (Heap.get?_push_of_some _ (hH2 ▸ Heap.get?_push_of_some _ e))
  have hacc : h₁.get? s₂.heap.objs.size = some (lstO [] 0) := hsb₁.extBut _ _ hDC (Heap.get?_push_of_some _ (hH2 ▸ Heap.get?_push_size _ rfl))
  have hst₁ : St 0 h₁ := Wk.frame _ _ _ hst fun b _ o e => old b o e
  have hIf : I ∈ fp := Wk.sub I (List.mem_singleton.mpr rfl)
  have hIlt : I < s₂.heap.objs.size := hfp I hIf
  have hIC : I ≠ H2.objs.size := (below I hIlt).1
  have hID : I ≠ s₂.heap.objs.size := (below I hIlt).2
  have fresh : ∀ a, s₂.heap.objs.size ≤ a → s₂.heap.get? a = none := fun a ha => by
    cases e : s₂.heap.get? a with
    | none => rfl
    | some o' => exact absurd (Heap.lt_size e) (Nat.not_lt.mpr ha)
  have hD₀ : s₂.heap.get? s₂.heap.objs.size = none := fresh _ (Nat.le_refl _)
  have hC₀ : s₂.heap.get? H2.objs.size = none := fresh _ (by rw [hC]; exact Nat.le_succ _)
  have hDX : s₂.heap.objs.size ∉ X := c.fresh l₂
  have hhI : h.get? I = none := by
    cases e : h.get? I with
    | none => rfl
    | some o => have := l _ _ e; rw [hIn] at this; cases this
  have hoC : ∀ {h' : Heap} {m : Str → Option Value} {v : Value}, Le h h' → h'.Ns H2.objs.size m → m x = some v → Cx W k A h₀ L (compEnvC scope cl H2.objs.size env) X h' ∧ Var (compEnvC scope cl H2.objs.size env) h' x v := fun lh hm hv =>
    ⟨⟨c.cn.le lh, hkind, c.eg, c.eb, (c.le lh).xs⟩, .inl ⟨lookup_relabel_local hx, _, hm, hv⟩⟩
  have loop : ∀ s₃ : Shared, s₃ = { s₂ with heap := h₁, toks := s₂.toks + ([] : List (Str × Value)).length } →
      codeAny (model W.prog W.w) A (.compLoop (.ListComp elt [⟨.Name x px, iter, ifs, 0⟩] scope pos) 0 (.ref I) (.ref s₂.heap.objs.size) (compEnvC scope cl H2.objs.size env))
        (RR (.ref s₂.heap.objs.size) H2.objs.size) s₃ := by
    rintro s₃ rfl
    refine codeAny_compLoop_tests (fun q s' => ∃ h' tk i ys m m', s' = { s₂ with heap := h', toks := tk } ∧ i ≤ n ∧ q = n + 1 - i ∧ St i h' ∧ h'.Ns H2.objs.size m' ∧ h'.get? s₂.heap.objs.size = some (lstO ys m) ∧ RdA (s₂.heap.objs.size :: X) h' ys (picked i b g) ∧
      (∀ b o, b ≠ I → s₂.heap.get? b = some o → h'.get? b = some o)) ?_ (n + 1) ⟨h₁, _, 0, [], 0, _, rfl, Nat.zero_le _, rfl, hst₁, hns₁, hacc, .nil, fun b o _ e => old b o e⟩
    rintro q s' ⟨h', tk, i, ys, mm, m', rfl, hi, rfl, hst', hn', hD', hys, hk'⟩
    have lh' : Le h h' := fun b o e => hk' b o (fun z => by rw [z, hhI] at e; cases e) (l₂ b o e)
    obtain ⟨oI, heI, hnI⟩ := hIs _ _ hst'
    by_cases hlt : i < n
    · refine Wk.item i _ _ _ hlt hst' fun v h₂ tk₂ hPv hst₂ hk₂ => ?_
      have hk₂' : ∀ b o, b ≠ I → h'.get? b = some o → h₂.get? b = some o := fun b o hb e => hk₂ b o (by simpa using hb) e
      refine wpAny_assign_Name (wpAny_storeName_local (lookup_relabel_local hx) (hn'.at' fun o e => hk₂' _ o (Ne.symm hIC) e) (fun h₃ hn₃ hs₃ => ?_) (by simp [compEnvC, relabel, hkind]))
      have k3 : ∀ b o, b ≠ I → s₂.heap.get? b = some o → h₃.get? b = some o := fun b o hb e => hs₃.extBut b o (fun z => by
        have z' : b = H2.objs.size := z
        rw [z', hC₀] at e; cases e) (hk₂' b o hb (hk' b o hb e))
      have lh₃ : Le h h₃ := fun b o e => k3 b o (fun z => by rw [z, hhI] at e; cases e) (l₂ b o e)
      have hst₃ : St (i + 1) h₃ := Wk.frame _ _ _ hst₂ fun b hb o e => hs₃.extBut b o (fun z => hCf (by have z' : b = H2.objs.size := z; rw [← z']; exact hb)) e
      have hD₃ : h₃.get? s₂.heap.objs.size = some (lstO ys mm) := hs₃.extBut _ _ hDC (hk₂' _ _ (Ne.symm hID) hD')
      have hys₃ : RdA (s₂.heap.objs.size :: X) h₃ ys (picked i b g) := hys.move fun b o e sq hx => ⟨hs₃.extBut b o (fun z => by
          have z' : b = H2.objs.size := z
          rw [z'] at e
          exact ns_notSq hn' _ e sq) (hk₂' b o (fun z => hnI (by rw [z, heI] at e; cases e; exact sq)) e), hx⟩
      have rdv : Rd X h₃ v (it i) := hit i v h₃ hlt hPv k3
      obtain ⟨cx₃, vx₃⟩ := hoC lh₃ hn₃ (by simp : (if x = x then some v else m' x) = some v)
      refine tests i _ v _ _ _ hlt lh₃ cx₃ vx₃ rdv fun s₄ g₄ => ?_
      obtain ⟨⟨h₄, tk₄, rfl⟩, le₄⟩ := g₄
      have hst₄ : St (i + 1) h₄ := Wk.frame _ _ _ hst₃ fun b _ o e => le₄ b o e
      cases hb : b i with
      | false =>
        simp only [Bool.false_eq_true, if_false]
        refine ⟨n + 1 - (i + 1), by omega, h₄, tk₄, i + 1, ys, mm, _, rfl, hlt, rfl, hst₄, hn₃.keeps le₄, le₄ _ _ hD₃, ?_, fun b o hb e => le₄ b o (k3 b o hb e)⟩
        rw [picked_succ, hb]; simpa using hys₃.le le₄
      | true =>
        simp only [if_true]
        have cx₄ : Cx W k A h₀ L (compEnvC scope cl H2.objs.size env) (s₂.heap.objs.size :: X) h₄ := ⟨(cx₃.le le₄).cn, hkind, c.eg, c.eb, fun a ha => (List.mem_cons.mp ha).elim (fun e => ⟨_, e ▸ le₄ _ _ hD₃⟩) ((cx₃.le le₄).xs a)⟩
        refine helt i _ s₂.heap.objs.size v h₄ hlt hb (lh₃.trans le₄) ?_ cx₄ (vx₃.le le₄) (rdv.le le₄) _ _ _ (Le.refl _) fun y s₅ g₅ r₅ => ?_
        · cases e : h.get? s₂.heap.objs.size with
          | none => rfl
          | some o => exact absurd (Heap.lt_size (l₂ _ _ e)) (Nat.lt_irrefl _)
        obtain ⟨⟨h₅, tk₅, rfl⟩, le₅⟩ := g₅
        have hD₅ := le₅ _ _ (le₄ _ _ hD₃)
        have hys₅ := (hys₃.le le₄).le le₅
        refine append_at hD₅ (fun h₆ hs₆ hD₆ => ?_) (by rw [List.size_toArray, hys.length]; exact Nat.le_trans picked_len (Nat.le_trans hi hn))
        have mv6 : ∀ {v d}, Rd (s₂.heap.objs.size :: X) h₅ v d → Rd (s₂.heap.objs.size :: X) h₆ v d := fun r => r.move fun b o e sq hx => ⟨hs₆.extBut b o (fun z => hx (z ▸ .head _)) e, hx⟩
        have mv6A : ∀ {v d}, RdA (s₂.heap.objs.size :: X) h₅ v d → RdA (s₂.heap.objs.size :: X) h₆ v d := fun r => r.move fun b o e sq hx => ⟨hs₆.extBut b o (fun z => hx (z ▸ .head _)) e, hx⟩
        have e2 : h₆.get? s₂.heap.objs.size = some (lstO (ys ++ [y]) (mm + 1)) := by rw [hD₆, List.push_toArray]
        refine ⟨n + 1 - (i + 1), by omega, h₆, tk₅, i + 1, ys ++ [y], mm + 1, _, rfl, hlt, rfl, ?_, ((hn₃.keeps le₄).keeps le₅).sameBut hs₆ (Ne.symm hDC), e2, ?_, fun b o hb e => hs₆.extBut b o (fun z => by rw [z, hD₀] at e; cases e) (le₅ b o (le₄ b o (k3 b o hb e)))⟩
        · exact Wk.frame _ _ _ hst₄ fun b hb o e => hs₆.extBut b o (fun z => hDf (z ▸ hb)) (le₅ b o e)
        · rw [picked_succ, hb]
          exact (mv6A hys₅).append (.cons (mv6 r₅) .nil)
    · obtain rfl : i = n := by omega
      refine Wk.done _ _ _ hst' fun h₂ tk₂ hk₂ => ?_
      have hk₂' : ∀ b o, b ≠ I → h'.get? b = some o → h₂.get? b = some o := fun b o hb e => hk₂ b o (by simpa using hb) e
      have nC : ∀ {g : Heap} {m : Str → Option Value}, g.Ns H2.objs.size m → ∀ o, g.get? H2.objs.size = some o → ¬ IsSq o := fun hm => ns_notSq hm
      have hn₂ : h₂.Ns H2.objs.size m' := hn'.at' fun o e => hk₂' _ o (Ne.symm hIC) e
      have lk : ∀ b o, b ≠ I → s₂.heap.get? b = some o → h₂.get? b = some o := fun b o hb e => hk₂' b o hb (hk' b o hb e)
      have les : Le s.heap h₂ := fun b o e => lk b o (fun z => by rw [z, hIn] at e; cases e) (g₂.le b o e)
      have hys₃ : RdA (s₂.heap.objs.size :: X) h₂ ys (picked i b g) := hys.move fun b o e sq hx => ⟨hk₂' b o (fun z => hnI (by rw [z, heI] at e; cases e; exact sq)) e, hx⟩
      have nos : ∀ b, s₂.heap.get? b = none → s.heap.get? b = none := fun b hb => by
        cases q : s.heap.get? b with
        | none => rfl
        | some o => rw [g₂.le b o q] at hb; cases hb
      exact fin s₂.heap.objs.size H2.objs.size ys mm m' _ (g₂.same.elim fun hh q => q.elim fun tt e => ⟨⟨h₂, tk₂, by rw [e]⟩, les⟩) (nos _ hD₀) (nos _ hC₀) (Ne.symm hDC) hn₂ (hk₂' _ _ (Ne.symm hID) hD') hDX hys₃
  exact codeAny_compStart_list (loop _ rfl) (Wk.self 0 _ _ _ hst₁ (loop _ rfl))

/-- a list comprehension of one clause: a new list -/
theorem evf_comp {elt iter : Expr} {x : Str} {px pos : Pos} {ifs : List Expr} {scope : Scope} {cl : List (Str × Addr)} {n : Nat} {it : Nat → V} (b : Nat → Bool) (g : Nat → V) (c : Cx W k A h₀ L env X h)
    (hclos : closureFor scope env = pure cl) (hcell : ∀ y ∈ scope.names, y.2 ≠ .cell) (hkind : scope.kind = .function) (hnames : ∀ y ∈ scope.names, y.2 = .local → scope.names.lookup y.1 = some .local) (hx : scope.names.lookup x = some .local)
    (hsrc : Src W A env X h iter n it) (hn : n ≤ sizeLine)
    (tests : ∀ i C v s E (Q : Bool → Shared → Prop), i < n → Le h s.heap → Cx W k A h₀ L (compEnvC scope cl C env) X s.heap → Var (compEnvC scope cl C env) s.heap x v → Rd X s.heap v (it i) → (∀ s', Gw s s' → Q (b i) s') →
      wpAny (model W.prog W.w) A (forIn ifs true fun c r => if r = true then do let ok ← isTrue c (compEnvC scope cl C env) (eval c (compEnvC scope cl C env)); pure (ForInStep.yield ok) else pure (ForInStep.yield r)) Q E s)
    (helt : ∀ i C D v h', i < n → b i = true → Le h h' → h.get? D = none → Cx W k A h₀ L (compEnvC scope cl C env) (D :: X) h' → Var (compEnvC scope cl C env) h' x v → Rd X h' v (it i) → Ev W A (compEnvC scope cl C env) (D :: X) h' elt (g i))
    (hs : ∀ x, foldedSetIterable iter env x = pure x := by intro _; rfl) : EvF W A env X h (.ListComp elt [⟨.Name x px, iter, ifs, 0⟩] scope pos) (picked n b g) := fun s Q E l f => by
  rw [eval_ListComp]
  refine wpAny_comprehension_free (use := none) rfl hs hclos hkind hnames (comp_gen b g c hclos hcell hkind hnames hx hsrc hn tests helt (fun acc C => compPost (model W.prog W.w) A E none Q acc C) l fun D C ys mm m' s' gw hD hC hCD hn' eD hDX rr => ?_)
  refine ⟨m', hn', fun h₃ hs₃ => ?_⟩
  have mvA : RdA (D :: X) h₃ ys (picked n b g) := rr.move fun b o e sq hx => ⟨hs₃.extBut b o (fun z => by rw [z] at e; exact ns_notSq hn' _ e sq) e, hx⟩
  have les : Le s.heap h₃ := fun b o e => hs₃.extBut b o (fun z => by rw [z, hC] at e; cases e) (gw.le b o e)
  exact f D ys mm _ (gw.same.elim fun hh q => q.elim fun tt e => ⟨⟨h₃, tt, by rw [e]⟩, les⟩) hD (hs₃.extBut _ _ (Ne.symm hCD) eD) hDX (mvA.sub fun a ha => .tail _ ha) mvA

/-- the items are plain: nothing to mind -/
theorem evf_compF {elt iter : Expr} {x : Str} {px pos : Pos} {ifs : List Expr} {scope : Scope} {cl : List (Str × Addr)} {n : Nat} {it : Nat → V} (b : Nat → Bool) (g : Nat → V) (c : Cx W k A h₀ L env X h)
    (hclos : closureFor scope env = pure cl) (hcell : ∀ y ∈ scope.names, y.2 ≠ .cell) (hkind : scope.kind = .function) (hnames : ∀ y ∈ scope.names, y.2 = .local → scope.names.lookup y.1 = some .local) (hx : scope.names.lookup x = some .local)
    (hsrc : Src W A env X h iter n it) (hn : n ≤ sizeLine)
    (tests : ∀ i C v s E (Q : Bool → Shared → Prop), i < n → Le h s.heap → Cx W k A h₀ L (compEnvC scope cl C env) X s.heap → Var (compEnvC scope cl C env) s.heap x v → Rd X s.heap v (it i) → (∀ s', Gw s s' → Q (b i) s') →
      wpAny (model W.prog W.w) A (forIn ifs true fun c r => if r = true then do let ok ← isTrue c (compEnvC scope cl C env) (eval c (compEnvC scope cl C env)); pure (ForInStep.yield ok) else pure (ForInStep.yield r)) Q E s)
    (helt : ∀ i C v h', i < n → b i = true → Le h h' → Cx W k A h₀ L (compEnvC scope cl C env) X h' → Var (compEnvC scope cl C env) h' x v → Rd X h' v (it i) → Ev W A (compEnvC scope cl C env) X h' elt (g i))
    (hg : ∀ i, i < n → (g i).flat = true)
    (hs : ∀ x, foldedSetIterable iter env x = pure x := by intro _; rfl) : EvF W A env X h (.ListComp elt [⟨.Name x px, iter, ifs, 0⟩] scope pos) (picked n b g) :=
  evf_comp b g c hclos hcell hkind hnames hx hsrc hn tests (fun i C D v h' hi hb l _ cx vx r => (helt i C v h' hi hb l (cx.sub fun a ha => .tail _ ha) vx r).flat (hg i hi)) hs
end
end Mine
namespace Mine
open PySem PySem.Calls PySem.Spec PyProof.Rows

section
variable {B : Bd} {μ : Mu} {ρ : Rho} {Kp : Addr → Obj → Prop} {γ : List (Value × V)} {s : Shared}
theorem ev_rho {x : Str} {pos : Pos} {d : V} (y : Sat B Kp γ μ ρ s) (h : ρ.lookup x = some d) (hd : (x == ("__debug__" : Str)) = false := by decide) : Ev B.W B.A B.env (μ.at ++ B.X₀) s.heap (.Name x pos) d := by
  obtain ⟨v, h1, h2⟩ := y.vars x d h
  exact ev_var y.cx h1 h2 hd
theorem ev_nm {x : Str} {pos : Pos} {d : V} (y : Sat B Kp γ μ ρ s) (h : ρ.lookup x = some d) (hd : (x == ("__debug__" : Str)) = false := by decide) : Ev B.W B.A B.env [] s.heap (.Name x pos) d := (ev_rho y h hd).sub fun _ h => (nomatch h)
/-- a list that may turn, read -/
theorem ev_mu {x : Str} {pos : Pos} {a : Addr} {ds : List V} (y : Sat B Kp γ μ ρ s) (h : (x, a, ds) ∈ μ) (hd : (x == ("__debug__" : Str)) = false := by decide) : Ev B.W B.A B.env B.X₀ s.heap (.Name x pos) (.lst ds) := by
  obtain ⟨h1, h2, vs, n, h3, h4⟩ := y.muts _ h
  exact ev_var (y.cx.sub fun a ha => List.mem_append.mpr (.inr ha)) h1 (.lst h3 h2 (h4.sub fun a ha => List.mem_append.mpr (.inr ha))) hd
theorem ev_mu0 {x : Str} {pos : Pos} {a : Addr} {ds : List V} (y : Sat B Kp γ μ ρ s) (h : (x, a, ds) ∈ μ) (hd : (x == ("__debug__" : Str)) = false := by decide) : Ev B.W B.A B.env [] s.heap (.Name x pos) (.lst ds) := (ev_mu y h hd).sub fun _ h => (nomatch h)
theorem ev_rho0 {x : Str} {pos : Pos} {d : V} (y : Sat B Kp γ μ ρ s) (h : ρ.lookup x = some d) (hd : (x == ("__debug__" : Str)) = false := by decide) : Ev B.W B.A B.env B.X₀ s.heap (.Name x pos) d :=
  (ev_rho y h hd).sub fun a ha => List.mem_append.mpr (.inr ha)
/-- fewer names known -/
theorem Tri.weak {body : List Stmt} {Post : Fl → Mu → Rho → Prop} {ρ' : Rho} (x : Tri B μ ρ' body Post) (h : ∀ z d, ρ'.lookup z = some d → ρ.lookup z = some d) : Tri B μ ρ body Post := fun Kp γ s E y => x Kp γ s E (y.forget h)
end

/-- each name of the one is so known in the other -/
def Sub : Rho → Rho → Prop
  | [], _ => True
  | q :: r, ρ => ρ.lookup q.1 = some q.2 ∧ Sub r ρ
theorem Sub.look : ∀ {ρ' ρ : Rho}, Sub ρ' ρ → ∀ z d, ρ'.lookup z = some d → ρ.lookup z = some d
  | [], _, _, z, d, h => by cases h
  | q :: r, ρ, ⟨h1, h2⟩, z, d, h => by
    obtain ⟨x, e⟩ := q
    rcases lookup_put h with ⟨rfl, rfl⟩ | ⟨_, h⟩
    · exact h1
    · exact Sub.look h2 z d h
theorem tri_end {B : Bd} {μ : Mu} {ρ ρ' : Rho} {Post : Fl → Mu → Rho → Prop} (hs : Sub ρ' ρ) (h : Post .next μ ρ') : Tri B μ ρ [] Post := Tri.weak (tri_nil h) hs.look

def fnBody : Stmt → List Stmt
  | .FunctionDef _ _ b .. => b
  | _ => []
def fnArgs : Stmt → Arguments
  | .FunctionDef _ a .. => a
  | _ => ⟨[], [], none, [], [], none, []⟩
def fnScope : Stmt → Scope
  | .FunctionDef _ _ _ _ _ _ sc .. => sc
  | _ => default
abbrev fdOf (name : Str) (st : Stmt) (doc pm : Value) (an : Option Addr) (cdv ct : Value) : FuncData :=
  { name, qualname := name, params := fnArgs st, body := .stmts (fnBody st), scope := fnScope st, globals := mainGlobals, closure := [], defaults := .none, kwdefaults := .none, doc, pyModule := pm, annotations := an, code := cdv, closureTuple := ct, builtins := builtinsNs }

/-- the built-in names that the programs draw on -/
structure Std (W : Wd) : Prop where
  len : W.mg "len" = none ∧ W.mb "len" = some (.builtin "len")
  abs : W.mg "abs" = none ∧ W.mb "abs" = some (.builtin "abs")
  range : W.mg "range" = none ∧ W.mb "range" = some (.type "range")
  type : W.mg "type" = none ∧ W.mb "type" = some (.type "type")
  list : W.mg "list" = none ∧ W.mb "list" = some (.type "list")
  int : W.mg "int" = none ∧ W.mb "int" = some (.type "int")
  bool : W.mg "bool" = none ∧ W.mb "bool" = some (.type "bool")
end Mine
namespace Mine
open PySem PySem.Calls PySem.Spec PyProof.Rows
theorem fnc_def {W : Wd} {k : Nat} {f : Addr} {name : Str} {st : Stmt} {doc pm cdv ct : Value} {an : Option Addr} {ps : List Str} {args : List V} {d : V} (hd : W.defs f (fdOf name st doc pm an cdv ct))
    (hbind : ∀ vs, vs.length = ps.length → bindArgs (fdOf name st doc pm an cdv ct) ⟨vs, []⟩ = pure (ps.zip vs)) (hps : ps.Nodup) (hlen : args.length = ps.length)
    (hkind : ∀ n, ∀ x ∈ ps, (fnScope st).names.lookup x = some .local ∨ ((fnScope st).names.lookup x = some .cell ∧ ((cellsFrom n (fnScope st).names []).lookup x).isSome = true))
    (hnd : ((cellsFrom 0 (fnScope st).names []).map (·.1)).Nodup) (hco : (fnScope st).isCoroutine = false) (hgen : (fnScope st).isGenerator = false) (hk : (fnScope st).kind = .function)
    (h : ∀ A h₀ L X₀ s₀, Tri ⟨W, k, A, h₀, callEnvC (fdOf name st doc pm an cdv ct) L f, X₀, s₀⟩ [] (ps.zip args) (fnBody st) fun fl _ _ => fl = .ret d ∨ (fl = .next ∧ d = .none)) : FnC W (k + 1) f args d :=
  fnc_of hd rfl rfl rfl rfl hbind hps hlen hkind hnd hco hgen hk (by
    rintro ⟨W', k', A, h₀, env, X₀, s₀⟩ rfl rfl ⟨L, rfl⟩
    exact h A h₀ L X₀ s₀)
end Mine
namespace Mine
open PySem PySem.Calls PySem.Spec PyProof.Rows
/-- a name of the function's, drawn upon in a comprehension -/
theorem ev_free {B : Bd} {μ : Mu} {ρ : Rho} {Kp : Addr → Obj → Prop} {γ : List (Value × V)} {s : Shared} {X : List Addr} {h' : Heap} {scope : Scope} {cl : List (Str × Addr)} {C : Addr} {x : Str} {pos : Pos} {d : V} {X' : List Addr} {k' : Nat} {h₀' : Heap} {L' : Addr} (y : Sat B Kp γ μ ρ s) (l : Le s.heap h')
    (cx : Cx B.W k' B.A h₀' L' (compEnvC scope cl C B.env) X' h') (hl : ρ.lookup x = some d) (hX : ∀ a ∈ X, a ∈ μ.at ++ B.X₀) (hk : (compEnvC scope cl C B.env).kindOf x = some .cell := by rfl) (hc : B.env.kindOf x = some .cell := by rfl) (hcl : cl.lookup x = B.env.cells.lookup x := by rfl)
    (hd : (x == ("__debug__" : Str)) = false := by decide) : Ev B.W B.A (compEnvC scope cl C B.env) X h' (.Name x pos) d := by
  obtain ⟨v, h1, h2⟩ := y.vars x d hl
  exact ev_var (X := X) ⟨cx.cn, cx.ek, cx.eg, cx.eb, fun a ha => let ⟨o, e⟩ := y.cx.xs a (hX a ha); ⟨o, l _ _ e⟩⟩ (var_free (h1.le l) hk hc hcl) ((h2.le l).sub hX) hd
theorem ev_own {W : Wd} {k : Nat} {A : Around} {h₀ : Heap} {L : Addr} {env : Env} {X : List Addr} {h : Heap} {x : Str} {pos : Pos} {v : Value} {d : V} (c : Cx W k A h₀ L env X h) (hv : Var env h x v) (hr : Rd X h v d) (hd : (x == ("__debug__" : Str)) = false := by decide) : Ev W A env [] h (.Name x pos) d :=
  (ev_var c hv hr hd).sub fun _ h => (nomatch h)
theorem no_tests {W : Wd} {A : Around} {env : Env} {s : Shared} {Q : Bool → Shared → Prop} {E : Value → Shared → Prop} (f : ∀ s', Gw s s' → Q true s') :
    wpAny (model W.prog W.w) A (forIn ([] : List Expr) true fun c r => if r = true then do let ok ← isTrue c env (eval c env); pure (ForInStep.yield ok) else pure (ForInStep.yield r)) Q E s := wpAny_tests_nil (f s (Gw.refl s))
theorem one_test {W : Wd} {A : Around} {env : Env} {s : Shared} {Q : Bool → Shared → Prop} {E : Value → Shared → Prop} {c : Expr} {b : Bool} (hb : Bt W A env s.heap c b) (f : ∀ s', Gw s s' → Q b s') :
    wpAny (model W.prog W.w) A (forIn [c] true fun c r => if r = true then do let ok ← isTrue c env (eval c env); pure (ForInStep.yield ok) else pure (ForInStep.yield r)) Q E s := wpAny_tests_one (hb s _ _ (Le.refl _) f)
theorem picked_all {n : Nat} {g : Nat → V} : picked n (fun _ => true) g = (List.range n).map g := by unfold picked; rw [List.filter_eq_self.mpr (fun _ _ => rfl)]
end Mine
namespace Mine
open PySem PySem.Calls PySem.Spec PyProof.Rows PySem.W

theorem rd_script {P : Params} {h : Heap} {a : Addr} {ns : List Int} (w : Well P h (.ref a) (ofPy (PyData.list (ns.map PyData.int)))) : Rd [] h (.ref a) (.lst (ns.map .int)) := by
  have all : ∀ (ns : List Int) (vs : List Value), WellAll P h vs (ns.map fun i => WData.int i) → RdA [] h vs (ns.map .int) := by
    intro ns
    induction ns with
    | nil => intro vs x; cases x; exact .nil
    | cons n r ih =>
      intro vs x
      cases x with
      | cons p q => cases p; exact .cons (.int _ _) (ih _ q)
  have e : ofPy (PyData.list (ns.map PyData.int)) = .list (ns.map fun i => WData.int i) := by
    have : ∀ ns : List Int, ofPys (ns.map PyData.int) = ns.map fun i => WData.int i := by
      intro ns
      induction ns with
      | nil => rfl
      | cons n r ih => simp only [List.map_cons, ofPys, ofPy, ih]
    simp only [ofPy, this]
  rw [e] at w
  cases w with
  | list e r => exact .lst e (fun h => (nomatch h)) (all _ _ r)

theorem top_call {W : Wd} {k : Nat} {f a : Addr} {name : Str} {st : Stmt} {doc pm cdv ct : Value} {an : Option Addr} {s : Shared} {ns : List Int} {R : Result → Shared → Prop} {o : Obj} {d : V} (gr : Gr W s.heap) (hk : k < 100) (ho : s.heap.get? f = some o) (hdat : o.data = .func (fdOf name st doc pm an cdv ct)) (hcd : s.heap.CodeRec cdv name)
    (rs : Rd [] s.heap (.ref a) (.lst (ns.map .int)))
    (hbind : ∀ vs, vs.length = 1 → bindArgs (fdOf name st doc pm an cdv ct) ⟨vs, []⟩ = pure ((["script"] : List Str).zip vs))
    (hkind : ∀ n, (fnScope st).names.lookup ("script" : Str) = some .local ∨ ((fnScope st).names.lookup ("script" : Str) = some .cell ∧ ((cellsFrom n (fnScope st).names []).lookup ("script" : Str)).isSome = true))
    (hnd : ((cellsFrom 0 (fnScope st).names []).map (·.1)).Nodup) (hco : (fnScope st).isCoroutine = false) (hgen : (fnScope st).isGenerator = false) (hk2 : (fnScope st).kind = .function)
    (h : ∀ A h₀ L X₀ s₀, A.frames = some [callEnvC (fdOf name st doc pm an cdv ct) L f] → Tri ⟨W, k, A, h₀, callEnvC (fdOf name st doc pm an cdv ct) L f, X₀, s₀⟩ [] [(("script" : Str), .lst (ns.map .int))] (fnBody st) fun fl _ _ => fl = .ret d)
    (hR : ∀ v s', Gw s s' → Rd [] s'.heap v d → R (.ok (.ret v)) s') : codeAny (model W.prog W.w) callerA (.call (.ref f) ⟨[.ref a], []⟩) R s := by
  refine call_core (k := k) (fd := fdOf name st doc pm an cdv ct) (ps := ["script"]) (args := [.lst (ns.map .int)]) (X := []) gr (below_caller _) rfl ?_ ?_ ho hdat hcd (fun _ h => (nomatch h)) (.cons rs .nil) rfl rfl rfl rfl hbind (by decide) rfl ?_ hnd hco hgen hk2 ?_
  · rw [show callerA.depth = 301 from rfl]; unfold recursionLimit; omega
  · rw [show callerA.units = 4 from rfl, show cLine = 9900 from rfl]; omega
  · intro n x hx
    rw [List.mem_singleton.mp hx]
    exact hkind n
  · rintro ⟨W', k', A, h₀, env, X₀, s₀⟩ s₁ hW hk' ⟨L, hL⟩ hA hh hX hs sat
    dsimp only at hW hk' hL hA hh hX hs
    subst hW hk' hL hA hh hX hs
    refine wpAny_mono (h _ _ L _ _ rfl _ _ s₁ _ sat) (fun fl s' ou => ?_) fun _ _ e => e
    obtain ⟨fd', μ', ρ', fi, y, po⟩ := ou
    subst po
    have gw : Gw _ s' := ⟨y.same, fun a o e => (y.kp a o e).1⟩
    cases fl <;> first | exact fi.elim | exact hR _ s' gw fi

def HasDef (W : Wd) (name : Str) (s : Stmt) : Prop := ∃ f doc pm an cdv ct, W.defs f (fdOf name s doc pm an cdv ct) ∧ W.mg name = some (.ref f)
abbrev Kdefs (K : Frag) : Addr → FuncData → Prop := fun f fd => ∃ o, K.lookup f = some o ∧ o.data = .func fd ∧ codeIn K fd.code fd.qualname = true
theorem hasDef_of {K : Frag} {h : Heap} {prog : Program} {w : World} {mg mb : Str → Option Value} {name : Str} {st : Stmt} {f : Addr} {o : Obj} {doc pm cdv ct : Value} {an : Option Addr} (X : K.In h) (G : h.Ns mainGlobals mg) (e : nsIn K mainGlobals name = some (some (.ref f))) (l : K.lookup f = some o)
    (d : o.data = .func (fdOf name st doc pm an cdv ct)) (c : codeIn K cdv name = true) : HasDef ⟨prog, w, mg, mb, Kdefs K, h⟩ name st := ⟨f, doc, pm, an, cdv, ct, ⟨o, l, d, c⟩, mg_of X G e⟩
theorem gr_of {K : Frag} {h : Heap} {prog : Program} {w : World} {p : Program} {loose : List Str} {mean : ExcName → Option Value} {mg mb : Str → Option Value} (X : K.In h) (T : Top p loose mean mg mb h) : Gr ⟨prog, w, mg, mb, Kdefs K, h⟩ h :=
  ⟨T.g, T.b, T.nolimit, fun f fd ⟨o, h1, h2, h3⟩ => ⟨o, X _ _ h1, h2, codeRec_of X h3⟩, Le.refl _⟩
theorem built_of {K : Frag} {h : Heap} {p : Program} {loose : List Str} {mean : ExcName → Option Value} {mg mb : Str → Option Value} {x : Str} {v : Value} (X : K.In h) (T : Top p loose mean mg mb h) (e : nsIn K mainGlobals x = some none) (hb : bootBuiltins x = some v) (hx : x ≠ "__name__" := by decide) : mg x = none ∧ mb x = some v :=
  ⟨mg_none_of X T.g e, (T.builtins x hx).trans hb⟩
theorem std_of {K : Frag} {h : Heap} {prog : Program} {w : World} {p : Program} {loose : List Str} {mean : ExcName → Option Value} {mg mb : Str → Option Value} (X : K.In h) (T : Top p loose mean mg mb h) (h1 : nsIn K mainGlobals "len" = some none) (h2 : nsIn K mainGlobals "abs" = some none) (h3 : nsIn K mainGlobals "range" = some none)
    (h4 : nsIn K mainGlobals "type" = some none) (h5 : nsIn K mainGlobals "list" = some none) (h6 : nsIn K mainGlobals "int" = some none) (h7 : nsIn K mainGlobals "bool" = some none) : Std ⟨prog, w, mg, mb, Kdefs K, h⟩ :=
  ⟨built_of X T h1 boot_len, built_of X T h2 boot_abs, built_of X T h3 boot_range, built_of X T h4 PyProof.Rows.boot_type, built_of X T h5 PyProof.Rows.boot_list, built_of X T h6 PyProof.Rows.boot_int, built_of X T h7 PyProof.Rows.boot_bool⟩
end Mine
namespace Mine
open PySem PySem.Calls PySem.Spec PyProof.Rows

abbrev frs (l : List Env) : List Addr := l.filterMap (·.frame)
/-- the state has grown; the frames may have got their slots -/
structure Gx (fs : List Addr) (s s' : Shared) : Prop where
  same : ∃ h tk, s' = { s with heap := h, toks := tk }
  other : ∀ b o, s.heap.get? b = some o → b ∉ fs → s'.heap.get? b = some o
  up : s.heap.UpToSlots s'.heap
theorem Gw.gx {s s' : Shared} {fs : List Addr} (x : Gw s s') : Gx fs s s' := ⟨x.same, fun b o e _ => x.le b o e, Heap.UpToSlots.of_keeps x.le⟩
theorem Gx.trans {a b c : Shared} {fs : List Addr} (x : Gx fs a b) (y : Gx fs b c) : Gx fs a c := by
  obtain ⟨⟨h, t, rfl⟩, k, u⟩ := x
  obtain ⟨⟨h', t', rfl⟩, k', u'⟩ := y
  exact ⟨⟨h', t', rfl⟩, fun p o e n => k' p o (k p o e n) n, u.trans u'⟩

theorem gone_sub {h h' : Heap} {l : List Addr} (k : Le h h') : Le (TI.gone h l) (TI.gone h' l) := fun b o e => by
  obtain ⟨n, e⟩ := TI.gone_some e
  rw [TI.gone_get n]; exact k b o e
theorem gone_le {h : Heap} {l : List Addr} : Le (TI.gone h l) h := fun b o e => (TI.gone_some e).2
theorem ff_base {h base base' : Heap} : ∀ {l : List Env}, h.FunFrames base l → (∀ b ∈ frs l, base'.get? b = none) → h.FunFrames base' l
  | [], _, _ => trivial
  | env :: rest, ⟨hk, ⟨L, o, hf, hn, ho, hd⟩, hr⟩, k => by
    have hm : ∀ b ∈ frs rest, b ∈ frs (env :: rest) := fun b hb => by
      show b ∈ List.filterMap _ _
      rw [List.filterMap_cons, hf]; exact .tail _ hb
    refine ⟨hk, ⟨L, o, hf, k L ?_, ho, hd⟩, ff_base hr fun b hb => k b (hm b hb)⟩
    show L ∈ List.filterMap _ _
    rw [List.filterMap_cons, hf]; exact .head _
theorem fly_base {h base base' : Heap} {l : List Env} {e : Addr} {cls a0 : Value} (x : Heap.FlyingW base l e cls a0 h) (k : Le base' base) : Heap.FlyingW base' l e cls a0 h := by
  have no : ∀ b, base.get? b = none → base'.get? b = none := fun b hb => by
    cases q : base'.get? b with
    | none => rfl
    | some o => rw [k b o q] at hb; cases hb
  obtain ⟨f1, f2, f3, oe, vs, T, oT, ts, he, hcls, hd, h1, hnT, r⟩ := x
  refine ⟨fun b o e => f1 b o (k b o e), no _ f2, ff_base f3 fun b hb => no b (f3.mem hb).1, oe, vs, T, oT, ts, he, hcls, hd, h1, no _ hnT, r⟩
theorem fly_le {h h' base : Heap} {l : List Env} {e : Addr} {cls a0 : Value} (x : Heap.FlyingW base l e cls a0 h) (k : Le h h') : Heap.FlyingW base l e cls a0 h' := by
  obtain ⟨f1, f2, f3, oe, vs, T, oT, ts, he, hcls, hd, h1, hnT, hTe, hT, r⟩ := x
  exact ⟨fun b o e => k _ _ (f1 b o e), f2, f3.of_keeps fun b o e _ => ⟨o, k _ _ e, rfl⟩, oe, vs, T, oT, ts, k _ _ he, hcls, hd, h1, hnT, hTe, k _ _ hT, r⟩

/-- an exception is on its way, out to the frames l -/
def Fly (l : List Env) (cls : Value) (s : Shared) (e : Value) (s' : Shared) : Prop :=
  ∃ a a0, e = .ref a ∧ Gx (frs l) s s' ∧ Heap.FlyingW (TI.gone s.heap (frs l)) l a cls a0 s'.heap
theorem Fly.before {l : List Env} {cls : Value} {s₀ s : Shared} {e : Value} {s' : Shared} (g : Gw s₀ s) (x : Fly l cls s e s') : Fly l cls s₀ e s' := by
  obtain ⟨a, a0, rfl, gx, fl⟩ := x
  exact ⟨a, a0, rfl, g.gx.trans gx, fly_base fl (gone_sub g.le)⟩

/-- a call that raises -/
def FnX (W : Wd) (k : Nat) (f : Addr) (args : List V) (cls : Value) : Prop :=
  ∀ (A : Around) (h₀ : Heap) (L : Addr) (X : List Addr) (s : Shared) (vs : List Value) (l : List Env) (Q E : Value → Shared → Prop), Cn W k A h₀ L s.heap → A.frames = some l → (∀ a ∈ X, ∃ o, s.heap.get? a = some o) → RdA X s.heap vs args →
    (∀ e s', Fly l cls s e s' → E e s') → wpAny (model W.prog W.w) A (call (.ref f) vs) Q E s
def EvX (W : Wd) (A : Around) (env : Env) (h : Heap) (e : Expr) (cls : Value) : Prop :=
  ∀ (s : Shared) (l : List Env) (Q E : Value → Shared → Prop), Le h s.heap → A.frames = some l → (∀ e s', Fly l cls s e s' → E e s') → wpAny (model W.prog W.w) A (eval e env) Q E s

/-- what a body that raises leaves -/
inductive Rz (B : Bd) (cls : Value) (e : Value) (s' : Shared) : Prop
  | made (a : Addr) (h : Heap) (tk : Nat) (vs : List Value) : e = .ref a → s' = { B.s₀ with heap := s'.heap, toks := tk } → Cn B.W B.k B.A B.h₀ B.env.locals h → Heap.MadeExcOf h s'.heap a cls vs → Rz B cls e s'
  | on (s : Shared) : (∀ l, B.A.frames = some l → Fly l cls s e s') → (∃ h tk, s = { B.s₀ with heap := h, toks := tk }) → Cn B.W B.k B.A B.h₀ B.env.locals s.heap → Rz B cls e s'
def TriX (B : Bd) (μ : Mu) (ρ : Rho) (body : List Stmt) (cls : Value) : Prop :=
  ∀ Kp γ s Q E, Sat B Kp γ μ ρ s → (∀ e s', Rz B cls e s' → E e s') → wpAny (model B.W.prog B.W.w) B.A (execs body B.env) Q E s
def TrX1 (B : Bd) (μ : Mu) (ρ : Rho) (st : Stmt) (cls : Value) : Prop :=
  ∀ Kp γ s Q E, Sat B Kp γ μ ρ s → (∀ e s', Rz B cls e s' → E e s') → wpAny (model B.W.prog B.W.w) B.A (exec st B.env) Q E s

section
variable {B : Bd} {μ : Mu} {ρ : Rho} {cls : Value}
theorem trix_next {st : Stmt} {rest : List Stmt} (h : Tr1 B μ ρ st (fun f m r => match f with | .next => TriX B m r rest cls | _ => False)) : TriX B μ ρ (st :: rest) cls := fun Kp γ s Q E y hE => by
  refine wpAny_execs_cons (wpAny_mono (h Kp γ s E y) (fun fl s' o => ?_) fun _ _ e => e)
  obtain ⟨fd, m, r, a, b, c⟩ := o
  cases fl <;> cases fd <;> first | exact a.elim | exact c.elim | exact c Kp γ s' _ E b hE
theorem trix_here {st : Stmt} {rest : List Stmt} (h : TrX1 B μ ρ st cls) : TriX B μ ρ (st :: rest) cls := fun Kp γ s Q E y hE =>
  wpAny_execs_cons (h Kp γ s _ E y hE)
theorem trx_if {test : Expr} {body orelse : List Stmt} {pos : Pos} {b : Bool} (hb : Bs B μ ρ test b) (h : if b then TriX B μ ρ body cls else TriX B μ ρ orelse cls) : TrX1 B μ ρ (.If test body orelse pos) cls := fun Kp γ s Q E y hE => by
  refine wpAny_If (hb Kp γ s y s _ _ (Le.refl _) fun s' g => ?_)
  cases b with
  | true => exact h Kp γ s' Q E (y.gw g) hE
  | false => exact h Kp γ s' Q E (y.gw g) hE
theorem trx_assign {x : Str} {p pos : Pos} {e : Expr} (he : ∀ Kp γ s, Sat B Kp γ μ ρ s → EvX B.W B.A B.env s.heap e cls) (hs : swapsWith e (some (.Name x p)) pos.line B.env = pure false := by rfl) : TrX1 B μ ρ (.Assign [.Name x p] e pos) cls := fun Kp γ s Q E y hE => by
  obtain ⟨A₀, base, outer, fenv, bl, hfr, _⟩ := y.cn.bel
  exact wpAny_Assign_Name (he Kp γ s y s _ _ E (Le.refl _) hfr fun e s' fl => hE e s' (.on s (fun l hl => by rw [hfr] at hl; cases hl; exact fl) y.same y.cn)) hs
theorem trx_raiseB {c newId initId : String} (FC : ExcCallFacts c newId initId) (FR : ExcRaiseFacts c) {x : Str} {np cpos pos : Pos} {e₀ : Expr} {rest : List Expr} {ds : List V} {X : List Addr}
    (hx : ∀ Kp γ s, Sat B Kp γ μ ρ s → EvV B.W B.A B.env s.heap (.Name x np) (.type c)) (he : ∀ Kp γ s, Sat B Kp γ μ ρ s → EvA B.W B.A B.env X s.heap cpos (e₀ :: rest) ds) (hz : ds.length ≤ sizeLine)
    (hse : starEach (e₀ :: rest) B.env = (false, eval e₀ B.env) :: starEach rest B.env := by rfl) (hplain : (backTo cpos (starEach rest B.env)).any (·.1) = false := by rfl) :
    TrX1 B μ ρ (.Raise (some (.Call (.Name x np) (e₀ :: rest) [] cpos)) none pos) (.type c) := fun Kp γ s Q E y hE => by
  refine Raise_madeB FC FR y.cn.hand (hx Kp γ s y s _ _ (Le.refl _) fun s₁ g₁ => ⟨rfl, he Kp γ s y s₁ _ _ g₁.le fun vs s₂ g₂ r₂ => ⟨by rw [r₂.length]; exact hz, fun h' e m => ?_⟩⟩) hse hplain
  have g := g₁.trans g₂
  obtain ⟨h₂, t₂, e₂⟩ := (y.gw g).same
  exact hE _ _ (.made e s₂.heap t₂ vs rfl (by rw [e₂]) (y.cn.le g.le) m.of)
end

/-- from a body that raises to a call that raises -/
theorem fnx_of {W : Wd} {k : Nat} {f : Addr} {fd : FuncData} {body : List Stmt} {ps : List Str} {args : List V} {cls : Value} (hd : W.defs f fd) (hbody : fd.body = .stmts body) (hclo : fd.closure = []) (hgl : fd.globals = mainGlobals) (hbl : fd.builtins = builtinsNs)
    (hbind : ∀ vs, vs.length = ps.length → bindArgs fd ⟨vs, []⟩ = pure (ps.zip vs)) (hps : ps.Nodup) (hlen : args.length = ps.length)
    (hkind : ∀ n, ∀ x ∈ ps, fd.scope.names.lookup x = some .local ∨ (fd.scope.names.lookup x = some .cell ∧ ((cellsFrom n fd.scope.names []).lookup x).isSome = true))
    (hnd : ((cellsFrom 0 fd.scope.names []).map (·.1)).Nodup) (hco : fd.scope.isCoroutine = false) (hgen : fd.scope.isGenerator = false) (hk : fd.scope.kind = .function)
    (h : ∀ B : Bd, B.W = W → B.k = k → EnvIs fd f B.env → TriX B [] (ps.zip args) body cls) : FnX W (k + 1) f args cls := by
  intro A h₀ L X s vs l Q E cn hl hX ra hE
  have gr := cn.here
  obtain ⟨o, ho, hdat, hcd⟩ := gr.defs f fd hd
  obtain ⟨A₀, base, outer, fenv, bl, hfr, hfL, hfk⟩ := cn.bel
  rw [hl] at hfr
  obtain rfl : l = fenv :: outer := Option.some.inj hfr
  obtain ⟨m, hm⟩ := cn.ns
  have F : Fr h₀ L s.heap m := ⟨hm, cn.keep, cn.above⟩
  have hB1 : Below A base (fenv :: outer) s.heap := by
    have hnew : base.get? L = none := by
      cases hq : base.get? L with
      | none => rfl
      | some o => exact absurd (Nat.lt_of_lt_of_le (Heap.lt_size (bl.stays L o hq)) F.above) (Nat.lt_irrefl _)
    exact ⟨hl, fun b o e => F.keep b o (bl.stays b o e), .cons (by rw [hfk]; decide) hfL F.ns hnew (bl.frames.of_keeps fun b o e _ => ⟨o, F.keep b o e, rfl⟩)⟩
  refine wpAny_call (call_core gr hB1 cn.hand cn.room cn.units ho hdat hcd hX ra hbody hclo hgl hbl hbind hps hlen hkind hnd hco hgen hk ?_)
  rintro B s₁ rfl rfl he hA hh₀ rfl hs₀ sat
  have hBf : B.A.frames = some (B.env :: fenv :: outer) := by rw [hA]; exact Around.frames_deeper hl
  have hBe : B.env.frame = some B.env.locals := by obtain ⟨L', e⟩ := he.is; rw [e]; rfl
  have hBk : B.env.scope.kind = .function := by obtain ⟨L', e⟩ := he.is; rw [e]; exact hk
  have F0 : s.heap.FunFrames (TI.gone s.heap (frs (fenv :: outer))) (fenv :: outer) := ff_base hB1.frames fun b hb => TI.gone_none hb
  have no : ∀ b, s.heap.get? b = none → (TI.gone s.heap (frs (fenv :: outer))).get? b = none := fun b hb => by
    cases q : (TI.gone s.heap (frs (fenv :: outer))).get? b with
    | none => rfl
    | some o => rw [gone_le b o q] at hb; cases hb
  have Lnew : ∀ {h : Heap}, Cn B.W B.k B.A B.h₀ B.env.locals h → s.heap.get? B.env.locals = none := fun c => by
    cases q : s.heap.get? B.env.locals with
    | none => rfl
    | some o => exact absurd (Heap.lt_size q) (Nat.not_lt.mpr (hh₀ ▸ c.above))
  have FF : ∀ {h : Heap}, Cn B.W B.k B.A B.h₀ B.env.locals h → h.FunFrames (TI.gone s.heap (frs (fenv :: outer))) (B.env :: fenv :: outer) := fun {h} c => by
    obtain ⟨m, hm⟩ := c.ns
    exact .cons (by rw [hBk]; decide) hBe hm (no _ (Lnew c)) (F0.of_keeps fun b o e _ => ⟨o, c.keep b o (hh₀ ▸ e), rfl⟩)
  refine h B rfl rfl he _ _ s₁ _ _ sat fun e s' rz => ?_
  cases rz with
  | made a h' tk vs' e1 e2 c mx =>
    subst e1
    have L1 : Le s.heap h' := fun b o e => c.keep b o (hh₀ ▸ e)
    refine wpAny_leaves_madeW hBf hBe (fun b o e => L1 b o (gone_le b o e)) (FF c) mx fun h'' t fl _ _ up => hE _ _ ⟨a, _, rfl, ⟨?_, fun b o e n => ?_, ?_⟩, fl⟩
    · exact ⟨h'', tk, by rw [e2, hs₀]⟩
    · exact fl.1 b o ((TI.gone_get n).trans e)
    · exact (Heap.UpToSlots.of_keeps L1).trans ((Heap.UpToSlots.of_keeps mx.keeps).trans up)
  | on s₂ fl sm c =>
    obtain ⟨a, a0, rfl, gx, f2⟩ := fl _ hBf
    have L1 : Le s.heap s₂.heap := fun b o e => c.keep b o (hh₀ ▸ e)
    have lb : Le (TI.gone s.heap (frs (fenv :: outer))) (TI.gone s₂.heap (frs (B.env :: fenv :: outer))) := fun b o e => by
      obtain ⟨n, e⟩ := TI.gone_some e
      rw [TI.gone_get]
      · exact L1 b o e
      · intro hm
        have hm' : b ∈ List.filterMap (·.frame) (B.env :: fenv :: outer) := hm
        rw [List.filterMap_cons, hBe] at hm'
        rcases List.mem_cons.mp hm' with q | q
        · rw [q, Lnew c] at e; cases e
        · exact n q
    refine wpAny_leaves_onW hBf hBe (fly_base f2 lb) fun h'' fl' up => hE _ _ ⟨a, a0, rfl, ⟨?_, fun b o e n => ?_, ?_⟩, fl'⟩
    · obtain ⟨h1, t1, q1⟩ := sm
      obtain ⟨h2, t2, q2⟩ := gx.same
      exact ⟨h'', t2, by rw [q2, q1, hs₀]⟩
    · exact fl'.1 b o ((TI.gone_get n).trans e)
    · exact (Heap.UpToSlots.of_keeps L1).trans (gx.up.trans up)

theorem fnx_def {W : Wd} {k : Nat} {f : Addr} {name : Str} {st : Stmt} {doc pm cdv ct : Value} {an : Option Addr} {ps : List Str} {args : List V} {cls : Value} (hd : W.defs f (fdOf name st doc pm an cdv ct))
    (hbind : ∀ vs, vs.length = ps.length → bindArgs (fdOf name st doc pm an cdv ct) ⟨vs, []⟩ = pure (ps.zip vs)) (hps : ps.Nodup) (hlen : args.length = ps.length)
    (hkind : ∀ n, ∀ x ∈ ps, (fnScope st).names.lookup x = some .local ∨ ((fnScope st).names.lookup x = some .cell ∧ ((cellsFrom n (fnScope st).names []).lookup x).isSome = true))
    (hnd : ((cellsFrom 0 (fnScope st).names []).map (·.1)).Nodup) (hco : (fnScope st).isCoroutine = false) (hgen : (fnScope st).isGenerator = false) (hk : (fnScope st).kind = .function)
    (h : ∀ A h₀ L X₀ s₀, TriX ⟨W, k, A, h₀, callEnvC (fdOf name st doc pm an cdv ct) L f, X₀, s₀⟩ [] (ps.zip args) (fnBody st) cls) : FnX W (k + 1) f args cls :=
  fnx_of hd rfl rfl rfl rfl hbind hps hlen hkind hnd hco hgen hk (by
    rintro ⟨W', k', A, h₀, env, X₀, s₀⟩ rfl rfl ⟨L, rfl⟩
    exact h A h₀ L X₀ s₀)

section
variable {W : Wd} {k : Nat} {A : Around} {h₀ : Heap} {L : Addr} {env : Env} {X Y : List Addr} {h : Heap}
theorem evx_call {fn : Expr} {es : List Expr} {e : Expr} {pos : Pos} {f : Addr} {fd : FuncData} {ds : List V} {cls : Value} (c : Cx W k A h₀ L env X h) (hf : EvV W A env h fn (.ref f)) (ha : EvA W A env X h pos (e :: es) ds) (hd : W.defs f fd) (hc : FnX W k f ds cls)
    (hs : starEach (e :: es) env = (false, eval e env) :: starEach es env := by rfl)
    (he : eval (.Call fn (e :: es) [] pos) env = (do callWith pos (← eval fn env) [] (backTo pos (starEach (e :: es) env)) (backToKw pos (keywordEach [] env))) := by rfl) : EvX W A env h (.Call fn (e :: es) [] pos) cls := fun s l Q E le hl g => by
  obtain ⟨o, ho, hdat, hcd⟩ := c.cn.here.defs f fd hd
  refine Call_ (hf s _ _ le fun s₁ g₁ => callWith_def hdat (ha s₁ _ _ (le.trans g₁.le) fun vs s₂ g₂ r₂ => ?_) hs) he
  have l₂ : Le h s₂.heap := le.trans (g₁.le.trans g₂.le)
  exact ⟨l₂ _ _ ho, hc A h₀ L X s₂ vs l Q E (c.cn.le l₂) hl (c.le l₂).xs r₂ fun e s' fl => g e s' (fl.before (g₁.trans g₂))⟩
end

/-- the function's own frame has got its slots -/
theorem Sat.gx {B : Bd} {Kp γ μ ρ s s'} (x : Sat B Kp γ μ ρ s) (g : Gx [B.env.locals] s s') : Sat B Kp γ μ ρ s' := by
  obtain ⟨⟨h', tk, rfl⟩, oth, up⟩ := g
  have hk : ∀ b o, b ≠ B.env.locals → s.heap.get? b = some o → h'.get? b = some o := fun b o n e => oth b o e (by simpa using n)
  obtain ⟨m₀, hm₀⟩ := x.cn.ns
  have sq : ∀ b o, s.heap.get? b = some o → IsSq o → h'.get? b = some o := fun b o e q => hk b o (fun z => ns_notSq hm₀ o (z ▸ e) q) e
  have mv : ∀ {X v d}, Rd X s.heap v d → Rd X h' v d := fun r => r.move fun b o e q hx => ⟨sq b o e q, hx⟩
  have mvA : ∀ {X v d}, RdA X s.heap v d → RdA X h' v d := fun r => r.move fun b o e q hx => ⟨sq b o e q, hx⟩
  have vr : ∀ {y v}, Var B.env s.heap y v → Var B.env h' y v := by
    rintro y v (⟨p, m, q, r⟩ | ⟨p, c, q, r⟩)
    · exact .inl ⟨p, m, up.ns q, r⟩
    · obtain ⟨o, e, hd⟩ := r
      exact .inr ⟨p, c, q, o, hk c o (x.wf.cl _ _ (mem_of_lookup q)) e, hd⟩
  refine ⟨x.wf, ⟨x.cn.gr, x.cn.bel, x.cn.above, x.cn.hand, x.cn.room, x.cn.units, fun b o e => ?_, ⟨m₀, up.ns hm₀⟩⟩, ?_, x.h₀kp, fun b o e => ?_, fun y c hm => ?_, fun q hq => mv (x.gam q hq), fun z d hz => ?_, fun q hq => ?_, x.nd⟩
  · exact hk b o (x.kp b o (x.h₀kp b o e)).2.1 (x.cn.keep b o e)
  · obtain ⟨h, t, e⟩ := x.same
    exact ⟨h', tk, by rw [e]⟩
  · have k := x.kp b o e
    exact ⟨hk b o k.2.1 k.1, k.2⟩
  · obtain ⟨v, o, e, hd⟩ := x.cells y c hm
    exact ⟨v, o, hk c o (x.wf.cl y c hm) e, hd⟩
  · obtain ⟨v, h1, h2⟩ := x.vars z d hz
    exact ⟨v, vr h1, mv h2⟩
  · obtain ⟨h1, h2, vs, n, h3, h4⟩ := x.muts q hq
    exact ⟨vr h1, h2, vs, n, sq _ _ h3 ⟨_, _, rfl⟩, mvA h4⟩
end Mine
namespace Mine
open PySem PySem.Calls PySem.Spec PyProof.Rows

section
variable {B : Bd} {μ : Mu} {ρ : Rho} {Post : Fl → Mu → Rho → Prop} {cls : Value}
/-- a try whose body does not raise -/
theorem tri_tryN {body : List Stmt} {h₀ : ExceptHandler} {hs : List ExceptHandler} {pos : Pos} (h : Tri B μ ρ body Post) : Tr1 B μ ρ (.Try body (h₀ :: hs) [] [] pos) Post := fun Kp γ s E y => by
  refine wpAny_Try_except (wpAny_mono (h Kp γ s _ y) (fun fl s' o => ?_) fun _ _ e => e)
  cases fl <;> first | exact wpAny_execs_nil o | exact o

/-- the clauses of a try in the law's own frame -/
def HdX (B : Bd) (μ : Mu) (ρ : Rho) (hs : List ExceptHandler) (cls : Value) (Post : Fl → Mu → Rho → Prop) : Prop :=
  ∀ Kp γ s₀ s E a a0, Sat B Kp γ μ ρ s₀ → Gx [B.env.locals] s₀ s → Heap.FlyingW (TI.gone s₀.heap [B.env.locals]) [B.env] a cls a0 s.heap → wpAny (model B.W.prog B.W.w) B.A (handleBy (.ref a) B.env hs) (Out B Kp γ Post) E s

theorem fly_gx {B : Bd} {s₀ s : Shared} {h' : Heap} {a : Addr} {a0 : Value} {L : List Env} (g : Gx [B.env.locals] s₀ s) (st : (TI.gone s₀.heap [B.env.locals]).StaysIn h') (up : s.heap.UpToSlots h') : Gx [B.env.locals] s₀ { s with heap := h' } := by
  obtain ⟨⟨h1, t1, rfl⟩, o, u⟩ := g
  exact ⟨⟨h', t1, rfl⟩, fun b o' e n => st b o' ((TI.gone_get n).trans e), u.trans up⟩

theorem tri_tryX {x : Str} {p apos pos : Pos} {e : Expr} {h₀ : ExceptHandler} {hs : List ExceptHandler} (hfr : B.A.frames = some [B.env]) (hf : B.env.frame = some B.env.locals) (he : ∀ Kp γ s, Sat B Kp γ μ ρ s → EvX B.W B.A B.env s.heap e cls) (hh : HdX B μ ρ (h₀ :: hs) cls Post)
    (hsw : swapsWith e (some (.Name x p)) apos.line B.env = pure false := by rfl) : Tr1 B μ ρ (.Try [.Assign [.Name x p] e apos] (h₀ :: hs) [] [] pos) Post := fun Kp γ s E y => by
  have hfs : frs [B.env] = [B.env.locals] := by show List.filterMap _ _ = _; rw [List.filterMap_cons, hf]; rfl
  refine wpAny_Try_except (wpAny_execs_cons (wpAny_Assign_Name (he Kp γ s y s _ _ _ (Le.refl _) hfr fun e' s₁ fl => ?_) hsw))
  obtain ⟨a, a0, rfl, gx, fw⟩ := fl
  rw [hfs] at gx fw
  refine wpAny_looks_onW hfr hf fw fun h₁ held up => wpAny_landsW held fun h₂ fw' up' => ?_
  exact hh Kp γ s _ E a a0 y (fly_gx (L := []) (a := a) (a0 := a0) (fly_gx (L := []) (a := a) (a0 := a0) gx held.1 up) fw'.1 up') fw'

/-- a built-in class that does not match -/
theorem hd_missB {T : String} {t : Str} {pt pos : Pos} {b₀ : Stmt} {suite : List Stmt} {rest : List ExceptHandler} {X : String} (hg : B.W.mg t = none) (hb : B.W.mb t = some (.type T)) (h3 : subB X (.type T) = some false) (hr : HdX B μ ρ rest (.type X) Post)
    (hx : B.env.kindOf t = some .globalImplicit := by rfl) (hd : (t == ("__debug__" : Str)) = false := by decide) (h1 : subB T (.type "BaseException") = some true := by decide +kernel) (h2 : subB ((Manifest.find? T).elim "type" fun y => y.metatype) (.type "tuple") = some false := by decide +kernel) :
    HdX B μ ρ (.ExceptHandler (some (.Name t pt)) none (b₀ :: suite) pos :: rest) (.type X) Post := fun Kp γ s₀ s E a a0 y gx fw => by
  have y' := y.gx gx
  refine wpAny_handleBy_builtin (X := X) (T := T) (b := false) (isSubtype_of_subB h1) (isSubtype_of_subB h2) (isSubtype_of_subB h3) ?_
  refine Name_function_global y'.wf.ek hx (loadGlobal_builtin (by rw [y'.wf.eg]; exact y'.cn.here.g) hg (by rw [y'.wf.eb]; exact y'.cn.here.b) hb ⟨rfl, ?_, ?_⟩) hd
  · obtain ⟨ob, h1, h2⟩ := fw.there
    exact ⟨ob, h1, h2⟩
  · exact hr Kp γ s₀ s E a a0 y gx fw

theorem run_suite {M : Model} {a : Addr} {A : Around} {x : Str} {px apos : Pos} {c : Expr} {d : V} {Kp γ s₀ s} {a0 : Value} {E : Value → Shared → Prop} (y : Sat B Kp γ μ ρ s₀) (gx : Gx [B.env.locals] s₀ s) (fw : Heap.FlyingW (TI.gone s₀.heap [B.env.locals]) [B.env] a cls a0 s.heap)
    (hx : B.env.kindOf x = some .local ∨ (B.env.kindOf x = some .cell ∧ (B.env.cells.lookup x).isSome = true)) (hc : ∀ (s : Shared) (Q E : Value → Shared → Prop), (∀ v s', Gw s s' → Rd (μ.at ++ B.X₀) s'.heap v d → Q v s') → wpAny M A (eval c B.env) Q E s)
    (h : Post .next μ ((x, d) :: ρ)) (hn : μ.names.contains x = false) (hs : swapsWith c (some (.Name x px)) apos.line B.env = pure false) :
    wpAny M A (setFlight (.ref a) none) (fun _ s₂ => wpAny M A (execs [.Assign [.Name x px] c apos] B.env) (Out B Kp γ Post) E s₂) E s := by
  refine lands_againW fw fun h' fw' up => ?_
  have y' := y.gx (fly_gx (L := []) (a := a) (a0 := a0) gx fw'.1 up)
  refine wpAny_execs_cons (wpAny_Assign_Name (hc _ _ _ fun v s' g r => ?_) hs)
  have y₂ := y'.gw g
  exact store_any y₂.wf.ek y₂.wf.apart y₂.wf.cl y₂.cn.ns y₂.cells hx fun h'' tk b st => wpAny_execs_nil ⟨.next, _, _, trivial, y₂.stored st r (notin hn), h⟩

/-- a built-in class that matches; the clause stores a constant -/
theorem hd_hitB {T : String} {t x : Str} {pt px apos pos : Pos} {c : Expr} {d : V} {rest : List ExceptHandler} {X : String} (hg : B.W.mg t = none) (hb : B.W.mb t = some (.type T)) (h3 : subB X (.type T) = some true)
    (hxk : B.env.kindOf x = some .local ∨ (B.env.kindOf x = some .cell ∧ (B.env.cells.lookup x).isSome = true)) (hc : ∀ (A : Around) (s : Shared) (Q E : Value → Shared → Prop), (∀ v s', Gw s s' → Rd (μ.at ++ B.X₀) s'.heap v d → Q v s') → wpAny (model B.W.prog B.W.w) A (eval c B.env) Q E s) (h : Post .next μ ((x, d) :: ρ))
    (hn : μ.names.contains x = false := by rfl) (hs : swapsWith c (some (.Name x px)) apos.line B.env = pure false := by rfl)
    (hx : B.env.kindOf t = some .globalImplicit := by rfl) (hd : (t == ("__debug__" : Str)) = false := by decide) (h1 : subB T (.type "BaseException") = some true := by decide +kernel) (h2 : subB ((Manifest.find? T).elim "type" fun y => y.metatype) (.type "tuple") = some false := by decide +kernel) :
    HdX B μ ρ (.ExceptHandler (some (.Name t pt)) none [.Assign [.Name x px] c apos] pos :: rest) (.type X) Post := fun Kp γ s₀ s E a a0 y gx fw => by
  have y' := y.gx gx
  refine wpAny_handleBy_builtin (X := X) (T := T) (b := true) (isSubtype_of_subB h1) (isSubtype_of_subB h2) (isSubtype_of_subB h3) ?_
  refine Name_function_global y'.wf.ek hx (loadGlobal_builtin (by rw [y'.wf.eg]; exact y'.cn.here.g) hg (by rw [y'.wf.eb]; exact y'.cn.here.b) hb ⟨rfl, ?_, ?_⟩) hd
  · obtain ⟨ob, h1, h2⟩ := fw.there
    exact ⟨ob, h1, h2⟩
  · exact run_suite y gx fw hxk (hc _) h hn hs

/-- a constant is evaluated anywhere -/
theorem any_bool {M : Model} {env : Env} {X : List Addr} {i : Bool} {n : Nat} {pos : Pos} : ∀ (A : Around) (s : Shared) (Q E : Value → Shared → Prop), (∀ v s', Gw s s' → Rd X s'.heap v (.bool i) → Q v s') → wpAny M A (eval (.Constant (.bool i) n pos) env) Q E s := fun A s Q E f => Constant_bool (f _ _ (Gw.refl s) (.bool _))
theorem any_str {M : Model} {env : Env} {X : List Addr} {i : Str} {n : Nat} {pos : Pos} : ∀ (A : Around) (s : Shared) (Q E : Value → Shared → Prop), (∀ v s', Gw s s' → Rd X s'.heap v (.str i) → Q v s') → wpAny M A (eval (.Constant (.str i) n pos) env) Q E s := fun A s Q E f => Constant_str (f _ _ (Gw.toks s _) (.str _ _))
theorem any_none {M : Model} {env : Env} {X : List Addr} {n : Nat} {pos : Pos} : ∀ (A : Around) (s : Shared) (Q E : Value → Shared → Prop), (∀ v s', Gw s s' → Rd X s'.heap v .none → Q v s') → wpAny M A (eval (.Constant .none n pos) env) Q E s := fun A s Q E f => Constant_none (f _ _ (Gw.refl s) .none)
end

section
variable {W : Wd} {k : Nat} {A : Around} {h₀ : Heap} {L : Addr} {env : Env} {X Y : List Addr} {h : Heap}
theorem foldl_app : ∀ (n : Nat) (l : List Value) (a : Array Value), List.foldl (fun x1 x2 => x1 ++ x2) a (List.replicate n l.toArray) = a ++ (List.replicate n l).flatten.toArray
  | 0, l, a => by simp
  | n + 1, l, a => by
    rw [List.replicate_succ, List.foldl_cons, foldl_app n l, List.replicate_succ, List.flatten_cons]
    simp
theorem RdA.rep {vs : List Value} {ds : List V} (r : RdA X h vs ds) : ∀ n : Nat, RdA X h (List.replicate n vs).flatten (List.replicate n ds).flatten
  | 0 => .nil
  | n + 1 => by rw [List.replicate_succ, List.replicate_succ, List.flatten_cons, List.flatten_cons]; exact r.append (RdA.rep r n)
/-- a list of one item, many times -/
theorem evf_mul {l r : Expr} {pos : Pos} {d : V} {x : Int} (c : Cx W k A h₀ L env X h) (hl : Ev W A env X h l (.lst [d])) (hr : Ev W A env [] h r (.int x)) (hlo : -(2 ^ 62) ≤ x) (hz : x ≤ 2 ^ 24) : EvF W A env X h (.BinOp l .Mult r pos) (List.replicate x.toNat d) := fun s Q E le f =>
  wpAny_BinOp (hl s _ _ le fun u s₁ g₁ r₁ => hr s₁ _ _ (le.trans g₁.le) fun v s₂ g₂ r₂ => by
    have r₁' := r₁.le g₂.le
    cases r₂ with
    | int _ tk =>
    cases r₁' with
    | @lst a vs n _ ea _ ra =>
    have hvl : vs.length = 1 := ra.length
    have hne : vs.toArray.isEmpty = false := by
      match vs, hvl with
      | [_], _ => rfl
    have hsz : vs.toArray.size * x.toNat ≤ 2 ^ 24 := by rw [List.size_toArray, hvl]; omega
    refine wpAny_binaryOp_repeat_ref (T := "list") (U := "int") (by decide) ⟨_, ea, rfl⟩ (fun s' => typeIs_int s' x tk) noFill_list_mul F.fills_int_mul F.slot_int_rmul repeat_list F.slot_int_index.lookup
      (call_meets F.slot_int_rmul (typeIs_int s₂ x tk) F.entry_int_rmul (F.args_int_rmul_2 _ _) (int___rmul___int_list x tk a vs.toArray n)
      ⟨ea, rfl, ⟨_, ea, rfl⟩, call_meets F.slot_list_mul ⟨_, ea, rfl⟩ F.entry_list_mul (F.args_list_mul_2 _ _)
        (AutoListH.list___mul___list_int_3 a vs.toArray n x tk (by simp [Builtin.List.listFitsIndex]; omega) (by omega) (by simp [Builtin.List.listTooLong, sizeLine]; rw [List.size_toArray] at hsz; omega))
        ⟨ea, ?_⟩⟩)
    rw [hne, foldl_app]
    have l2 : Le h s₂.heap := le.trans (g₁.le.trans g₂.le)
    have rr : RdA X s₂.heap (List.replicate x.toNat vs).flatten (List.replicate x.toNat d) := by
      have := ra.rep x.toNat
      rwa [show (List.replicate x.toNat [d]).flatten = List.replicate x.toNat d by simp] at this
    have e : (#[] : Array Value) ++ (List.replicate x.toNat vs).flatten.toArray = (List.replicate x.toNat vs).flatten.toArray := by simp
    simp only [Bool.false_eq_true, if_false]
    rw [e]
    exact f _ (List.replicate x.toNat vs).flatten 0 _ (g₁.trans (g₂.trans (Gw.push s₂ _))) (le_fresh (g := h) (g₁.le.trans g₂.le)) (Heap.get?_push_size _ rfl) (c.fresh l2) (rr.le (Le.push _)) (rr.past _))
end
end Mine
namespace Mine
open PySem PySem.Calls PySem.Spec PyProof.Rows

def zints (ns : List Int) : List V := ns.map .int
theorem ints_len (ns : List Int) : (zints ns).length = ns.length := List.length_map ..
theorem ints_get {ns : List Int} {i : Int} (h0 : 0 ≤ i) (h : i < ns.length) : (zints ns)[i.toNat]? = some (.int (ns.getD i.toNat 0)) := by
  unfold zints
  rw [List.getElem?_map, List.getD_eq_getElem?_getD, List.getElem?_eq_getElem (by omega)]; rfl
theorem cat_ints {a b : List Int} : zints a ++ zints b = zints (a ++ b) := (List.map_append ..).symm
theorem flat_ints {a : List Int} : ∀ x ∈ zints a, x.flat = true := fun x hx => by
  obtain ⟨i, _, rfl⟩ := List.mem_map.mp hx
  rfl
theorem ok_ints (ns : List Int) : V.ok 8 (.lst (zints ns)) = true := by
  simp only [V.ok, zints, List.all_map, List.all_eq_true]
  intro x _
  rfl

section
variable {B : Bd} {μ : Mu} {ρ : Rho} {Kp : Addr → Obj → Prop} {γ : List (Value × V)} {s : Shared}
/-- a call of a def of the program -/
theorem ev_fn {name : Str} {st : Stmt} {es : List Expr} {e : Expr} {p pos : Pos} {ds : List V} {d : V} {X : List Addr} (y : Sat B Kp γ μ ρ s) (H : HasDef B.W name st) (hc : ∀ f doc pm an cdv ct, B.W.defs f (fdOf name st doc pm an cdv ct) → FnC B.W B.k f ds d) (hX : ∀ a ∈ X, a ∈ μ.at ++ B.X₀) (ha : EvA B.W B.A B.env X s.heap pos (e :: es) ds)
    (hx : B.env.kindOf name = some .globalImplicit := by rfl) (hdb : (name == ("__debug__" : Str)) = false := by decide) (hs : starEach (e :: es) B.env = (false, eval e B.env) :: starEach es B.env := by rfl)
    (hev : eval (.Call (.Name name p) (e :: es) [] pos) B.env = (do callWith pos (← eval (.Name name p) B.env) [] (backTo pos (starEach (e :: es) B.env)) (backToKw pos (keywordEach [] B.env))) := by rfl) :
    Ev B.W B.A B.env X s.heap (.Call (.Name name p) (e :: es) [] pos) d := by
  obtain ⟨f, doc, pm, an, cdv, ct, h1, h2⟩ := H
  have cx := y.cx.sub hX
  exact ev_call cx (evv_glob cx h2 hx hdb) ha h1 (hc f doc pm an cdv ct h1) hs hev
theorem evx_fn {name : Str} {st : Stmt} {es : List Expr} {e : Expr} {p pos : Pos} {ds : List V} {cls : Value} {X : List Addr} (y : Sat B Kp γ μ ρ s) (H : HasDef B.W name st) (hc : ∀ f doc pm an cdv ct, B.W.defs f (fdOf name st doc pm an cdv ct) → FnX B.W B.k f ds cls) (hX : ∀ a ∈ X, a ∈ μ.at ++ B.X₀) (ha : EvA B.W B.A B.env X s.heap pos (e :: es) ds)
    (hx : B.env.kindOf name = some .globalImplicit := by rfl) (hdb : (name == ("__debug__" : Str)) = false := by decide) (hs : starEach (e :: es) B.env = (false, eval e B.env) :: starEach es B.env := by rfl)
    (hev : eval (.Call (.Name name p) (e :: es) [] pos) B.env = (do callWith pos (← eval (.Name name p) B.env) [] (backTo pos (starEach (e :: es) B.env)) (backToKw pos (keywordEach [] B.env))) := by rfl) :
    EvX B.W B.A B.env s.heap (.Call (.Name name p) (e :: es) [] pos) cls := by
  obtain ⟨f, doc, pm, an, cdv, ct, h1, h2⟩ := H
  have cx := y.cx.sub hX
  exact evx_call cx (evv_glob cx h2 hx hdb) ha h1 (hc f doc pm an cdv ct h1) hs hev
end
theorem sub_nil {X : List Addr} : ∀ a ∈ ([] : List Addr), a ∈ X := fun _ h => (nomatch h)
theorem sub_self {X : List Addr} : ∀ a ∈ X, a ∈ X := fun _ h => h
end Mine
namespace Mine
open PySem PySem.Calls PySem.Spec PyProof.Rows

/-- a comprehension's run, whatever comes of its list -/
def CompR (W : Wd) (A : Around) (env : Env) (X : List Addr) (h : Heap) (e iter : Expr) (scope : Scope) (cl : List (Str × Addr)) (ds : List V) : Prop :=
  ∀ (RR : Value → Addr → Result → Shared → Prop) (s : Shared) (E : Value → Shared → Prop), Le h s.heap →
    (∀ D C ys mm m' s', Gw s s' → s.heap.get? D = none → s.heap.get? C = none → C ≠ D → s'.heap.Ns C m' → s'.heap.get? D = some (lstO ys mm) → D ∉ X → RdA (D :: X) s'.heap ys ds → RR (.ref D) C (.ok .next) s') →
    wpAny (model W.prog W.w) A (eval iter env) (fun xv s₁ => wpAny (model W.prog W.w) A (pyIter xv) (fun it s₂ => wpAny (model W.prog W.w) A (newList []) (fun acc s₃ =>
      wpAny (model W.prog W.w) A (newFunctionEnv scope env.globals cl [] env.qual none .none (some env)) (fun cenv s₄ =>
        codeAny (model W.prog W.w) A (.compStart e 0 it acc { cenv with scope := relabel scope env }) (RR acc cenv.locals) s₄) E s₃) E s₂) E s₁) E s

section
variable {W : Wd} {k : Nat} {A : Around} {h₀ : Heap} {L : Addr} {env : Env} {X Y : List Addr} {h : Heap}
theorem comp_r {elt iter : Expr} {x : Str} {px pos : Pos} {ifs : List Expr} {scope : Scope} {cl : List (Str × Addr)} {n : Nat} {it : Nat → V} (b : Nat → Bool) (g : Nat → V) (c : Cx W k A h₀ L env X h)
    (hclos : closureFor scope env = pure cl) (hcell : ∀ y ∈ scope.names, y.2 ≠ .cell) (hkind : scope.kind = .function) (hnames : ∀ y ∈ scope.names, y.2 = .local → scope.names.lookup y.1 = some .local) (hx : scope.names.lookup x = some .local)
    (hsrc : Src W A env X h iter n it) (hn : n ≤ sizeLine)
    (tests : ∀ i C v s E (Q : Bool → Shared → Prop), i < n → Le h s.heap → Cx W k A h₀ L (compEnvC scope cl C env) X s.heap → Var (compEnvC scope cl C env) s.heap x v → Rd X s.heap v (it i) → (∀ s', Gw s s' → Q (b i) s') →
      wpAny (model W.prog W.w) A (forIn ifs true fun c r => if r = true then do let ok ← isTrue c (compEnvC scope cl C env) (eval c (compEnvC scope cl C env)); pure (ForInStep.yield ok) else pure (ForInStep.yield r)) Q E s)
    (helt : ∀ i C v h', i < n → b i = true → Le h h' → Cx W k A h₀ L (compEnvC scope cl C env) X h' → Var (compEnvC scope cl C env) h' x v → Rd X h' v (it i) → Ev W A (compEnvC scope cl C env) X h' elt (g i))
    (hg : ∀ i, i < n → (g i).flat = true) : CompR W A env X h (.ListComp elt [⟨.Name x px, iter, ifs, 0⟩] scope pos) iter scope cl (picked n b g) := fun RR s E l fin =>
  comp_gen b g c hclos hcell hkind hnames hx hsrc hn tests (fun i C D v h' hi hb l _ cx vx r => (helt i C v h' hi hb l (cx.sub fun a ha => .tail _ ha) vx r).flat (hg i hi)) RR l fin
end

section
variable {B : Bd} {μ : Mu} {ρ : Rho} {Post : Fl → Mu → Rho → Prop}
/-- a comprehension's list stored at once into a local name -/
theorem tri_assignC {elt tgt iter : Expr} {ifs : List Expr} {gs : List Comprehension} {scope : Scope} {cl : List (Str × Addr)} {y : Str} {py pos spos : Pos} {ds : List V} (hx : B.env.kindOf y = some .local ∨ (B.env.kindOf y = some .cell ∧ (B.env.cells.lookup y).isSome = true))
    (hsw : swapsWith (.ListComp elt (⟨tgt, iter, ifs, 0⟩ :: gs) scope pos) (some (.Name y py)) spos.line B.env = pure true) (hclos : closureFor scope B.env = pure cl) (hkind : scope.kind = .function) (hnames : ∀ z ∈ scope.names, z.2 = .local → scope.names.lookup z.1 = some .local)
    (he : ∀ Kp γ s, Sat B Kp γ μ ρ s → CompR B.W B.A B.env (μ.at ++ B.X₀) s.heap (.ListComp elt (⟨tgt, iter, ifs, 0⟩ :: gs) scope pos) iter scope cl ds) (h : Post .next μ ((y, .lst ds) :: ρ)) (hn : μ.names.contains y = false := by rfl)
    (hs : ∀ x, foldedSetIterable iter B.env x = pure x := by intro _; rfl) : Tr1 B μ ρ (.Assign [.Name y py] (.ListComp elt (⟨tgt, iter, ifs, 0⟩ :: gs) scope pos) spos) Post := fun Kp γ s E yS => by
  rw [exec_Assign_Name_used _ _ _ _ hsw]
  refine wpAny_bind (wpAny_standAt (wpAny_bind ?_))
  show wpAny _ B.A (do let _ ← comprehension (.ListComp elt (⟨tgt, iter, ifs, 0⟩ :: gs) scope pos) scope B.env _ (newList []) false (eval iter B.env) (some (assign (.Name y py) B.env))) _ _ s
  refine wpAny_bind (wpAny_mono (wpAny_comprehension_free (use := some (assign (.Name y py) B.env)) (Q := fun _ s' => Out B Kp γ Post .next s') rfl hs hclos hkind hnames
    (he Kp γ s yS (fun acc C => compPost (model B.W.prog B.W.w) B.A E (some (assign (.Name y py) B.env)) (fun _ s' => Out B Kp γ Post .next s') acc C) s E (Le.refl _) fun D C ys mm m' s' gw hD hC hCD hn' eD hDX rr => ?_)) (fun _ s' hq => wpAny_pure (wpAny_pure hq)) fun _ _ e => e)
  show wpAny _ B.A (assign (.Name y py) B.env (.ref D)) _ _ s'
  have y₁ := yS.gw gw
  have ap := new_apart yS hC
  refine wpAny_assign_Name (store_sat y₁ hx fun h₂ tk a st => ?_)
  have y₂ := y₁.stored (tk := tk) st (.lst eD hDX (rr.sub fun a ha => .tail _ ha)) (notin hn)
  have aC : C ≠ a := by
    rintro rfl
    rcases st.slot with q | ⟨z, q⟩
    · exact ap.1 q
    · exact ap.2.1 z q
  have hnC : h₂.Ns C m' := hn'.sameBut st.but aC
  refine ⟨m', hnC, fun h₃ hs₃ => ⟨.next, _, _, trivial, ?_, h⟩⟩
  exact y₂.ext (a := C) (h' := h₃) (tk := tk) (fun b o hb e => hs₃.extBut b o hb e) ap.1 ap.2.1 ap.2.2.1 (ns_notSq hnC)

/-- an item of a list of the function's own is stored -/
theorem tri_setitem {x : Str} {a : Addr} {ds : List V} {i e : Expr} {j : Int} {d : V} {px pos' pos : Pos} {μ₁ μ₂ : Mu} (hμ : μ = μ₁ ++ (x, a, ds) :: μ₂) (he : Es B μ ρ (μ.at ++ B.X₀) e d) (hi : Es B μ ρ [] i (.int j)) (h0 : 0 ≤ j) (hj : j < 2 ^ 62) (hjl : j < ds.length) (h : Post .next (μ₁ ++ (x, a, ds.set j.toNat d) :: μ₂) ρ)
    (hd : (x == ("__debug__" : Str)) = false := by decide) (hs : swapsWith e (some (.Subscript (.Name x px) i pos')) pos.line B.env = pure false := by rfl) :
    Tr1 B μ ρ (.Assign [.Subscript (.Name x px) i pos'] e pos) Post := fun Kp γ s E y => by
  subst hμ
  refine wpAny_Assign_Subscript (he Kp γ s y s _ _ (Le.refl _) fun v s₁ g₁ r₁ => ?_) hs
  have y₁ := y.gw g₁
  obtain ⟨hva, hax, vs, n, ea, ra⟩ := y₁.muts (x, a, ds) (by simp)
  have go : wpAny (model B.W.prog B.W.w) B.A (loadName B.env x) (fun ov s₂ => ov = .ref a ∧ s₂ = s₁) E s₁ := by
    rcases hva with ⟨p, m, q, r⟩ | ⟨p | ⟨p, p'⟩, c, q, r⟩
    · exact wpAny_loadName_local y.wf.ek p q r ⟨rfl, rfl⟩
    · exact wpAny_loadName_cell y.wf.ek p q r ⟨rfl, rfl⟩
    · exact wpAny_loadName_free y.wf.ek p q r ⟨rfl, rfl⟩ p'
  refine wpAny_Name (wpAny_mono go (fun ov s₂ q => ?_) fun _ _ e => e) hd
  obtain ⟨rfl, rfl⟩ := q
  refine hi Kp γ s₂ y₁ s₂ _ _ (Le.refl _) fun w s₃ g₃ r₃ => ?_
  cases r₃ with
  | int _ tk =>
  refine PySem.W.ki_setAt (n := n) (g₃.le _ _ ea) h0 (by omega) (by rw [List.size_toArray, ra.length]; exact hjl) ?_
  have e2 : (s₃.heap.update a (Obj.mapSeq (·.setIfInBounds j.toNat v))).get? a = some (lstO (vs.set j.toNat v) n) := by
    rw [PySem.IsL.update (g₃.le _ _ ea) _]
    simp
  exact ⟨.next, _, _, trivial, (y₁.gw g₃).mutate (tk := s₃.toks) (Heap.SameBut.update ..) e2 ((ra.le g₃.le).set (r₁.le g₃.le) _), h⟩
end

section
variable {W : Wd} {k : Nat} {A : Around} {h₀ : Heap} {L : Addr} {env : Env} {X Y : List Addr} {h : Heap}
/-- list(x) -/
theorem evf_copy {fn e : Expr} {pos : Pos} {ds : List V} (c : Cx W k A h₀ L env X h) (hf : EvV W A env h fn (.type "list")) (ha : Ev W A env Y h e (.lst ds)) (hY : ∀ (s' : Heap) vs, RdA Y s' vs ds → RdA X s' vs ds) (hz : ds.length ≤ sizeLine) (hs : starEach [e] env = [(false, eval e env)] := by rfl)
    (he : eval (.Call fn [e] [] pos) env = (do callWith pos (← eval fn env) [] (backTo pos (starEach [e] env)) (backToKw pos (keywordEach [] env))) := by rfl) : EvF W A env X h (.Call fn [e] [] pos) ds := fun s Q E l f =>
  Call_ (hf s _ _ l fun s₁ g₁ => by
    rw [hs]
    refine PySem.callWith_type rfl (Calls.evalArgs_plain (Calls.spliced_cons (ha s₁ _ _ (l.trans g₁.le) fun v s₂ g₂ r₂ => Calls.spliced_nil ?_)))
    cases r₂ with
    | @lst a vs n _ ea _ ra =>
    refine call_list_seq a (.inl rfl) ea rfl rfl (fun h' c' hk hD => ?_) (by rw [List.size_toArray, ra.length]; exact hz)
    have l2 : Le h s₂.heap := l.trans (g₁.le.trans g₂.le)
    have rx := hY _ _ ra
    exact f _ vs c' _ (g₁.trans (g₂.trans ⟨⟨h', s₂.toks, rfl⟩, hk⟩)) (le_fresh (g := h) (g₁.le.trans g₂.le)) hD (c.fresh l2) (rx.le hk) (rx.move fun b o e _ hx => ⟨hk b o e, fun z => (List.mem_cons.mp z).elim (fun q => absurd (Heap.lt_size e) (q ▸ Nat.lt_irrefl _)) hx⟩)) he

/-- a part of a slice: absent or an int -/
def EvP (W : Wd) (A : Around) (env : Env) (h : Heap) (p : Option Expr) (x : Option Int) : Prop := match p, x with
  | none, none => True
  | some e, some i => Ev W A env [] h e (.int i)
  | _, _ => False
theorem evp_run {p : Option Expr} {x : Option Int} (hp : EvP W A env h p x) {s : Shared} {Q E : Value → Shared → Prop} (l : Le h s.heap) (f : ∀ v s', Gw s s' → IsPart v x → Q v s') : wpAny (model W.prog W.w) A (evalPart p env) Q E s := by
  match p, x, hp with
  | none, none, _ => exact wpAny_pure (f _ _ (Gw.refl s) .none)
  | some e, some i, hp => exact hp s _ _ l fun v s' g r => by cases r; exact f _ _ g (.int _ _)
/-- the part of a list that a slice takes (nothing below nought) -/
def cut {α : Type} (ds : List α) (lo hi : Option Int) : List α := (hi.elim ds fun y => ds.take y.toNat).drop (lo.elim 0 Int.toNat)
theorem rda_pick {vs : List Value} {ds : List V} {lo hi : Option Int} (r : RdA X h vs ds) (h1 : ∀ x, lo = some x → 0 ≤ x) (h2 : ∀ y, hi = some y → 0 ≤ y) : ∃ ws, slicePick vs.toArray lo hi none = ws.toArray ∧ RdA X h ws (cut ds lo hi) := by
  have key : ∀ a b : Nat, sliceBounds lo hi none vs.toArray.size = ((a : Int), (b : Int), 1) → (vs.drop a).take (b - a) = cut vs lo hi → ∃ ws, slicePick vs.toArray lo hi none = ws.toArray ∧ RdA X h ws (cut ds lo hi) := by
    intro a b e1 e2
    refine ⟨(vs.drop a).take (b - a), PySem.W.kmk_pick_nat _ e1, ?_⟩
    rw [e2]
    unfold cut
    cases hi with
    | none => exact r.drop _
    | some y => exact (r.take _).drop _
  have dm : ∀ a : Nat, vs.drop (min a vs.length) = vs.drop a := fun a => PySem.W.kmk_drop_min vs a
  have tm : ∀ a : Nat, vs.take (min a vs.length) = vs.take a := fun a => PySem.W.kmk_take_min vs a
  cases lo with
  | none =>
    cases hi with
    | none =>
      refine key 0 vs.length (by simp [sliceBounds]) (by simp [cut])
    | some y =>
      have hy := h2 y rfl
      refine key 0 (min y.toNat vs.length) ?_ (by simp [tm, cut])
      simp only [sliceBounds, Option.getD_none, show (1 : Int) > 0 by decide, if_true, if_neg (show ¬ (y < 0) by omega), List.size_toArray]
      congr 1
      congr 1
      omega
  | some x =>
    have hx := h1 x rfl
    cases hi with
    | none =>
      refine key (min x.toNat vs.length) vs.length ?_ ?_
      · simp only [sliceBounds, Option.getD_none, show (1 : Int) > 0 by decide, if_true, if_neg (show ¬ (x < 0) by omega), List.size_toArray]
        congr 1
        omega
      · rw [dm, List.take_of_length_le (by rw [List.length_drop]; omega)]; rfl
    | some y =>
      have hy := h2 y rfl
      refine key (min x.toNat vs.length) (min y.toNat vs.length) ?_ ?_
      · simp only [sliceBounds, Option.getD_none, show (1 : Int) > 0 by decide, if_true, if_neg (show ¬ (x < 0) by omega), if_neg (show ¬ (y < 0) by omega), List.size_toArray]
        congr 1
        · omega
        · congr 1
          omega
      · show _ = (vs.take y.toNat).drop x.toNat
        rw [dm, ← tm y.toNat, List.drop_take]
        by_cases q : x.toNat ≤ vs.length
        · congr 1; omega
        · rw [List.drop_of_length_le (by omega)]; simp
theorem evf_slice {v : Expr} {lo hi : Option Expr} {sp pos : Pos} {ds : List V} {x y : Option Int} (c : Cx W k A h₀ L env X h) (hv : Ev W A env Y h v (.lst ds)) (hlo : EvP W A env h lo x) (hhi : EvP W A env h hi y) (h1 : ∀ i, x = some i → 0 ≤ i) (h2 : ∀ i, y = some i → 0 ≤ i) (hY : ∀ (s' : Heap) vs, RdA Y s' vs ds → RdA X s' vs ds) (hz : ds.length ≤ sizeLine)
    (hs : ∀ l b, subscripted (.Slice lo hi none sp) false (.ref l) (.ref b) = operate [.ref b, .ref l] (getItem (.ref l) (.ref b)) := by intro _ _; with_unfolding_all rfl) : EvF W A env X h (.Subscript v (.Slice lo hi none sp) pos) (cut ds x y) := fun s Q E l f =>
  Subscript_ (hv s _ _ l fun o s₁ g₁ r₁ => wpAny_Slice (evp_run hlo (l.trans g₁.le) fun vl s₂ g₂ p₂ => evp_run hhi (l.trans (g₁.le.trans g₂.le)) fun vu s₃ g₃ p₃ => by
    rw [evalPart_none]
    refine wpAny_pure ?_
    have g := g₁.trans (g₂.trans g₃)
    have l2 : Le h s₃.heap := l.trans g.le
    have r := r₁.le (g₂.le.trans g₃.le)
    cases r with
    | @lst a vs n _ ea _ ra =>
    have hl : s₃.heap.IsList a vs.toArray := ⟨_, ea, rfl, n, rfl⟩
    obtain ⟨ws, e1, rw'⟩ := rda_pick (hY _ _ ra) h1 h2
    refine tail_any (Heap.IsList.typeIs (s := { s₃ with heap := s₃.heap.push { cls := .type "slice", data := .fields #[vl, vu, .none] } }) (hl.push _)) list_getitem_lookup (wpAny_getItem_list_slice (hl.push _) (Heap.IsSliceOf.new ..) p₂ p₃ .none (by simp) ?_ (by rw [List.size_toArray, ra.length]; exact hz)) (hs _ _)
    rw [e1]
    have gg := g.trans (Gw.push s₃ { cls := .type "slice", data := .fields #[vl, vu, .none] })
    have rr := rw'.le (Le.push (h := s₃.heap) { cls := .type "slice", data := .fields #[vl, vu, .none] })
    exact f _ ws 0 _ (gg.trans (Gw.push _ _)) (le_fresh (g := h) gg.le) (Heap.get?_push_size _ rfl) (c.fresh (l.trans gg.le)) (rr.le (Le.push _)) (rr.past _)))

theorem str_eq_iff {a b : Str} : (a.cps.toList == b.cps.toList) = decide (a = b) := by
  by_cases h : a = b
  · subst h; simp
  · have : a.cps.toList ≠ b.cps.toList := fun e => h (by cases a; cases b; simpa using e)
    rw [decide_eq_false h]
    exact beq_eq_false_iff_ne.mpr this
theorem bt_eqS {l r : Expr} {pos : Pos} {a b : Str} (ha : Ev W A env [] h l (.str a)) (hb : Ev W A env [] h r (.str b)) (hm : behindInMarks .Eq r = false := by with_unfolding_all rfl) : Bt W A env h (.Compare l [.Eq] [r] pos) (decide (a = b)) :=
  bt_cmp ha hb (fun s u v Q E _ ru rv f => by cases ru; cases rv; exact PySem.P.eq_str (by rw [str_eq_iff]; exact f _ (Gw.refl s))) hm
theorem bt_neS {l r : Expr} {pos : Pos} {a b : Str} (ha : Ev W A env [] h l (.str a)) (hb : Ev W A env [] h r (.str b)) (hm : behindInMarks .NotEq r = false := by with_unfolding_all rfl) : Bt W A env h (.Compare l [.NotEq] [r] pos) (decide (a ≠ b)) :=
  bt_cmp ha hb (fun s u v Q E _ ru rv f => by
    cases ru; cases rv
    refine PySem.P.ne_str ?_
    rw [show (a.cps.toList != b.cps.toList) = decide (a ≠ b) from by rw [bne, str_eq_iff]; by_cases h : a = b <;> simp [h]]
    exact f _ (Gw.refl s)) hm

/-- a text -/
def EvS (W : Wd) (A : Around) (env : Env) (h : Heap) (e : Expr) (n : Nat) : Prop := ∃ x : Str, x.length ≤ n ∧ Ev W A env [] h e (.str x)
theorem evs_const {x : Str} {n : Nat} {pos : Pos} : EvS W A env h (.Constant (.str x) n pos) x.length := ⟨x, Nat.le_refl _, ev_str⟩
theorem evs_add {l r : Expr} {pos : Pos} {n m : Nat} (ha : EvS W A env h l n) (hb : EvS W A env h r m) (hz : n + m ≤ sizeLine) : EvS W A env h (.BinOp l .Add r pos) (n + m) := by
  obtain ⟨x, h1, ha⟩ := ha
  obtain ⟨z, h2, hb⟩ := hb
  have hl : (x ++ z).length = x.length + z.length := by first | exact Str.length_append .. | (show (x.cps ++ z.cps).size = _; simp; rfl)
  refine ⟨if x.length == 0 then z else if z.length == 0 then x else x ++ z, ?_, ev_bin ha hb fun s u v Q E _ ru rv f => ?_⟩
  · split
    · omega
    · split
      · omega
      · rw [hl]; omega
  · cases ru; cases rv
    refine PySem.P.add_str ?_
    by_cases c1 : (x.length == 0) = true
    · rw [if_pos c1] at f ⊢
      exact f _ _ (Gw.refl s) (.str _ _)
    · rw [if_neg c1] at f ⊢
      by_cases c2 : (z.length == 0) = true
      · rw [if_pos c2] at f ⊢
        exact f _ _ (Gw.refl s) (.str _ _)
      · rw [if_neg c2] at f ⊢
        exact ⟨by rw [hl]; omega, f _ _ (Gw.toks s _) (.str _ _)⟩
theorem evs_int {fn e : Expr} {pos : Pos} {a : Int} (hf : EvV W A env h fn (.type "str")) (ha : Ev W A env [] h e (.int a)) (h1 : a.natAbs < 1000) (hs : starEach [e] env = [(false, eval e env)] := by rfl)
    (he : eval (.Call fn [e] [] pos) env = (do callWith pos (← eval fn env) [] (backTo pos (starEach [e] env)) (backToKw pos (keywordEach [] env))) := by rfl) : EvS W A env h (.Call fn [e] [] pos) 1002 := by
  refine ⟨Str.ofString (toString a), ?_, ?_⟩
  · have := len_str_of_int a
    omega
  · exact ev_t1 hf ha (fun s u Q E l r f => by
      cases r
      exact str_of_int_fit (N := 1000) (by split <;> omega) (by decide) fun _ => f _ _ (Gw.toks s _) (.str _ _)) hs he
theorem eva_text {e : Expr} {n : Nat} {pos : Pos} (he : EvS W A env h e n) (hs : starEach [e] env = (false, eval e env) :: starEach [] env := by rfl) : ∃ ds, ds.length ≤ sizeLine ∧ EvA W A env [] h pos [e] ds := by
  obtain ⟨x, _, hx⟩ := he
  exact ⟨[.str x], (by decide : (1 : Nat) ≤ sizeLine), eva_cons hx eva_nil hs⟩
end

/-- the program's own exception class -/
abbrev excB : List Value := [.type "Exception", .type "BaseException", .type "object"]
abbrev Oom (W : Wd) (x : Str) (C : Addr) : Prop := OwnCls x C excB "Exception.__new__" W.mg W.root

section
variable {B : Bd} {μ : Mu} {ρ : Rho} {Post : Fl → Mu → Rho → Prop} {x : Str} {C : Addr}
theorem trx_raiseO (O : Oom B.W x C) {np cpos pos : Pos} {e₀ : Expr} {rest : List Expr} {n : Nat}
    (he : ∀ Kp γ s, Sat B Kp γ μ ρ s → ∃ ds, ds.length ≤ sizeLine ∧ EvA B.W B.A B.env [] s.heap cpos (e₀ :: rest) ds)
    (hx : B.env.kindOf x = some .globalImplicit := by rfl) (hdb : (x == ("__debug__" : Str)) = false := by decide)
    (hse : starEach (e₀ :: rest) B.env = (false, eval e₀ B.env) :: starEach rest B.env := by rfl) (hplain : (backTo cpos (starEach rest B.env)).any (·.1) = false := by rfl) :
    TrX1 B μ ρ (.Raise (some (.Call (.Name x np) (e₀ :: rest) [] cpos)) none pos) (.ref C) := fun Kp γ s Q E y hE => by
  obtain ⟨tl, N, nm, q, bs, hdct, sn, sub, ab, col, dd, k0, k1, k2, k3, k5, mN, hC, hN, hni, T⟩ := O.obj
  have FB := PySem.F.excBase_Exception
  obtain ⟨ds, hz, he⟩ := he Kp γ s y
  refine wpAny_Raise_call_subT (C := C) (nm := nm) (q := q) (N := N) (bs := bs) (bm := tl) (hdct := hdct) (sn := sn) (sub := sub) (ab := ab) (col := col) (dd := dd) (k0 := k0) (k1 := k1) (k2 := k2) (k3 := k3) (k5 := k5)
    FB (mN := mN) (T.hasType FB.hasBase) y.cn.hand (by rw [hse]; show (false || (backTo cpos (starEach rest B.env)).any (·.1)) = false; rw [hplain]; rfl) hni (evv_glob y.cx O.bound hx hdb s _ _ (Le.refl _) fun s₁ g₁ => ⟨rfl, ?_⟩)
  have he' := fun Q => he s₁ Q E g₁.le
  rw [hse] at he' ⊢
  refine Calls.evalArgs_plain (he' _ fun vs s₂ g₂ r₂ => ?_)
  have g := g₁.trans g₂
  have rt : Le B.W.root s₂.heap := y.cn.here.root.trans g.le
  refine ⟨rfl, by rw [r₂.length]; exact hz, rt _ _ hC, hN.keeps rt, T.keeps rt, fun h' e m => ?_⟩
  obtain ⟨h₂, t₂, e₂⟩ := (y.gw g).same
  exact hE _ _ (.made e s₂.heap t₂ vs rfl (by rw [e₂]) (y.cn.le g.le) m)

theorem hd_missO (O : Oom B.W x C) {T : String} {t : Str} {pt pos : Pos} {b₀ : Stmt} {suite : List Stmt} {rest : List ExceptHandler} (hg : B.W.mg t = none) (hb : B.W.mb t = some (.type T)) (h3 : excB.contains (.type T) = false) (hr : HdX B μ ρ rest (.ref C) Post)
    (hx : B.env.kindOf t = some .globalImplicit := by rfl) (hd : (t == ("__debug__" : Str)) = false := by decide) (h1 : subB T (.type "BaseException") = some true := by decide +kernel) (h2 : subB ((Manifest.find? T).elim "type" fun y => y.metatype) (.type "tuple") = some false := by decide +kernel) :
    HdX B μ ρ (.ExceptHandler (some (.Name t pt)) none (b₀ :: suite) pos :: rest) (.ref C) Post := fun Kp γ s₀ s E a a0 y gx fw => by
  have y' := y.gx gx
  obtain ⟨tl, N, nm, q, bs, hdct, sn, sub, ab, col, dd, k0, k1, k2, k3, k5, mN, hC, hN, hni, TT⟩ := O.obj
  obtain ⟨oe, he, hcls⟩ := fw.there
  refine wpAny_handleBy_cons (codeAny_handlers_test (Name_function_global y'.wf.ek hx (loadGlobal_builtin (by rw [y'.wf.eg]; exact y'.cn.here.g) hg (by rw [y'.wf.eb]; exact y'.cn.here.b) hb ?_) hd)) (by intro q; cases q)
  have hC' := y'.cn.here.root _ _ hC
  have hQ := hr Kp γ s₀ s E a a0 y gx fw
  obtain ⟨hp, gg, dr, tk, os⟩ := s
  refine wpAny_excMatches_sub_type hC' he hcls (isSubtype_of_subB h1) (isSubtype_of_subB h2) ?_
  rw [TT.hasType h3]
  exact hQ

theorem hd_hitO (O : Oom B.W x C) {z : Str} {pt px apos pos : Pos} {c : Expr} {d : V} {rest : List ExceptHandler}
    (hxk : B.env.kindOf z = some .local ∨ (B.env.kindOf z = some .cell ∧ (B.env.cells.lookup z).isSome = true)) (hc : ∀ (A : Around) (s : Shared) (Q E : Value → Shared → Prop), (∀ v s', Gw s s' → Rd (μ.at ++ B.X₀) s'.heap v d → Q v s') → wpAny (model B.W.prog B.W.w) A (eval c B.env) Q E s) (h : Post .next μ ((z, d) :: ρ))
    (hn : μ.names.contains z = false := by rfl) (hs : swapsWith c (some (.Name z px)) apos.line B.env = pure false := by rfl)
    (hx : B.env.kindOf x = some .globalImplicit := by rfl) (hd : (x == ("__debug__" : Str)) = false := by decide) :
    HdX B μ ρ (.ExceptHandler (some (.Name x pt)) none [.Assign [.Name z px] c apos] pos :: rest) (.ref C) Post := fun Kp γ s₀ s E a a0 y gx fw => by
  have y' := y.gx gx
  obtain ⟨tl, N, nm, q, bs, hdct, sn, sub, ab, col, dd, k0, k1, k2, k3, k5, mN, hC, hN, hni, TT⟩ := O.obj
  obtain ⟨oe, he, hcls⟩ := fw.there
  refine wpAny_handleBy_cons (codeAny_handlers_test (Name_function_global y'.wf.ek hx (loadGlobal_global (by rw [y'.wf.eg]; exact y'.cn.here.g) O.bound ?_) hd)) (by intro q; cases q)
  have hC' := y'.cn.here.root _ _ hC
  have hQ := run_suite (M := model B.W.prog B.W.w) (A := B.A.mark (some (.ref a))) (Post := Post) (E := notedBy (model B.W.prog B.W.w) (B.A.mark (some (.ref a))) B.env (cameBackBy (model B.W.prog B.W.w) B.A B.env E)) y gx fw hxk (hc _) h hn hs (px := px) (apos := apos)
  obtain ⟨hp, gg, dr, tk, os⟩ := s
  refine wpAny_excMatches_sub_self hC' he hcls (TT.hasType (by decide)) ?_
  exact codeAny_handlers_suite hQ
end
end Mine
namespace Mine
open PySem PySem.Calls PySem.Spec PyProof.Rows

section
variable {B : Bd} {μ : Mu} {ρ : Rho} {Post : Fl → Mu → Rho → Prop}
/-- a while: the test's value is known at each turn -/
theorem tri_while {test : Expr} {body : List Stmt} {pos : Pos} (N : Nat) (Inv : Nat → Mu → Rho → Prop) (go : Nat → Mu → Rho → Bool) (h0 : Inv 0 μ ρ) (hb : ∀ i μ' ρ', Inv i μ' ρ' → Bs B μ' ρ' test (go i μ' ρ'))
    (turn : ∀ i μ' ρ', Inv i μ' ρ' → go i μ' ρ' = true → i < N ∧ Tri B μ' ρ' body fun f m r => match f with
      | .next => Inv (i + 1) m r
      | .cont => Inv (i + 1) m r
      | .brk => Post .next m r
      | .ret d => Post (.ret d) m r)
    (done : ∀ i m r, Inv i m r → go i m r = false → Post .next m r) : Tr1 B μ ρ (.While test body [] pos) Post := fun Kp γ s E y => by
  refine wpAny_While (codeAny_whileLoop (fun k s' => ∃ i μ' ρ', k = N - i ∧ Sat B Kp γ μ' ρ' s' ∧ Inv i μ' ρ') ?_ N ⟨0, μ, ρ, rfl, y, h0⟩)
  rintro k s' ⟨i, μ', ρ', rfl, y', hi⟩
  refine hb i μ' ρ' hi Kp γ s' y' s' _ _ (Le.refl _) fun s₂ g => ?_
  have y₂ := y'.gw g
  cases hg : go i μ' ρ' with
  | true =>
    simp only [if_true]
    obtain ⟨hlt, t⟩ := turn i μ' ρ' hi hg
    refine wpAny_mono (t Kp γ s₂ _ y₂) (fun fl s₃ o => ?_) fun _ _ e => e
    obtain ⟨fd, m, r, fi, y₄, po⟩ := o
    cases fl <;> cases fd <;> first
      | exact fi.elim
      | exact ⟨N - (i + 1), by omega, i + 1, m, r, rfl, y₄, po⟩
      | exact ⟨.next, m, r, trivial, y₄, po⟩
      | exact ⟨_, m, r, fi, y₄, po⟩
  | false =>
    simp only [Bool.false_eq_true, if_false]
    exact wpAny_execs_nil ⟨.next, μ', ρ', trivial, y₂, done i μ' ρ' hi hg⟩

/-- a list that turns no more -/
theorem Sat.freeze {Kp γ s} {x : Str} {a : Addr} {ds : List V} (y : Sat B Kp γ ((x, a, ds) :: μ) ρ s) : Sat B Kp γ μ ((x, .lst ds) :: ρ) s := by
  obtain ⟨hv, hx, vs, n, e, r⟩ := y.muts _ (.head _)
  have sb : ∀ b ∈ μ.at ++ B.X₀, b ∈ Mu.at ((x, a, ds) :: μ) ++ B.X₀ := fun b hb => .tail _ hb
  have nd := List.nodup_cons.mp y.nd
  have rd : Rd (μ.at ++ B.X₀) s.heap (.ref a) (.lst ds) := .lst e (fun h => (List.mem_append.mp h).elim nd.1 hx) (r.sub sb)
  refine ⟨y.wf, y.cn, y.same, y.h₀kp, fun b o k => ?_, y.cells, fun q hq => (y.gam q hq).sub sb, fun z d hz => ?_, fun q hq => ?_, nd.2⟩
  · have := y.kp b o k
    exact ⟨this.1, this.2.1, this.2.2.1, fun h => this.2.2.2 (.tail _ h)⟩
  · rcases lookup_put hz with ⟨rfl, rfl⟩ | ⟨h1, h2⟩
    · exact ⟨_, hv, rd⟩
    · obtain ⟨v, h3, h4⟩ := y.vars z d h2
      exact ⟨v, h3, h4.sub sb⟩
  · obtain ⟨h1, h2, vs', n', h3, h4⟩ := y.muts q (.tail _ hq)
    exact ⟨h1, h2, vs', n', h3, h4.sub sb⟩
theorem Tri.freeze {body : List Stmt} {x : Str} {a : Addr} {ds : List V} (h : Tri B μ ((x, .lst ds) :: ρ) body Post) : Tri B ((x, a, ds) :: μ) ρ body Post := fun Kp γ s E y => h Kp γ s E y.freeze
end

section
variable {W : Wd} {k : Nat} {A : Around} {h₀ : Heap} {L : Addr} {env : Env} {X Y : List Addr} {h : Heap}
theorem rda_ints {X : List Addr} {h : Heap} : ∀ {vs : List Value} {ns : List Int}, RdA X h vs (zints ns) → IntsAre vs ns
  | _, [], .nil => .nil
  | _, n :: r, .cons a b => by cases a; exact .cons _ _ (rda_ints b)
theorem any_mem {ns : List Int} {k : Int} : ns.any (· == k) = decide (k ∈ ns) := by
  rw [Bool.eq_iff_iff]
  simp only [List.any_eq_true, beq_iff_eq, decide_eq_true_eq]
  exact ⟨fun ⟨x, h1, h2⟩ => h2 ▸ h1, fun h => ⟨k, h, rfl⟩⟩
theorem bt_in {l r : Expr} {pos : Pos} {a : Int} {ns : List Int} (ha : Ev W A env [] h l (.int a)) (hb : Ev W A env [] h r (.lst (zints ns))) (hm : behindInMarks .In r = false := by with_unfolding_all rfl) : Bt W A env h (.Compare l [.In] [r] pos) (decide (a ∈ ns)) :=
  bt_cmp ha hb (fun s u v Q E _ ru rv f => by
    cases ru
    cases rv with
    | @lst x vs n _ ea _ ra => exact in_list_ints ⟨_, ea, rfl, n, rfl⟩ (rda_ints ra) (by rw [any_mem]; exact f _ (Gw.refl s))) hm
theorem bt_notin {l r : Expr} {pos : Pos} {a : Int} {ns : List Int} (ha : Ev W A env [] h l (.int a)) (hb : Ev W A env [] h r (.lst (zints ns))) (hm : behindInMarks .NotIn r = false := by with_unfolding_all rfl) : Bt W A env h (.Compare l [.NotIn] [r] pos) (!decide (a ∈ ns)) :=
  bt_cmp ha hb (fun s u v Q E _ ru rv f => by
    cases ru
    cases rv with
    | @lst x vs n _ ea _ ra => exact notin_list_ints ⟨_, ea, rfl, n, rfl⟩ (rda_ints ra) (by rw [any_mem]; exact f _ (Gw.refl s))) hm
theorem ev_pow {l r : Expr} {pos : Pos} {a b : Int} (ha : Ev W A env [] h l (.int a)) (hb : Ev W A env [] h r (.int b)) (h0 : 0 ≤ b) (h1 : b ≤ 1000000) (h2 : a.natAbs < 2 ^ 64 := by decide) : Ev W A env X h (.BinOp l .Pow r pos) (.int (a ^ b.toNat)) :=
  ev_bin ha hb fun s u v Q E _ ru rv f => by cases ru; cases rv; exact PyProof.Rows.pow_int_small h0 h1 h2 (f _ _ (Gw.toks s _) (.int _ _))

theorem newEnv_cell {scope : Scope} {globals : Addr} {cl : List (Str × Addr)} {qual : Str} {x : Str} {s : Shared} {M : Model} {E : Value → Shared → Prop} {Q : Env → Shared → Prop} {around : Env}
    (hpc : ∀ h, pushCells h scope.names = h.push { cls := .type "cell", data := .cell none }) (hcf : ∀ n, cellsFrom n scope.names cl = (x, n) :: cl)
    (hQ : Q (newEnv scope s.heap.objs.size globals ((x, s.heap.objs.size + 1) :: cl) qual none .none (some around) builtinsNs) { s with heap := (s.heap.push { cls := .type "dict", data := .dict #[] }).push { cls := .type "cell", data := .cell none } }) :
    wpAny M A (newFunctionEnv scope globals cl [] qual none .none (some around)) Q E s := by
  simp only [newFunctionEnv, Option.isSome_some, if_true]
  refine wpAny_bind (wpAny_alloc ?_)
  refine wpAny_bind (wpAny_layCells _ (fun name kind cells => by cases hkc : kind == NameKind.cell <;> simp [hkc]) _ _ _ _ ?_)
  rw [hpc, hcf]
  rw [show ({ s with heap := s.heap.push { cls := .type "dict", data := .dict #[] } } : Shared).heap.objs.size = s.heap.objs.size + 1 from Heap.size_push ..]
  exact wpAny_bind (wpAny_pure (wpAny_pure hQ))

/-- a list comprehension whose variable is drawn upon by another one within it -/
theorem comp_genC {elt iter : Expr} {x : Str} {px pos : Pos} {scope : Scope} {cl : List (Str × Addr)} {n : Nat} {it : Nat → V} (g : Nat → V) (c : Cx W k A h₀ L env X h)
    (hpc : ∀ h, pushCells h scope.names = h.push { cls := .type "cell", data := .cell none }) (hcf : ∀ n, cellsFrom n scope.names cl = (x, n) :: cl)
    (hkind : scope.kind = .function) (hx : (relabel scope env).names.lookup x = some .cell)
    (hsrc : Src W A env X h iter n it) (hn : n ≤ sizeLine)
    (helt : ∀ i C D v h', i < n → Le h h' → h.get? D = none → Cx W k A h₀ L (compEnvC scope ((x, C + 1) :: cl) C env) (D :: X) h' → Var (compEnvC scope ((x, C + 1) :: cl) C env) h' x v → Rd X h' v (it i) → Ev W A (compEnvC scope ((x, C + 1) :: cl) C env) (D :: X) h' elt (g i)) :
    CompR W A env X h (.ListComp elt [⟨.Name x px, iter, [], 0⟩] scope pos) iter scope cl ((List.range n).map g) := by
  intro RR s E l fin
  refine hsrc s _ _ l fun I fp P St s₂ g₂ hIn Wk hst hfp hIs hit => ?_
  have l₂ : Le h s₂.heap := l.trans g₂.le
  refine wpAny_newObj_type (newEnv_cell hpc hcf ?_)
  dsimp only
  generalize hH2 : s₂.heap.push { cls := .type "list", dict := none, data := .seq ([] : List Value).toArray } = H2
  generalize hH4 : (H2.push { cls := .type "dict", data := .dict #[] }).push { cls := .type "cell", data := .cell none } = h₁
  have hC : H2.objs.size = s₂.heap.objs.size + 1 := by rw [← hH2, Heap.size_push]
  have hDC : s₂.heap.objs.size ≠ H2.objs.size := by rw [hC]; exact Nat.ne_of_lt (Nat.lt_succ_self _)
  have hns₁ : h₁.Ns H2.objs.size (fun _ => none) := by rw [← hH4]; exact (Heap.Ns.new H2 (.type "dict")).keeps fun _ _ e => Heap.get?_push_of_some _ e
  have hce₁ : h₁.IsCell (H2.objs.size + 1) none := by
    rw [← hH4]
    refine ⟨{ cls := .type "cell", data := .cell none }, ?_, rfl⟩
    rw [← Heap.size_push H2 { cls := .type "dict", data := .dict #[] }]
    exact Heap.get?_push_size _ rfl
  have old1 : ∀ b o, H2.get? b = some o → h₁.get? b = some o := fun b o e => by rw [← hH4]; exact Heap.get?_push_of_some _ (Heap.get?_push_of_some _ e)
  have old : ∀ b o, s₂.heap.get? b = some o → h₁.get? b = some o := fun b o e => old1 b o (hH2 ▸ Heap.get?_push_of_some _ e)
  have hacc : h₁.get? s₂.heap.objs.size = some (lstO [] 0) := old1 _ _ (hH2 ▸ Heap.get?_push_size _ rfl)
  have hst₁ : St 0 h₁ := Wk.frame _ _ _ hst fun b _ o e => old b o e
  have hIf : I ∈ fp := Wk.sub I (List.mem_singleton.mpr rfl)
  have hIlt : I < s₂.heap.objs.size := hfp I hIf
  have hIC : I ≠ H2.objs.size := by rw [hC]; exact Nat.ne_of_lt (Nat.lt_succ_of_lt hIlt)
  have hIc : I ≠ H2.objs.size + 1 := by rw [hC]; exact Nat.ne_of_lt (Nat.lt_succ_of_lt (Nat.lt_succ_of_lt hIlt))
  have hID : I ≠ s₂.heap.objs.size := Nat.ne_of_lt hIlt
  have hDc : s₂.heap.objs.size ≠ H2.objs.size + 1 := by rw [hC]; exact Nat.ne_of_lt (Nat.lt_succ_of_lt (Nat.lt_succ_self _))
  have hDf : s₂.heap.objs.size ∉ fp := fun hm => Nat.lt_irrefl _ (hfp _ hm)
  have hcf' : H2.objs.size + 1 ∉ fp := fun hm => by
    have := hfp _ hm
    rw [hC] at this
    exact absurd (Nat.lt_of_succ_lt (Nat.lt_of_succ_lt this)) (Nat.lt_irrefl _)
  have fresh : ∀ a, s₂.heap.objs.size ≤ a → s₂.heap.get? a = none := fun a ha => by
    cases e : s₂.heap.get? a with
    | none => rfl
    | some o' => exact absurd (Heap.lt_size e) (Nat.not_lt.mpr ha)
  have hD₀ : s₂.heap.get? s₂.heap.objs.size = none := fresh _ (Nat.le_refl _)
  have hC₀ : s₂.heap.get? H2.objs.size = none := fresh _ (by rw [hC]; exact Nat.le_succ _)
  have hc₀ : s₂.heap.get? (H2.objs.size + 1) = none := fresh _ (by rw [hC]; exact Nat.le_succ_of_le (Nat.le_succ _))
  have hDX : s₂.heap.objs.size ∉ X := c.fresh l₂
  have hhI : h.get? I = none := by
    cases e : h.get? I with
    | none => rfl
    | some o => have := l _ _ e; rw [hIn] at this; cases this
  have hek : (compEnvC scope ((x, H2.objs.size + 1) :: cl) H2.objs.size env).kindOf x = some .cell := hx
  have hlk : (compEnvC scope ((x, H2.objs.size + 1) :: cl) H2.objs.size env).cells.lookup x = some (H2.objs.size + 1) := by show List.lookup x ((x, H2.objs.size + 1) :: cl) = _; rw [List.lookup_cons, beq_self_eq_true]
  have loop : ∀ s₃ : Shared, s₃ = { s₂ with heap := h₁ } →
      codeAny (model W.prog W.w) A (.compLoop (.ListComp elt [⟨.Name x px, iter, [], 0⟩] scope pos) 0 (.ref I) (.ref s₂.heap.objs.size) (compEnvC scope ((x, H2.objs.size + 1) :: cl) H2.objs.size env))
        (RR (.ref s₂.heap.objs.size) H2.objs.size) s₃ := by
    rintro s₃ rfl
    refine codeAny_compLoop_tests (fun q s' => ∃ h' tk i ys m m' u, s' = { s₂ with heap := h', toks := tk } ∧ i ≤ n ∧ q = n + 1 - i ∧ St i h' ∧ h'.Ns H2.objs.size m' ∧ h'.IsCell (H2.objs.size + 1) u ∧ h'.get? s₂.heap.objs.size = some (lstO ys m) ∧ RdA (s₂.heap.objs.size :: X) h' ys ((List.range i).map g) ∧
      (∀ b o, b ≠ I → s₂.heap.get? b = some o → h'.get? b = some o)) ?_ (n + 1) ⟨h₁, _, 0, [], 0, _, none, rfl, Nat.zero_le _, rfl, hst₁, hns₁, hce₁, hacc, .nil, fun b o _ e => old b o e⟩
    rintro q s' ⟨h', tk, i, ys, mm, m', u', rfl, hi, rfl, hst', hn', hc', hD', hys, hk'⟩
    have lh' : Le h h' := fun b o e => hk' b o (fun z => by rw [z, hhI] at e; cases e) (l₂ b o e)
    obtain ⟨oI, heI, hnI⟩ := hIs _ _ hst'
    by_cases hlt : i < n
    · refine Wk.item i _ _ _ hlt hst' fun v h₂ tk₂ hPv hst₂ hk₂ => ?_
      have hk₂' : ∀ b o, b ≠ I → h'.get? b = some o → h₂.get? b = some o := fun b o hb e => hk₂ b o (by simpa using hb) e
      have hc₂ : h₂.IsCell (H2.objs.size + 1) u' := by
        obtain ⟨o, e, d⟩ := hc'
        exact ⟨o, hk₂' _ o (Ne.symm hIc) e, d⟩
      refine wpAny_assign_Name (wpAny_storeName_cell hkind hek hlk hc₂ fun h₃ hc₃ hs₃ => ?_)
      have k3 : ∀ b o, b ≠ I → s₂.heap.get? b = some o → h₃.get? b = some o := fun b o hb e => hs₃.extBut b o (fun z => by rw [z, hc₀] at e; cases e) (hk₂' b o hb (hk' b o hb e))
      have lh₃ : Le h h₃ := fun b o e => k3 b o (fun z => by rw [z, hhI] at e; cases e) (l₂ b o e)
      have hst₃ : St (i + 1) h₃ := Wk.frame _ _ _ hst₂ fun b hb o e => hs₃.extBut b o (fun z => hcf' (z ▸ hb)) e
      have hD₃ : h₃.get? s₂.heap.objs.size = some (lstO ys mm) := hs₃.extBut _ _ hDc (hk₂' _ _ (Ne.symm hID) hD')
      have hn₃ : h₃.Ns H2.objs.size m' := (hn'.at' fun o e => hk₂' _ o (Ne.symm hIC) e).sameBut hs₃ (Nat.ne_of_lt (Nat.lt_succ_self _))
      have hys₃ : RdA (s₂.heap.objs.size :: X) h₃ ys ((List.range i).map g) := hys.move fun b o e sq hx => ⟨hs₃.extBut b o (fun z => cell_notSq hc' _ (z ▸ e) sq) (hk₂' b o (fun z => hnI (by rw [z, heI] at e; cases e; exact sq)) e), hx⟩
      have rdv : Rd X h₃ v (it i) := hit i v h₃ hlt hPv k3
      have cx₃ : Cx W k A h₀ L (compEnvC scope ((x, H2.objs.size + 1) :: cl) H2.objs.size env) (s₂.heap.objs.size :: X) h₃ := ⟨c.cn.le lh₃, hkind, c.eg, c.eb, fun a ha => (List.mem_cons.mp ha).elim (fun e => ⟨_, e ▸ hD₃⟩) ((c.le lh₃).xs a)⟩
      have vx₃ : Var (compEnvC scope ((x, H2.objs.size + 1) :: cl) H2.objs.size env) h₃ x v := .inr ⟨.inl hek, _, hlk, hc₃⟩
      refine wpAny_tests_nil ?_
      simp only [if_true]
      refine helt i _ s₂.heap.objs.size v h₃ hlt lh₃ ?_ cx₃ vx₃ rdv _ _ _ (Le.refl _) fun y s₅ g₅ r₅ => ?_
      · cases e : h.get? s₂.heap.objs.size with
        | none => rfl
        | some o => exact absurd (Heap.lt_size (l₂ _ _ e)) (Nat.lt_irrefl _)
      obtain ⟨⟨h₅, tk₅, rfl⟩, le₅⟩ := g₅
      have hD₅ := le₅ _ _ hD₃
      have hys₅ := hys₃.le le₅
      refine append_at hD₅ (fun h₆ hs₆ hD₆ => ?_) (by rw [List.size_toArray, hys.length, List.length_map, List.length_range]; exact Nat.le_trans hi hn)
      have mv6 : ∀ {v d}, Rd (s₂.heap.objs.size :: X) h₅ v d → Rd (s₂.heap.objs.size :: X) h₆ v d := fun r => r.move fun b o e sq hx => ⟨hs₆.extBut b o (fun z => hx (z ▸ .head _)) e, hx⟩
      have mv6A : ∀ {v d}, RdA (s₂.heap.objs.size :: X) h₅ v d → RdA (s₂.heap.objs.size :: X) h₆ v d := fun r => r.move fun b o e sq hx => ⟨hs₆.extBut b o (fun z => hx (z ▸ .head _)) e, hx⟩
      have e2 : h₆.get? s₂.heap.objs.size = some (lstO (ys ++ [y]) (mm + 1)) := by rw [hD₆, List.push_toArray]
      refine ⟨n + 1 - (i + 1), by omega, h₆, tk₅, i + 1, ys ++ [y], mm + 1, m', some v, rfl, hlt, rfl, ?_, (hn₃.keeps le₅).sameBut hs₆ (Ne.symm hDC), (hc₃.keeps le₅).sameBut hs₆ (Ne.symm hDc), e2, ?_, fun b o hb e => hs₆.extBut b o (fun z => by rw [z, hD₀] at e; cases e) (le₅ b o (k3 b o hb e))⟩
      · exact Wk.frame _ _ _ hst₃ fun b hb o e => hs₆.extBut b o (fun z => hDf (z ▸ hb)) (le₅ b o e)
      · rw [List.range_succ, List.map_append]
        exact (mv6A hys₅).append (.cons (mv6 r₅) .nil)
    · obtain rfl : i = n := by omega
      refine Wk.done _ _ _ hst' fun h₂ tk₂ hk₂ => ?_
      have hk₂' : ∀ b o, b ≠ I → h'.get? b = some o → h₂.get? b = some o := fun b o hb e => hk₂ b o (by simpa using hb) e
      have hn₂ : h₂.Ns H2.objs.size m' := hn'.at' fun o e => hk₂' _ o (Ne.symm hIC) e
      have lk : ∀ b o, b ≠ I → s₂.heap.get? b = some o → h₂.get? b = some o := fun b o hb e => hk₂' b o hb (hk' b o hb e)
      have les : Le s.heap h₂ := fun b o e => lk b o (fun z => by rw [z, hIn] at e; cases e) (g₂.le b o e)
      have hys₃ : RdA (s₂.heap.objs.size :: X) h₂ ys ((List.range i).map g) := hys.move fun b o e sq hx => ⟨hk₂' b o (fun z => hnI (by rw [z, heI] at e; cases e; exact sq)) e, hx⟩
      have nos : ∀ b, s₂.heap.get? b = none → s.heap.get? b = none := fun b hb => by
        cases q : s.heap.get? b with
        | none => rfl
        | some o => rw [g₂.le b o q] at hb; cases hb
      exact fin s₂.heap.objs.size H2.objs.size ys mm m' _ (g₂.same.elim fun hh q => q.elim fun tt e => ⟨⟨h₂, tk₂, by rw [e]⟩, les⟩) (nos _ hD₀) (nos _ hC₀) (Ne.symm hDC) hn₂ (hk₂' _ _ (Ne.symm hID) hD') hDX hys₃
  exact codeAny_compStart_list (loop _ rfl) (Wk.self 0 _ _ _ hst₁ (loop _ rfl))
end
end Mine
namespace Mine
open PySem PySem.Calls PySem.Spec PyProof.Rows
theorem execs_app {M : Model} {A : Around} {E : Value → Shared → Prop} {env : Env} {pre rest : List Stmt} {Q : Flow → Shared → Prop} {s : Shared} (h : wpAny M A (execs pre env) (fun f s' => match f with | .next => wpAny M A (execs rest env) Q E s' | f => Q f s') E s) : wpAny M A (execs (pre ++ rest) env) Q E s := fun Γ p hΓ => by
  have key : ∀ (pre : List Stmt) p s, Sem.wp M Γ (execs pre env) (fun f p' s' => match f with | .next => Sem.wp M Γ (execs rest env) (fun a _ s' => Q a s') (fun e _ s' => E e s') p' s' | f => Q f s') (fun e _ s' => E e s') p s → Sem.wp M Γ (execs (pre ++ rest) env) (fun a _ s' => Q a s') (fun e _ s' => E e s') p s := by
    intro pre
    induction pre with
    | nil => intro p s h; exact h
    | cons st r ih =>
      intro p s h
      rw [List.cons_append, execs_cons, Sem.wp_bind']
      rw [execs_cons, Sem.wp_bind'] at h
      refine Sem.wp_mono M Γ _ (fun f p' s' h' => ?_) (fun _ _ _ h' => h') _ _ h
      cases f <;> first | exact ih _ _ h' | exact h'
  exact key pre p s (Sem.wp_mono M Γ _ (fun f p' s' h' => by cases f <;> first | exact h' Γ p' hΓ | exact h') (fun _ _ _ h' => h') _ _ (h Γ p hΓ))

section
variable {W : Wd} {A : Around} {env : Env} {X : List Addr} {h : Heap}
theorem ev_isT {l r : Expr} {pos : Pos} {n m : String} (ha : Ev W A env [] h l (.typ n)) (hb : Ev W A env [] h r (.typ m)) (hm : behindInMarks .Is r = false := by with_unfolding_all rfl) : Ev W A env X h (.Compare l [.Is] [r] pos) (.bool (decide (n = m))) :=
  ev_cmp ha hb (fun s u v Q E _ ru rv f => by
    cases ru; cases rv
    refine wpAny_pure (a := Value.bool (Value.type n == Value.type m)) ?_
    have : (Value.type n == Value.type m) = decide (n = m) := by
      by_cases h : n = m
      · subst h; simp
      · simp [h]
    rw [this]
    exact f _ s (Gw.refl s) (.bool _)) hm
end
end Mine
namespace Mine
open PySem PySem.Calls PySem.Spec PyProof.Rows
set_option maxRecDepth 100000
def forBody : Stmt → List Stmt
  | .For _ _ b _ _ => b
  | _ => []
def whileBody : Stmt → List Stmt
  | .While _ b _ _ => b
  | _ => []
theorem cut_zints {m : List Int} {lo hi : Option Int} : cut (zints m) lo hi = zints (cut m lo hi) := by
  unfold cut zints
  rw [List.map_drop]
  cases hi with
  | none => rfl
  | some y => simp only [Option.elim, List.map_take]
/-- the words behind a head -/
def fldI (m : List Int) (a : Int) : List Int := cut m (some (a + 1)) (some (a + 1 + m.getD a.toNat 0))
namespace L14
abbrev st (i : Nat) : Stmt := (PySem.Challenge.pw_k19_0014.main.body).getD i (.Pass ⟨0, 0, 0, 0⟩)
structure Fns (W : Wd) : Prop where
  N : Std W
  isptr : HasDef W "is_pointer" (st 1)
  addr : HasDef W "address_of" (st 2)
  fields : HasDef W "fields_of" (st 3)
  reach : HasDef W "reachable" (st 4)
  cell : HasDef W "_law_cell" (st 6)
  word : HasDef W "_law_word" (st 7)
  free : HasDef W "_law_free" (st 8)
  firsts : HasDef W "_law_firsts" (st 9)
local macro_rules | `(tactic| walk_at "Mv") => `(tactic| first
  | exact ev_int | exact ev_none | exact ev_bool | exact ev_str
  | exact ev_nm (by assumption) (by rfl)
  | exact ev_rho (by assumption) (by rfl)
  | exact ev_rho0 (by assumption) (by rfl)
  | exact ev_mu0 (by assumption) (List.Mem.head _)
  | (refine ev_add ?_ ?_ <;> walk_at "Mv")
  | (refine ev_sub ?_ ?_ <;> walk_at "Mv")
  | (refine ev_mulL ?_ ?_ <;> walk_at "Mv")
  | (refine ev_mod ?_ ?_ <;> walk_at "Mv")
  | (refine ev_div ?_ ?_ <;> walk_at "Mv")
  | (refine ev_neg ?_ <;> walk_at "Mv")
  | (refine ev_ltI ?_ ?_ <;> walk_at "Mv")
  | (refine ev_abs (evv_built (Sat.cx (by assumption)) (Fns.N (by assumption)).abs.1 (Fns.N (by assumption)).abs.2) ?_; walk_at "Mv")
  | (refine ev_len (evv_built (Sat.cx (by assumption)) (Fns.N (by assumption)).len.1 (Fns.N (by assumption)).len.2) ?_ ?_; (walk_at "Mv"); (first | assumption | omega | (rw [ints_len]; omega))))
local macro_rules | `(tactic| walk_at "Mb") => `(tactic| first
  | (refine bt_eqI ?_ ?_ <;> walk_at "Mv")
  | (refine bt_neI ?_ ?_ <;> walk_at "Mv")
  | (refine bt_ltI ?_ ?_ <;> walk_at "Mv")
  | (refine bt_leI ?_ ?_ <;> walk_at "Mv")
  | (refine bt_gtI ?_ ?_ <;> walk_at "Mv")
  | (refine bt_geI ?_ ?_ <;> walk_at "Mv"))


theorem isptr_c {W : Wd} {f : Addr} {doc pm cdv ct : Value} {an : Option Addr} {k : Nat} (F : Fns W) (hd : W.defs f (fdOf "is_pointer" (st 1) doc pm an cdv ct)) {w : Int} : FnC W (k + 1) f [.int w] (.bool (decide (w % 2 = 1))) := by
  refine fnc_def (ps := ["w"]) hd ?_ (by decide) rfl ?_ (by decide) rfl rfl rfl ?_
  · intro vs hv
    match vs, hv with
    | [a], _ => rfl
  · intro n x hx
    rw [List.mem_singleton.mp hx]; exact .inl rfl
  · intro A h₀ L X₀ s₀
    exact tri_cons (tri_ret (fun Kp γ s y => ev_eqI (by walk_at "Mv") ev_int) (.inl rfl))
theorem addr_c {W : Wd} {f : Addr} {doc pm cdv ct : Value} {an : Option Addr} {k : Nat} (F : Fns W) (hd : W.defs f (fdOf "address_of" (st 2) doc pm an cdv ct)) {w : Int} : FnC W (k + 1) f [.int w] (.int (w / 2)) := by
  refine fnc_def (ps := ["w"]) hd ?_ (by decide) rfl ?_ (by decide) rfl rfl rfl ?_
  · intro vs hv
    match vs, hv with
    | [a], _ => rfl
  · intro n x hx
    rw [List.mem_singleton.mp hx]; exact .inl rfl
  · intro A h₀ L X₀ s₀
    exact tri_cons (tri_ret (fun Kp γ s y => by walk_at "Mv") (.inl rfl))
theorem fields_c {W : Wd} {f : Addr} {doc pm cdv ct : Value} {an : Option Addr} {k : Nat} (F : Fns W) (hd : W.defs f (fdOf "fields_of" (st 3) doc pm an cdv ct)) {m : List Int} {a : Int} (h0 : 0 ≤ a) (h1 : a < m.length) (h2 : 0 ≤ m.getD a.toNat 0) (hz : m.length < 2 ^ 20) : FnC W (k + 1) f [.lst (zints m), .int a] (.lst (zints (fldI m a))) := by
  refine fnc_def (ps := ["mem", "a"]) hd ?_ (by decide) rfl ?_ (by decide) rfl rfl rfl ?_
  · intro vs hv
    match vs, hv with
    | [a, b], _ => rfl
  · intro n x hx
    simp only [List.mem_cons, List.not_mem_nil, or_false] at hx
    rcases hx with rfl | rfl <;> exact .inl rfl
  · intro A h₀ L X₀ s₀
    have hsl : (2 : Nat) ^ 20 ≤ sizeLine := by decide
    refine tri_cons (tri_ret (fun Kp γ s y => ?_) (.inl rfl))
    unfold fldI
    rw [← cut_zints]
    exact EvF.ev (evf_slice y.cx (by walk_at "Mv") (show EvP _ _ _ _ (some _) (some (a + 1)) from by show Ev _ _ _ _ _ _ _; walk_at "Mv") (show EvP _ _ _ _ (some _) (some (a + 1 + m.getD a.toNat 0)) from by
      show Ev _ _ _ _ _ _ _
      exact ev_add (by walk_at "Mv") (ev_item (ds := zints m) (j := a) (by walk_at "Mv") (by walk_at "Mv") h0 (ints_get h0 h1) (by omega))) (fun i h => by cases h; omega) (fun i h => by cases h; omega) (fun _ _ r => r.flat flat_ints) (by rw [ints_len]; omega))

set_option maxHeartbeats 4000000 in
theorem reach_c {W : Wd} {f : Addr} {doc pm cdv ct : Value} {an : Option Addr} {k : Nat} (F : Fns W) (hd : W.defs f (fdOf "reachable" (st 4) doc pm an cdv ct)) {m roots S R : List Int} (hz : m.length < 2 ^ 20) (hrl : roots.length < 1000) (hSl : S.length < 1000) (hS : ∀ a ∈ S, 0 ≤ a ∧ a < m.length ∧ 0 ≤ m.getD a.toNat 0)
    (c : Closed (fldI m) roots S) (h1 : Fix (fldI m) roots R) (h2 : Prod' (fldI m) roots R) : FnC W (k + 1 + 1) f [.lst (zints m), .lst (zints roots)] (.lst (zints R)) := by
  refine fnc_def (ps := ["mem", "roots"]) hd ?_ (by decide) rfl ?_ (by decide) rfl rfl rfl ?_
  · intro vs hv
    match vs, hv with
    | [a, b], _ => rfl
  · intro n x hx
    simp only [List.mem_cons, List.not_mem_nil, or_false] at hx
    rcases hx with rfl | rfl <;> exact .inl rfl
  intro A h₀ L X₀ s₀
  have hsl : (2 : Nat) ^ 20 ≤ sizeLine := by decide
  have step : ∀ {i : Stmt} {l : Addr} {met : List Int} {w : Int} {ρ : Rho} {Post : Fl → Mu → Rho → Prop}, (i = (forBody ((fnBody (st 4)).getD 1 (.Pass ⟨0, 0, 0, 0⟩))).getD 0 (.Pass ⟨0, 0, 0, 0⟩) ∨ i = (forBody ((whileBody ((fnBody (st 4)).getD 3 (.Pass ⟨0, 0, 0, 0⟩))).getD 0 (.Pass ⟨0, 0, 0, 0⟩))).getD 0 (.Pass ⟨0, 0, 0, 0⟩)) → ρ.lookup ("w" : Str) = some (V.int w) → met.length < 2 ^ 20 → Post .next [(("met" : Str), l, zints (stepW met w))] ρ →
      Tr1 ⟨W, k + 1, A, h₀, callEnvC (fdOf "reachable" (st 4) doc pm an cdv ct) L f, X₀, s₀⟩ [(("met" : Str), l, zints met)] ρ i Post := by
    intro i l met w ρ Post hi hw hml hP
    have e1 : ∀ {Kp γ s p q r}, Sat ⟨W, k + 1, A, h₀, callEnvC (fdOf "reachable" (st 4) doc pm an cdv ct) L f, X₀, s₀⟩ Kp γ [(("met" : Str), l, zints met)] ρ s → Ev W A (callEnvC (fdOf "reachable" (st 4) doc pm an cdv ct) L f) [] s.heap (.Call (.Name "is_pointer" p) [.Name "w" q] [] r) (.bool (decide (w % 2 = 1))) := fun y =>
      ev_fn (X := []) y F.isptr (fun f doc pm an cdv ct h => isptr_c F h) sub_nil (eva_cons (ev_nm y hw) eva_nil)
    have e2 : ∀ {Kp γ s p q r}, Sat ⟨W, k + 1, A, h₀, callEnvC (fdOf "reachable" (st 4) doc pm an cdv ct) L f, X₀, s₀⟩ Kp γ [(("met" : Str), l, zints met)] ρ s → Ev W A (callEnvC (fdOf "reachable" (st 4) doc pm an cdv ct) L f) [] s.heap (.Call (.Name "address_of" p) [.Name "w" q] [] r) (.int (w / 2)) := fun y =>
      ev_fn (X := []) y F.addr (fun f doc pm an cdv ct h => addr_c F h) sub_nil (eva_cons (ev_nm y hw) eva_nil)
    rcases hi with rfl | rfl
    all_goals
      refine tri_if (b := (decide (w % 2 = 1) && (!decide (w / 2 ∈ met) && true))) (fun Kp γ s y => bt_and (bt_val (e1 y)) fun _ => bt_and (bt_notin (e2 y) (ev_mu0 y (.head _))) fun _ => bt_and_nil) ?_
      unfold stepW at hP
      by_cases hc : w % 2 = 1 ∧ w / 2 ∉ met
      · rw [if_pos hc] at hP
        rw [decide_eq_true hc.1, decide_eq_false hc.2]
        refine tri_cons (tri_append (μ₁ := []) (μ₂ := []) (d := .int (w / 2)) rfl (fun Kp γ s y => (e2 y).flat rfl) (by rw [ints_len]; omega) ?_)
        refine tri_nil ?_
        have ez : zints met ++ [V.int (w / 2)] = zints (met ++ [w / 2]) := by simp [zints]
        rw [List.nil_append, ez]
        exact hP
      · rw [if_neg hc] at hP
        have : (decide (w % 2 = 1) && (!decide (w / 2 ∈ met) && true)) = false := by
          by_cases q : w % 2 = 1
          · by_cases q2 : w / 2 ∈ met
            · simp [q2]
            · exact absurd ⟨q, q2⟩ hc
          · simp [q]
        rw [this]
        exact tri_nil hP
  refine tri_cons (tri_assignM (.inl rfl) (fun Kp γ s y => evf_list y.cx eva_nil) (fun l => ?_))
  refine tri_cons (tri_forL (ds := zints roots) (fun i μ ρ => ∃ l, μ = [(("met" : Str), l, zints (addAll [] (roots.take i)))] ∧ ρ = [(("mem" : Str), V.lst (zints m)), (("roots" : Str), V.lst (zints roots))]) (.inl rfl) (fun Kp γ s y => by walk_at "Mv") ⟨l, rfl, rfl⟩ ?_ ?_ ?_)
  · rintro i μ' ρ' ⟨l, rfl, _⟩
    rfl
  · rintro i d μ' ρ' hd ⟨l, rfl, rfl⟩
    unfold zints at hd
    rw [List.getElem?_map] at hd
    obtain ⟨w, hw, rfl⟩ := Option.map_eq_some_iff.mp hd
    have hi : i < roots.length := (List.getElem?_eq_some_iff.mp hw).1
    refine tri_cons (step (w := w) (.inl rfl) rfl ?_ ?_)
    · have : (addAll [] (roots.take i)).length ≤ S.length := nodup_le (addAll_nodup List.nodup_nil) fun a ha => by
        rcases mem_addAll.mp ha with h | ⟨w, hw, h1, h2⟩
        · cases h
        · rw [← h2]; exact c.r w (List.mem_of_mem_take hw) h1
      omega
    · refine tri_end (ρ' := [(("mem" : Str), V.lst (zints m)), (("roots" : Str), V.lst (zints roots))]) ⟨rfl, rfl, trivial⟩ ⟨l, ?_, rfl⟩
      rw [List.take_succ_eq_append_getElem hi, addAll_snoc, (List.getElem?_eq_some_iff.mp hw).2]
  · rintro μ' ρ' ⟨l, rfl, rfl⟩
    rw [ints_len, List.take_length]
    refine tri_cons (tri_assign (d := .int ((0 : Nat) : Int)) (.inl rfl) (fun Kp γ s y => ev_int) ?_)
    refine tri_cons (tri_while S.length (fun i μ ρ => ∃ l met, μ = [(("met" : Str), l, zints met)] ∧ ρ = [(("place" : Str), V.int (i : Int)), (("mem" : Str), V.lst (zints m)), (("roots" : Str), V.lst (zints roots))] ∧ BfsI (fldI m) roots S met i) (fun i μ ρ => match μ with | [(_, _, ds)] => decide ((i : Int) < (ds.length : Int)) | _ => false) ⟨l, _, rfl, rfl, bfs_start c⟩ ?_ ?_ ?_)
    · rintro i μ' ρ' ⟨l, met, rfl, rfl, b⟩ Kp γ s y
      have := bfs_len b
      have hml : (zints met).length < 2 ^ 62 := by rw [ints_len]; omega
      exact bt_ltI (by walk_at "Mv") (ev_len (evv_built y.cx F.N.len.1 F.N.len.2) (ev_mu0 y (.head _)) hml)
    · rintro i μ' ρ' ⟨l, met, rfl, rfl, b⟩ hg
      have hi : i < met.length := by
        have := of_decide_eq_true hg
        rw [ints_len] at this
        omega
      have hml := bfs_len b
      refine ⟨by omega, ?_⟩
      obtain ⟨a, ha⟩ : ∃ a, met[i]? = some a := ⟨_, List.getElem?_eq_getElem hi⟩
      have haS := hS a (b.sub a (List.mem_of_getElem? ha))
      have hfl : (fldI m a).length < 2 ^ 20 := by
        unfold fldI cut
        simp only [Option.elim, List.length_drop, List.length_take]
        omega
      refine tri_cons (tri_forL (ds := zints (fldI m a)) (fun j μ ρ => ∃ l, μ = [(("met" : Str), l, zints (addAll met ((fldI m a).take j)))] ∧ ρ = [(("place" : Str), V.int (i : Int)), (("mem" : Str), V.lst (zints m)), (("roots" : Str), V.lst (zints roots))]) (.inl rfl) (fun Kp γ s y => ?_) ⟨l, rfl, rfl⟩ ?_ ?_ ?_)
      · refine ev_fn y F.fields (fun f doc pm an cdv ct h => fields_c F h haS.1 haS.2.1 haS.2.2 hz) sub_self (eva_cons (by walk_at "Mv") (eva_cons ((ev_item (X := []) (ds := zints met) (j := (i : Int)) (ev_mu0 y (.head _)) (by walk_at "Mv") (by omega) ?_ (by omega)).flat rfl) eva_nil))
        rw [ints_get (by omega) (by omega), Int.toNat_natCast, List.getD_eq_getElem?_getD, ha]; rfl
      · rintro j μ' ρ' ⟨l, rfl, _⟩
        rfl
      · rintro j d μ' ρ' hd ⟨l, rfl, rfl⟩
        unfold zints at hd
        rw [List.getElem?_map] at hd
        obtain ⟨w, hw, rfl⟩ := Option.map_eq_some_iff.mp hd
        have hj : j < (fldI m a).length := (List.getElem?_eq_some_iff.mp hw).1
        refine tri_cons (step (w := w) (.inr rfl) rfl ?_ ?_)
        · have : (addAll met ((fldI m a).take j)).length ≤ S.length := nodup_le (addAll_nodup (by rw [b.eq]; exact Gf_nodup)) fun x hx => by
            rcases mem_addAll.mp hx with h | ⟨w, hw, h1, h2⟩
            · exact b.sub x h
            · rw [← h2]; exact c.f a (b.sub a (List.mem_of_getElem? ha)) w (List.mem_of_mem_take hw) h1
          omega
        · refine tri_end (ρ' := [(("place" : Str), V.int (i : Int)), (("mem" : Str), V.lst (zints m)), (("roots" : Str), V.lst (zints roots))]) ⟨rfl, rfl, rfl, trivial⟩ ⟨l, ?_, rfl⟩
          rw [List.take_succ_eq_append_getElem hj, addAll_snoc, (List.getElem?_eq_some_iff.mp hw).2]
      · rintro μ' ρ' ⟨l, rfl, rfl⟩
        rw [ints_len, List.take_length]
        refine tri_cons (tri_assign (d := .int ((i + 1 : Nat) : Int)) (.inl rfl) (fun Kp γ s y => by rw [show ((i + 1 : Nat) : Int) = (i : Int) + 1 by omega]; walk_at "Mv") ?_)
        exact tri_end (ρ' := [(("place" : Str), V.int ((i + 1 : Nat) : Int)), (("mem" : Str), V.lst (zints m)), (("roots" : Str), V.lst (zints roots))]) ⟨rfl, rfl, rfl, trivial⟩ ⟨l, _, rfl, rfl, bfs_step c b ha⟩
    · rintro i μ' ρ' ⟨l, met, rfl, rfl, b⟩ hg
      have hi : met.length ≤ i := by
        have := of_decide_eq_false hg
        rw [ints_len] at this
        omega
      obtain ⟨f1, f2⟩ := bfs_end b hi
      rw [fix_unique h1 h2 f1 f2]
      exact tri_cons (tri_ret (fun Kp γ s y => ev_mu y (.head _)) (.inl rfl))
end L14
end Mine
namespace Mine
open PySem PySem.Calls PySem.Spec PyProof.Rows
set_option maxRecDepth 100000
namespace L14
local macro_rules | `(tactic| walk_at "Mv") => `(tactic| first
  | exact ev_int | exact ev_none | exact ev_bool | exact ev_str
  | exact ev_nm (by assumption) (by rfl)
  | exact ev_rho (by assumption) (by rfl)
  | exact ev_rho0 (by assumption) (by rfl)
  | exact ev_mu0 (by assumption) (List.Mem.head _)
  | (refine ev_add ?_ ?_ <;> walk_at "Mv")
  | (refine ev_sub ?_ ?_ <;> walk_at "Mv")
  | (refine ev_mulL ?_ ?_ <;> walk_at "Mv")
  | (refine ev_mod ?_ ?_ <;> walk_at "Mv")
  | (refine ev_div ?_ ?_ <;> walk_at "Mv")
  | (refine ev_neg ?_ <;> walk_at "Mv")
  | (refine ev_ltI ?_ ?_ <;> walk_at "Mv")
  | (refine ev_abs (evv_built (Sat.cx (by assumption)) (Fns.N (by assumption)).abs.1 (Fns.N (by assumption)).abs.2) ?_; walk_at "Mv")
  | (refine ev_len (evv_built (Sat.cx (by assumption)) (Fns.N (by assumption)).len.1 (Fns.N (by assumption)).len.2) ?_ ?_; (walk_at "Mv"); (first | assumption | omega | (rw [ints_len]; omega))))
local macro_rules | `(tactic| walk_at "Mb") => `(tactic| first
  | (refine bt_eqI ?_ ?_ <;> walk_at "Mv")
  | (refine bt_neI ?_ ?_ <;> walk_at "Mv")
  | (refine bt_ltI ?_ ?_ <;> walk_at "Mv")
  | (refine bt_leI ?_ ?_ <;> walk_at "Mv")
  | (refine bt_gtI ?_ ?_ <;> walk_at "Mv")
  | (refine bt_geI ?_ ?_ <;> walk_at "Mv"))

def cell (ns : List Int) (i : Int) : Int := if i < ns.length then ns.getD i.toNat 0 else i
theorem cell_c {W : Wd} {f : Addr} {doc pm cdv ct : Value} {an : Option Addr} {k : Nat} (F : Fns W) (hd : W.defs f (fdOf "_law_cell" (st 6) doc pm an cdv ct)) {ns : List Int} {i : Int} (h0 : 0 ≤ i) (hz : ns.length < 2 ^ 62) :
    FnC W (k + 1) f [.lst (zints ns), .int i] (.int (cell ns i)) := by
  refine fnc_def (ps := ["script", "i"]) hd ?_ (by decide) rfl ?_ (by decide) rfl rfl rfl ?_
  · intro vs hv
    match vs, hv with
    | [a, b], _ => rfl
  · intro n x hx
    simp only [List.mem_cons, List.not_mem_nil, or_false] at hx
    rcases hx with rfl | rfl <;> exact .inl rfl
  · intro A h₀ L X₀ s₀
    refine tri_cons (tri_if (b := decide (i < ((zints ns).length : Int))) (fun Kp γ s y => by walk_at "Mb") ?_)
    rw [ints_len]
    unfold cell
    by_cases hi : i < (ns.length : Int)
    · rw [decide_eq_true hi, if_pos hi]
      refine tri_cons (tri_ret (d := .int (ns.getD i.toNat 0)) ?_ (.inl rfl))
      intro Kp γ s y
      refine ev_item (ds := zints ns) (j := i) ?_ ?_ h0 (ints_get h0 hi) (by omega)
      · walk_at "Mv"
      · walk_at "Mv"
    · rw [decide_eq_false hi, if_neg hi]
      refine tri_nil (tri_cons (tri_ret (d := .int i) ?_ (.inl rfl)))
      intro Kp γ s y
      walk_at "Mv"


def word (ats : List Int) (t v : Int) : Int := if t < ats.length then 2 * ats.getD t.toNat 0 + 1 else 2 * (v.natAbs : Int)
theorem word_c {W : Wd} {f : Addr} {doc pm cdv ct : Value} {an : Option Addr} {k : Nat} (F : Fns W) (hd : W.defs f (fdOf "_law_word" (st 7) doc pm an cdv ct)) {ats : List Int} {t v : Int} (h0 : 0 ≤ t) (hz : ats.length < 2 ^ 60) :
    FnC W (k + 1) f [.int t, .int v, .lst (zints ats)] (.int (word ats t v)) := by
  refine fnc_def (ps := ["t", "v", "at"]) hd ?_ (by decide) rfl ?_ (by decide) rfl rfl rfl ?_
  · intro vs hv
    match vs, hv with
    | [a, b, c], _ => rfl
  · intro n x hx
    simp only [List.mem_cons, List.not_mem_nil, or_false] at hx
    rcases hx with rfl | rfl | rfl <;> exact .inl rfl
  · intro A h₀ L X₀ s₀
    refine tri_cons (tri_if (b := decide (t < ((zints ats).length : Int))) (fun Kp γ s y => by walk_at "Mb") ?_)
    rw [ints_len]
    unfold word
    by_cases hi : t < (ats.length : Int)
    · rw [decide_eq_true hi, if_pos hi]
      refine tri_cons (tri_ret (d := .int (2 * ats.getD t.toNat 0 + 1)) ?_ (.inl rfl))
      intro Kp γ s y
      exact ev_add (ev_mulL ev_int (ev_item (ds := zints ats) (j := t) (by walk_at "Mv") (by walk_at "Mv") h0 (ints_get h0 hi) (by omega))) ev_int
    · rw [decide_eq_false hi, if_neg hi]
      exact tri_nil (tri_cons (tri_ret (d := .int (2 * (v.natAbs : Int))) (fun Kp γ s y => by walk_at "Mv") (.inl rfl)))

theorem zfree2 {g : Nat} : cut ([V.int (-(g : Int))] ++ List.replicate ((g : Int)).toNat (V.int 0)) none (some (g : Int)) = zints (freeI g) := by
  unfold cut freeI zints
  rw [Int.toNat_natCast]
  cases g with
  | zero => rfl
  | succ g => simp [List.take_succ_cons, List.take_replicate]
theorem free_c {W : Wd} {f : Addr} {doc pm cdv ct : Value} {an : Option Addr} {k : Nat} (F : Fns W) (hd : W.defs f (fdOf "_law_free" (st 8) doc pm an cdv ct)) {n : Nat} (hn : n < 1000) :
    FnC W (k + 1) f [.int (n : Int)] (.lst (zints (freeI n))) := by
  refine fnc_def (ps := ["g"]) hd ?_ (by decide) rfl ?_ (by decide) rfl rfl rfl ?_
  · intro vs hv
    match vs, hv with
    | [a], _ => rfl
  · intro n x hx
    rw [List.mem_singleton.mp hx]; exact .inl rfl
  · intro A h₀ L X₀ s₀
    have hsl : (2000 : Nat) ≤ sizeLine := by decide
    refine tri_cons (tri_ret (d := .lst (zints (freeI n))) (fun Kp γ s y => ?_) (.inl rfl))
    rw [← zfree2]
    refine EvF.ev (evf_slice (y.cx.sub fun a ha => List.mem_append.mpr (.inr ha)) (Y := []) (EvF.ev (evf_addX (y.cx.sub sub_nil) (EvF.ev (evf_list (y.cx.sub sub_nil) (eva_cons (by walk_at "Mv") eva_nil))) (EvF.ev (evf_mul (y.cx.sub sub_nil) (EvF.ev (evf_list (y.cx.sub sub_nil) (eva_cons (by walk_at "Mv") eva_nil))) (by walk_at "Mv") (by omega) (by omega))) (by simp; omega))) (show EvP _ _ _ _ none none from trivial) (show EvP _ _ _ _ (some _) (some (n : Int)) from by show Ev _ _ _ _ _ _ _; walk_at "Mv") (fun _ h => (nomatch h)) (fun i h => by cases h; omega) (fun _ _ r => r.flat ?_) (by simp; omega))
    intro x hx
    rcases List.mem_append.mp hx with h | h
    · rw [List.mem_singleton.mp h]; rfl
    · rw [List.eq_of_mem_replicate h]; rfl

def frs1 (n : Int) (nm : List Int) (k : Nat) : Bool := decide (nm.getD k 0 < n) && (!decide (nm.getD k 0 ∈ nm.take k) && true)
def firsts (n : Int) (nm : List Int) : List Int := ((List.range nm.length).filter (frs1 n nm)).map fun k => nm.getD k 0
theorem firsts_c {W : Wd} {f : Addr} {doc pm cdv ct : Value} {an : Option Addr} {k : Nat} (F : Fns W) (hd : W.defs f (fdOf "_law_firsts" (st 9) doc pm an cdv ct)) {nm : List Int} {n : Int} (hz : nm.length < 1000) :
    FnC W (k + 1) f [.lst (zints nm), .int n] (.lst (zints (firsts n nm))) := by
  refine fnc_def (ps := ["named", "n"]) hd ?_ (by decide) rfl ?_ (by decide) rfl rfl rfl ?_
  · intro vs hv
    match vs, hv with
    | [a, b], _ => rfl
  · intro n x hx
    simp only [List.mem_cons, List.not_mem_nil, or_false] at hx
    rcases hx with rfl | rfl <;> exact .inr ⟨rfl, rfl⟩
  · intro A h₀ L X₀ s₀
    have hsl : (2000 : Nat) ≤ sizeLine := by decide
    refine tri_cons (tri_ret (d := .lst (zints (firsts n nm))) (fun Kp γ s y => ?_) (.inl rfl))
    have cx := y.cx
    have e : zints (firsts n nm) = picked nm.length (frs1 n nm) fun k => .int (nm.getD k 0) := by simp [zints, firsts, picked]
    rw [e]
    refine EvF.ev (evf_compF (cl := [("named", L + 1), ("n", L + 2)]) (n := nm.length) (it := fun i => .int (i : Nat)) (frs1 n nm) (fun k => .int (nm.getD k 0)) (X := X₀) cx rfl (by decide) rfl (by decide) rfl ?_ (by omega) ?_ ?_ ?_)
    · rw [show nm.length = ((zints nm).length : Int).toNat by rw [ints_len]; rfl]
      exact src_range (N := ((zints nm).length : Int)) (X := []) cx.cn.hand (evv_built cx F.N.range.1 F.N.range.2) (ev_len (evv_built cx F.N.len.1 F.N.len.2) (ev_nm y rfl) (by rw [ints_len]; omega)) (by rw [ints_len]; omega) (by rw [ints_len]; omega)
    · intro i C v s' E Q hi l cx' vx r f
      have it : ∀ {p1 p2 p3}, Ev W A _ [] s'.heap (.Subscript (.Name "named" p1) (.Name "k" p2) p3) (.int (nm.getD i 0)) := fun {p1 p2 p3} => ev_item (ds := zints nm) (j := (i : Int)) (ev_free y l cx' rfl sub_nil) (ev_own cx' vx r) (by omega) (by rw [ints_get (by omega) (by omega)]; rfl) (by omega)
      refine one_test (bt_and (bt_ltI it (ev_free y l cx' rfl sub_nil)) fun _ => bt_and (bt_notin (ns := nm.take i) it ?_) fun _ => bt_and_nil) f
      have ez : zints (nm.take i) = cut (zints nm) none (some (i : Int)) := by
        rw [cut_zints]
        simp [cut]
      rw [ez]
      exact EvF.ev (evf_slice (Y := []) (cx'.sub sub_nil) (ev_free y l cx' rfl sub_nil) (show EvP _ _ _ _ none none from trivial) (show EvP _ _ _ _ (some _) (some (i : Int)) from by show Ev _ _ _ _ _ _ _; exact ev_own cx' vx r) (fun _ h => (nomatch h)) (fun i h => by cases h; omega) (fun _ _ r => r) (by rw [ints_len]; omega))
    · intro i C v h' hi _ l cx' vx r
      exact (ev_item (X := []) (ds := zints nm) (j := (i : Int)) (ev_free y l cx' rfl sub_nil) (ev_own cx' vx r) (by omega) (by rw [ints_get (by omega) (by omega)]; rfl) (by omega)).flat rfl
    · intro i hi
      rfl
end L14
end Mine
namespace Mine
open PySem PySem.Calls PySem.Spec PyProof.Rows
set_option maxRecDepth 100000
namespace L14
local macro_rules | `(tactic| walk_at "Mv") => `(tactic| first
  | exact ev_int | exact ev_none | exact ev_bool | exact ev_str
  | exact ev_nm (by assumption) (by rfl)
  | exact ev_rho (by assumption) (by rfl)
  | exact ev_rho0 (by assumption) (by rfl)
  | exact ev_mu0 (by assumption) (List.Mem.head _)
  | (refine ev_add ?_ ?_ <;> walk_at "Mv")
  | (refine ev_sub ?_ ?_ <;> walk_at "Mv")
  | (refine ev_mulL ?_ ?_ <;> walk_at "Mv")
  | (refine ev_mod ?_ ?_ <;> walk_at "Mv")
  | (refine ev_div ?_ ?_ <;> walk_at "Mv")
  | (refine ev_neg ?_ <;> walk_at "Mv")
  | (refine ev_ltI ?_ ?_ <;> walk_at "Mv")
  | (refine ev_abs (evv_built (Sat.cx (by assumption)) (Fns.N (by assumption)).abs.1 (Fns.N (by assumption)).abs.2) ?_; walk_at "Mv")
  | (refine ev_len (evv_built (Sat.cx (by assumption)) (Fns.N (by assumption)).len.1 (Fns.N (by assumption)).len.2) ?_ ?_; (walk_at "Mv"); (first | assumption | omega | (rw [ints_len]; omega))))
local macro_rules | `(tactic| walk_at "Mb") => `(tactic| first
  | (refine bt_eqI ?_ ?_ <;> walk_at "Mv")
  | (refine bt_neI ?_ ?_ <;> walk_at "Mv")
  | (refine bt_ltI ?_ ?_ <;> walk_at "Mv")
  | (refine bt_leI ?_ ?_ <;> walk_at "Mv")
  | (refine bt_gtI ?_ ?_ <;> walk_at "Mv")
  | (refine bt_geI ?_ ?_ <;> walk_at "Mv"))


theorem rng_get {f : Nat → Int} {m i : Nat} (h : i < m) : (zints ((List.range m).map f))[((i : Int)).toNat]? = some (.int (f i)) := by
  rw [Int.toNat_natCast]
  unfold zints
  rw [List.getElem?_map, List.getElem?_map, List.getElem?_range h]
  rfl
def nN (ns : List Int) : Nat := (1 + cell ns 0 % 5).toNat
theorem nN_eq (ns : List Int) : 1 + cell ns 0 % 5 = (nN ns : Int) := by unfold nN; omega
theorem nN_le (ns : List Int) : 1 ≤ nN ns ∧ nN ns ≤ 5 := by unfold nN; omega
def hand (ns : List Int) (i : Nat) : Int := cell ns (1 + (i : Nat))
def cntI (ns : List Int) (i : Nat) : Int := cell ns (5 + 2 * (i : Nat)) % 4
def gapI (ns : List Int) (i : Nat) : Int := cell ns (5 + 2 * (i : Nat)) / 4 % 3
def seedI (ns : List Int) (i : Nat) : Int := cell ns (6 + 2 * (i : Nat))
def edgeI (ns : List Int) (i j : Nat) : Int := (seedI ns i / 7 ^ j + (i : Nat) + (j : Nat)) % 7
def lst1 (m : Nat) (f : Nat → Int) : List Int := (List.range m).map f
theorem lst1_len {m : Nat} {f : Nat → Int} : (lst1 m f).length = m := by simp [lst1]
theorem lst1_get {f : Nat → Int} {m i : Nat} (h : i < m) : (zints (lst1 m f))[((i : Int)).toNat]? = some (.int (f i)) := rng_get h
theorem zlst {m : Nat} {f : Nat → Int} : zints (lst1 m f) = picked m (fun _ => true) fun i => .int (f i) := by rw [picked_all]; simp [zints, lst1]
def edges (ns : List Int) (i : Nat) : List Int := lst1 (cntI ns i).toNat (edgeI ns i)
def edgesV (ns : List Int) : List V := (List.range (nN ns)).map fun i => V.lst (zints (edges ns i))
def rho5 (ns : List Int) : Rho := [(("edges" : Str), V.lst (edgesV ns)), (("seeds" : Str), V.lst (zints (lst1 (nN ns) (seedI ns)))), (("gaps" : Str), V.lst (zints (lst1 (nN ns) (gapI ns)))), (("counts" : Str), V.lst (zints (lst1 (nN ns) (cntI ns)))), (("hands" : Str), V.lst (zints (lst1 4 (hand ns)))), (("n" : Str), V.int (nN ns : Int)), (("script" : Str), V.lst (zints ns))]

section
variable {B : Bd} {μ : Mu} {ρ : Rho} {Kp : Addr → Obj → Prop} {γ : List (Value × V)} {s : Shared}
theorem ev_cell {ns : List Int} {i : Int} {e : Expr} {p q pos : Pos} {X : List Addr} {k : Nat} (F : Fns B.W) (y : Sat B Kp γ μ ρ s) (hl : ρ.lookup ("script" : Str) = some (V.lst (zints ns))) (he : Ev B.W B.A B.env [] s.heap e (.int i)) (h0 : 0 ≤ i) (hz : ns.length < 2 ^ 62) (hk : B.k = k + 1)
    (hx : B.env.kindOf "_law_cell" = some .globalImplicit := by rfl) (hs1 : starEach [.Name "script" q, e] B.env = (false, eval (.Name "script" q) B.env) :: starEach [e] B.env := by rfl) (hs2 : starEach [e] B.env = (false, eval e B.env) :: starEach [] B.env := by rfl)
    (hev : eval (.Call (.Name "_law_cell" p) [.Name "script" q, e] [] pos) B.env = (do callWith pos (← eval (.Name "_law_cell" p) B.env) [] (backTo pos (starEach [.Name "script" q, e] B.env)) (backToKw pos (keywordEach [] B.env))) := by rfl) :
    Ev B.W B.A B.env X s.heap (.Call (.Name "_law_cell" p) [.Name "script" q, e] [] pos) (.int (cell ns i)) :=
  (ev_fn (X := []) y F.cell (fun f doc pm an cdv ct h => by rw [hk]; exact cell_c F h h0 hz) sub_nil (eva_cons (ev_nm y hl) (eva_cons he eva_nil hs2) hs1) hx (by decide) hs1 hev).flat rfl
end

abbrev LB (W : Wd) (k : Nat) (A : Around) (h₀ : Heap) (L f : Addr) (X₀ : List Addr) (s₀ : Shared) (doc pm cdv ct : Value) (an : Option Addr) : Bd := ⟨W, k + 1 + 1, A, h₀, callEnvC (fdOf "law" (st 10) doc pm an cdv ct) L f, X₀, s₀⟩

set_option maxHeartbeats 8000000 in
theorem law_head {W : Wd} {A : Around} {h₀ : Heap} {L f : Addr} {X₀ : List Addr} {s₀ : Shared} {k : Nat} {doc pm cdv ct : Value} {an : Option Addr} (F : Fns W) {ns : List Int} (hz : ns.length < 2 ^ 62) {Post : Fl → Mu → Rho → Prop} (h : Tri (LB W k A h₀ L f X₀ s₀ doc pm cdv ct an) [] (rho5 ns) (((fnBody (st 10)).take 20).drop 6) Post) :
    Tri (LB W k A h₀ L f X₀ s₀ doc pm cdv ct an) [] [(("script" : Str), .lst (zints ns))] ((fnBody (st 10)).take 20) Post := by
  have hsl : (2000 : Nat) ≤ sizeLine := by decide
  have hn := nN_le ns
  -- one comprehension over a range, with the script's cells
  have cl : ∀ {Kp γ s ρ}, Sat (LB W k A h₀ L f X₀ s₀ doc pm cdv ct an) Kp γ [] ρ s → ρ.lookup ("script" : Str) = some (V.lst (zints ns)) → ∀ {scope : Scope} {C : Addr} {h' : Heap} {e : Expr} {i : Int} {p q pos : Pos} {X : List Addr}, Le s.heap h' → Cx W (k + 1 + 1) A h₀ L (compEnvC scope [("script", L + 1)] C (LB W k A h₀ L f X₀ s₀ doc pm cdv ct an).env) X h' → Ev W A (compEnvC scope [("script", L + 1)] C (LB W k A h₀ L f X₀ s₀ doc pm cdv ct an).env) [] h' e (.int i) → 0 ≤ i →
      (compEnvC scope [("script", L + 1)] C (LB W k A h₀ L f X₀ s₀ doc pm cdv ct an).env).kindOf "script" = some .cell → (compEnvC scope [("script", L + 1)] C (LB W k A h₀ L f X₀ s₀ doc pm cdv ct an).env).kindOf "_law_cell" = some .globalImplicit →
      starEach [.Name "script" q, e] (compEnvC scope [("script", L + 1)] C (LB W k A h₀ L f X₀ s₀ doc pm cdv ct an).env) = (false, eval (.Name "script" q) (compEnvC scope [("script", L + 1)] C (LB W k A h₀ L f X₀ s₀ doc pm cdv ct an).env)) :: starEach [e] (compEnvC scope [("script", L + 1)] C (LB W k A h₀ L f X₀ s₀ doc pm cdv ct an).env) →
      starEach [e] (compEnvC scope [("script", L + 1)] C (LB W k A h₀ L f X₀ s₀ doc pm cdv ct an).env) = (false, eval e (compEnvC scope [("script", L + 1)] C (LB W k A h₀ L f X₀ s₀ doc pm cdv ct an).env)) :: starEach [] (compEnvC scope [("script", L + 1)] C (LB W k A h₀ L f X₀ s₀ doc pm cdv ct an).env) →
      Ev W A (compEnvC scope [("script", L + 1)] C (LB W k A h₀ L f X₀ s₀ doc pm cdv ct an).env) [] h' (.Call (.Name "_law_cell" p) [.Name "script" q, e] [] pos) (.int (cell ns i)) := by
    intro Kp γ s ρ y hl scope C h' e i p q pos X l cx' he h0 hk1 hk2 hs1 hs2
    obtain ⟨fc, doc', pm', an', cdv', ct', q1, q2⟩ := F.cell
    exact ev_call (cx'.sub sub_nil) (evv_glob cx' q2 hk2) (eva_cons (ev_free y l (cx'.sub sub_nil) hl sub_nil hk1) (eva_cons he eva_nil hs2) hs1) q1 (cell_c F q1 h0 hz) hs1 rfl
  refine tri_cons (tri_assign (d := .int (nN ns : Int)) (.inl rfl) (fun Kp γ s y => by rw [← nN_eq]; exact ev_add ev_int (ev_mod (ev_cell F y rfl ev_int (by decide) hz rfl) ev_int)) ?_)
  refine tri_cons (tri_assignC (cl := [("script", L + 1)]) (ds := zints (lst1 4 (hand ns))) (.inl rfl) rfl rfl rfl (by decide) (fun Kp γ s y => ?_) ?_)
  · rw [zlst]
    refine comp_r (it := fun i => .int (i : Nat)) (fun _ => true) (fun i => .int (hand ns i)) y.cx rfl (by decide) rfl (by decide) rfl (src_range (N := 4) (X := []) y.cx.cn.hand (evv_built y.cx F.N.range.1 F.N.range.2) ev_int (by decide) (by decide)) (by decide) (fun i C v s' E Q hi l cx' vx r f => no_tests f) ?_ (fun i hi => rfl)
    intro i C v h' hi _ l cx' vx r
    exact (cl y rfl l cx' (ev_add ev_int (ev_own cx' vx r)) (by omega) rfl rfl rfl rfl).flat rfl
  refine tri_cons (tri_assign (d := .lst (zints (lst1 (nN ns) (cntI ns)))) (.inr ⟨rfl, rfl⟩) (fun Kp γ s y => ?_) ?_)
  · rw [zlst]
    refine EvF.ev (evf_compF (cl := [("script", L + 1)]) (it := fun i => .int (i : Nat)) (fun _ => true) (fun i => .int (cntI ns i)) y.cx rfl (by decide) rfl (by decide) rfl (src_range (N := (nN ns : Int)) (X := []) y.cx.cn.hand (evv_built y.cx F.N.range.1 F.N.range.2) (ev_nm y rfl) (by omega) (by omega)) (by omega) (fun i C v s' E Q hi l cx' vx r f => no_tests f) ?_ (fun i hi => rfl))
    intro i C v h' hi _ l cx' vx r
    exact ev_mod (cl y rfl l cx' (ev_add ev_int (ev_mulL ev_int (ev_own cx' vx r))) (by omega) rfl rfl rfl rfl) ev_int
  refine tri_cons (tri_assignC (cl := [("script", L + 1)]) (ds := zints (lst1 (nN ns) (gapI ns))) (.inl rfl) rfl rfl rfl (by decide) (fun Kp γ s y => ?_) ?_)
  · rw [zlst]
    refine comp_r (it := fun i => .int (i : Nat)) (fun _ => true) (fun i => .int (gapI ns i)) y.cx rfl (by decide) rfl (by decide) rfl (src_range (N := (nN ns : Int)) (X := []) y.cx.cn.hand (evv_built y.cx F.N.range.1 F.N.range.2) (ev_nm y rfl) (by omega) (by omega)) (by omega) (fun i C v s' E Q hi l cx' vx r f => no_tests f) ?_ (fun i hi => rfl)
    intro i C v h' hi _ l cx' vx r
    exact ev_mod (ev_div (cl y rfl l cx' (ev_add ev_int (ev_mulL ev_int (ev_own cx' vx r))) (by omega) rfl rfl rfl rfl) ev_int) ev_int
  refine tri_cons (tri_assign (d := .lst (zints (lst1 (nN ns) (seedI ns)))) (.inr ⟨rfl, rfl⟩) (fun Kp γ s y => ?_) ?_)
  · rw [zlst]
    refine EvF.ev (evf_compF (cl := [("script", L + 1)]) (it := fun i => .int (i : Nat)) (fun _ => true) (fun i => .int (seedI ns i)) y.cx rfl (by decide) rfl (by decide) rfl (src_range (N := (nN ns : Int)) (X := []) y.cx.cn.hand (evv_built y.cx F.N.range.1 F.N.range.2) (ev_nm y rfl) (by omega) (by omega)) (by omega) (fun i C v s' E Q hi l cx' vx r f => no_tests f) ?_ (fun i hi => rfl))
    intro i C v h' hi _ l cx' vx r
    exact (cl y rfl l cx' (ev_add ev_int (ev_mulL ev_int (ev_own cx' vx r))) (by omega) rfl rfl rfl rfl).flat rfl
  refine tri_cons (tri_assignC (cl := [("seeds", L + 4), ("counts", L + 3)]) (ds := edgesV ns) (.inl rfl) rfl rfl rfl (by decide) (fun Kp γ s y => ?_) h)
  unfold edgesV
  refine comp_genC (it := fun i => .int (i : Nat)) (fun i => V.lst (zints (edges ns i))) y.cx (fun _ => rfl) (fun _ => rfl) rfl rfl (src_range (N := (nN ns : Int)) (X := []) y.cx.cn.hand (evv_built y.cx F.N.range.1 F.N.range.2) (ev_nm y rfl) (by omega) (by omega)) (by omega) ?_
  intro i C D v h' hi l hD cx' vx r
  have hi' : i < nN ns := by omega
  unfold edges
  rw [zlst]
  obtain ⟨vc, hc1, hc2⟩ := y.vars ("counts" : Str) _ rfl
  obtain ⟨vs, hs1, hs2⟩ := y.vars ("seeds" : Str) _ rfl
  refine EvF.ev (evf_compF (cl := [("seeds", L + 4), ("i", C + 1)]) (it := fun i => .int (i : Nat)) (fun _ => true) (fun j => .int (edgeI ns i j)) cx' rfl (by decide) rfl (by decide) rfl (src_range (N := cntI ns i) (X := []) cx'.cn.hand (evv_built cx' F.N.range.1 F.N.range.2) (ev_item (ds := zints (lst1 (nN ns) (cntI ns))) (j := (i : Int)) (ev_var (cx'.sub sub_nil) (var_free (hc1.le l) rfl rfl rfl) ((hc2.le l).sub sub_nil)) ((ev_var (cx'.sub sub_nil) vx (r.sub sub_nil))) (by omega) (lst1_get hi') (by omega)) (by unfold cntI; omega) (by unfold cntI; omega)) (by unfold cntI; omega) (fun i C v s' E Q hi l cx' vx r f => no_tests f) ?_ (fun i hi => rfl))
  intro j C2 v' h'' hj _ l' cx'' vx' r'
  have hj3 : j < 4 := by unfold cntI at hj; omega
  have hp : ((7 : Int) ^ ((j : Int)).toNat) = 7 ^ j := by rw [Int.toNat_natCast]
  have hp0 : (0 : Int) < 7 ^ j := by
    have : j = 0 ∨ j = 1 ∨ j = 2 ∨ j = 3 := by omega
    rcases this with rfl | rfl | rfl | rfl <;> decide
  have hp1 : ((7 : Int) ^ j).natAbs < 1073741824 := by
    have : j = 0 ∨ j = 1 ∨ j = 2 ∨ j = 3 := by omega
    rcases this with rfl | rfl | rfl | rfl <;> decide
  refine (ev_mod (X := []) (ev_add (ev_add (ev_div (b := 7 ^ j) (ev_item (ds := zints (lst1 (nN ns) (seedI ns))) (j := (i : Int)) ?_ ?_ (by omega) (lst1_get hi') (by omega)) ?_ hp0 hp1) ?_) ?_) ev_int).flat rfl
  · exact ev_var (cx''.sub sub_nil) (var_free ((var_free (hs1.le l) rfl rfl rfl).le l') rfl rfl rfl) (((hs2.le l).le l').sub sub_nil)
  · exact ev_var (cx''.sub sub_nil) (var_free (vx.le l') rfl rfl rfl) ((r.le l').sub sub_nil)
  · rw [← hp]
    exact ev_pow ev_int (ev_own cx'' vx' r') (by omega) (by omega)
  · exact ev_var (cx''.sub sub_nil) (var_free (vx.le l') rfl rfl rfl) ((r.le l').sub sub_nil)
  · exact ev_own cx'' vx' r'
end L14
end Mine
namespace Mine
open PySem PySem.Calls PySem.Spec PyProof.Rows
namespace L14

/-- the words behind a head at the end of u -/
theorem fldI_at {u ws v : List Int} : fldI (u ++ ((ws.length : Int) :: (ws ++ v))) (u.length : Int) = ws := by
  have hg : (u ++ ((ws.length : Int) :: (ws ++ v))).getD ((u.length : Int)).toNat 0 = (ws.length : Int) := by
    rw [Int.toNat_natCast, List.getD_eq_getElem?_getD, List.getElem?_append_right (Nat.le_refl _), Nat.sub_self]; rfl
  unfold fldI cut
  rw [hg]
  simp only [Option.elim]
  rw [show ((u.length : Int) + 1).toNat = u.length + 1 by omega, show ((u.length : Int) + 1 + (ws.length : Int)).toNat = u.length + 1 + ws.length by omega]
  rw [show u ++ ((ws.length : Int) :: (ws ++ v)) = (u ++ [(ws.length : Int)]) ++ (ws ++ v) by simp]
  rw [List.drop_take, List.drop_append_of_le_length (by simp), show (u ++ [(ws.length : Int)]).drop (u.length + 1) = [] from List.drop_of_length_le (by simp)]
  rw [List.nil_append, show u.length + 1 + ws.length - (u.length + 1) = ws.length by omega, List.take_left]
theorem head_at {u ws v : List Int} {c : Int} : (u ++ (c :: (ws ++ v))).getD ((u.length : Int)).toNat 0 = c := by
  rw [Int.toNat_natCast, List.getD_eq_getElem?_getD, List.getElem?_append_right (Nat.le_refl _), Nat.sub_self]; rfl

section
variable (gN : Nat → Nat) (ws : Nat → List Int)
def piece (i : Nat) : List Int := freeI (gN i) ++ ((ws i).length : Int) :: ws i
def memP (j : Nat) : List Int := ((List.range j).map (piece gN ws)).flatten
end
theorem memP_succ {gN : Nat → Nat} {ws : Nat → List Int} {j : Nat} : memP gN ws (j + 1) = memP gN ws j ++ piece gN ws j := by unfold memP; rw [List.range_succ]; simp
theorem piece_len {gN : Nat → Nat} {ws : Nat → List Int} {j : Nat} : (piece gN ws j).length = gN j + (ws j).length + 1 := by unfold piece; rw [List.length_append, freeI_len, List.length_cons]; omega
theorem memP_split {gN : Nat → Nat} {ws : Nat → List Int} {i : Nat} : ∀ d, ∃ t, memP gN ws (i + 1 + d) = memP gN ws i ++ (piece gN ws i ++ t)
  | 0 => ⟨[], by rw [List.append_nil]; exact memP_succ⟩
  | d + 1 => by
    obtain ⟨t, e⟩ := memP_split (gN := gN) (ws := ws) (i := i) d
    exact ⟨t ++ piece gN ws (i + 1 + d), by rw [show i + 1 + (d + 1) = i + 1 + d + 1 by omega, memP_succ, e]; simp⟩
def atN (gN : Nat → Nat) (ws : Nat → List Int) (i : Nat) : Nat := (memP gN ws i).length + gN i
theorem mem_at {gN : Nat → Nat} {ws : Nat → List Int} {i n : Nat} {e : List Int} (h : i < n) : ∃ u v, memP gN ws n ++ e = u ++ (((ws i).length : Int) :: (ws i ++ v)) ∧ u.length = atN gN ws i := by
  obtain ⟨t, q⟩ := memP_split (gN := gN) (ws := ws) (i := i) (n - (i + 1))
  rw [show i + 1 + (n - (i + 1)) = n by omega] at q
  refine ⟨memP gN ws i ++ freeI (gN i), t ++ e, ?_, ?_⟩
  · rw [q]; unfold piece; simp
  · rw [List.length_append, freeI_len]; rfl
theorem memP_mono {gN : Nat → Nat} {ws : Nat → List Int} {i : Nat} : ∀ d, (memP gN ws i).length ≤ (memP gN ws (i + d)).length
  | 0 => Nat.le_refl _
  | d + 1 => by
    have := memP_mono (gN := gN) (ws := ws) (i := i) d
    rw [show i + (d + 1) = i + d + 1 by omega, memP_succ, List.length_append]
    omega
theorem atN_lt {gN : Nat → Nat} {ws : Nat → List Int} {i j : Nat} (h : i < j) : atN gN ws i < atN gN ws j := by
  have h1 := memP_mono (gN := gN) (ws := ws) (i := i + 1) (j - (i + 1))
  rw [show i + 1 + (j - (i + 1)) = j by omega, memP_succ, List.length_append, piece_len] at h1
  unfold atN
  omega

theorem word_lt {ats : List Int} {t v : Int} (h : t < ats.length) : word ats t v % 2 = 1 ∧ word ats t v / 2 = ats.getD t.toNat 0 := by
  unfold word; rw [if_pos h]; omega
theorem word_ge {ats : List Int} {t v : Int} (h : ¬ t < ats.length) : word ats t v % 2 = 0 := by
  unfold word; rw [if_neg h]; omega

theorem firsts_snoc {n : Int} {nm : List Int} {t : Int} : firsts n (nm ++ [t]) = firsts n nm ++ (if t < n ∧ t ∉ nm then [t] else []) := by
  unfold firsts
  rw [List.length_append, List.length_singleton, List.range_succ, List.filter_append, List.map_append]
  have gd : ∀ k, k < nm.length → (nm ++ [t]).getD k 0 = nm.getD k 0 := fun k hk => by rw [List.getD_eq_getElem?_getD, List.getD_eq_getElem?_getD, List.getElem?_append_left hk]
  congr 1
  · have e : (List.range nm.length).filter (frs1 n (nm ++ [t])) = (List.range nm.length).filter (frs1 n nm) := by
      refine List.filter_congr fun k hk => ?_
      have hk := List.mem_range.mp hk
      unfold frs1
      rw [gd k hk, List.take_append_of_le_length (by omega)]
    rw [e]
    refine List.map_congr_left fun k hk => ?_
    exact gd k (List.mem_range.mp (List.mem_filter.mp hk).1)
  · have gl : (nm ++ [t]).getD nm.length 0 = t := by rw [List.getD_eq_getElem?_getD, List.getElem?_append_right (Nat.le_refl _), Nat.sub_self]; rfl
    have ef : frs1 n (nm ++ [t]) nm.length = decide (t < n ∧ t ∉ nm) := by
      unfold frs1
      rw [gl, List.take_left, Bool.and_true]
      by_cases h1 : t < n <;> by_cases h2 : t ∈ nm <;> simp [h1, h2]
    by_cases h : t < n ∧ t ∉ nm
    · rw [if_pos h, List.filter_cons_of_pos (by rw [ef]; exact decide_eq_true h), List.filter_nil]
      simp only [List.map_cons, List.map_nil, gl]
    · rw [if_neg h, List.filter_cons_of_neg (by rw [ef]; simp [h]), List.filter_nil]
      rfl
theorem snoc_ind {α : Type} {P : List α → Prop} (h0 : P []) (h1 : ∀ l x, P l → P (l ++ [x])) : ∀ l, P l := by
  have : ∀ l : List α, P l.reverse := by
    intro l
    induction l with
    | nil => exact h0
    | cons x r ih => rw [List.reverse_cons]; exact h1 _ _ ih
  intro l
  have := this l.reverse
  rwa [List.reverse_reverse] at this
theorem mem_firsts {n : Int} {a : Int} (nm : List Int) : a ∈ firsts n nm ↔ a < n ∧ a ∈ nm := by
  refine snoc_ind (P := fun nm => a ∈ firsts n nm ↔ a < n ∧ a ∈ nm) (by simp [firsts]) (fun l x ih => ?_) nm
  rw [firsts_snoc, List.mem_append, ih, List.mem_append, List.mem_singleton]
  by_cases hc : x < n ∧ x ∉ l
  · rw [if_pos hc, List.mem_singleton]
    constructor
    · rintro (h | rfl)
      · exact ⟨h.1, .inl h.2⟩
      · exact ⟨hc.1, .inr rfl⟩
    · rintro ⟨h1, h2 | h2⟩
      · exact .inl ⟨h1, h2⟩
      · exact .inr h2
  · rw [if_neg hc]
    constructor
    · rintro (h | h)
      · exact ⟨h.1, .inl h.2⟩
      · cases h
    · rintro ⟨h1, h2 | rfl⟩
      · exact .inl ⟨h1, h2⟩
      · by_cases q : a ∈ l
        · exact .inl ⟨h1, q⟩
        · exact absurd ⟨h1, q⟩ hc

theorem firsts_addAll {ats : List Int} (hinj : ∀ i j : Nat, i < ats.length → j < ats.length → ats.getD i 0 = ats.getD j 0 → i = j) (ps : List (Int × Int)) (h0 : ∀ p ∈ ps, 0 ≤ p.1) :
    addAll [] (ps.map fun p => word ats p.1 p.2) = (firsts (ats.length : Int) (ps.map Prod.fst)).map fun t => ats.getD t.toNat 0 := by
  revert h0
  refine snoc_ind (P := fun ps => (∀ p ∈ ps, 0 ≤ p.1) → addAll [] (ps.map fun p => word ats p.1 p.2) = (firsts (ats.length : Int) (ps.map Prod.fst)).map fun t => ats.getD t.toNat 0) (fun _ => rfl) (fun l x ih h0 => ?_) ps
  have h0l : ∀ p ∈ l, 0 ≤ p.1 := fun p hp => h0 p (List.mem_append.mpr (.inl hp))
  have hx0 : 0 ≤ x.1 := h0 x (List.mem_append.mpr (.inr (.head _)))
  rw [List.map_append, List.map_append, List.map_cons, List.map_nil, List.map_cons, List.map_nil, addAll_snoc, ih h0l, firsts_snoc, List.map_append]
  unfold stepW
  by_cases hx : x.1 < (ats.length : Int)
  · obtain ⟨w1, w2⟩ := word_lt (v := x.2) hx
    rw [w2]
    have hmem : ats.getD x.1.toNat 0 ∈ (firsts (ats.length : Int) (l.map Prod.fst)).map (fun t => ats.getD t.toNat 0) ↔ x.1 ∈ l.map Prod.fst := by
      constructor
      · intro h
        obtain ⟨t, ht, e⟩ := List.mem_map.mp h
        obtain ⟨q1, q2⟩ := (mem_firsts _).mp ht
        have ht0 : 0 ≤ t := by
          obtain ⟨p, hp, rfl⟩ := List.mem_map.mp q2
          exact h0l p hp
        have := hinj t.toNat x.1.toNat (by omega) (by omega) e
        have : t = x.1 := by omega
        rw [← this]; exact q2
      · intro h
        exact List.mem_map.mpr ⟨x.1, (mem_firsts _).mpr ⟨hx, h⟩, rfl⟩
    by_cases hm : x.1 ∈ l.map Prod.fst
    · rw [if_neg (fun h => h.2 (hmem.mpr hm)), if_neg (fun h => h.2 hm)]
      simp
    · rw [if_pos ⟨w1, fun h => hm (hmem.mp h)⟩, if_pos ⟨hx, hm⟩]
      rfl
  · rw [if_neg (fun h => by have := word_ge (v := x.2) hx; omega), if_neg (fun h => hx h.1)]
    simp


section
variable {ats hd : List Int} {eds : Nat → List Int} {sd : Nat → Int} {fld : Int → List Int}
def namedOf (hd : List Int) (eds : Nat → List Int) (o : List Int) : List Int := hd.map (· % 7) ++ o.flatMap fun i => eds i.toNat
def ordK (hd : List Int) (eds : Nat → List Int) (n : Int) : Nat → List Int
  | 0 => []
  | k + 1 => firsts n (namedOf hd eds (ordK hd eds n k))
theorem ordK_in {n : Int} (he : ∀ i, ∀ t ∈ eds i, 0 ≤ t) : ∀ k, ∀ a ∈ ordK hd eds n k, 0 ≤ a ∧ a < n
  | 0 => fun a h => (nomatch h)
  | k + 1 => fun a h => by
    obtain ⟨h1, h2⟩ := (mem_firsts _).mp h
    refine ⟨?_, h1⟩
    rcases List.mem_append.mp h2 with h | h
    · obtain ⟨v, _, rfl⟩ := List.mem_map.mp h; omega
    · obtain ⟨i, _, h⟩ := List.mem_flatMap.mp h; exact he _ _ h
theorem ord_iter (hinj : ∀ i j : Nat, i < ats.length → j < ats.length → ats.getD i 0 = ats.getD j 0 → i = j) (he : ∀ i, ∀ t ∈ eds i, 0 ≤ t) (hf : ∀ i, i < ats.length → fld (ats.getD i 0) = (eds i).map fun t => word ats t (sd i)) :
    ∀ k, iterG fld (hd.map fun v => word ats (v % 7) v) k = (ordK hd eds (ats.length : Int) k).map fun t => ats.getD t.toNat 0
  | 0 => rfl
  | k + 1 => by
    have ih := ord_iter hinj he hf k
    have hin := ordK_in (hd := hd) (n := (ats.length : Int)) he k
    show Gf fld _ (iterG fld _ k) = _
    rw [ih]
    unfold Gf
    have e1 : ((ordK hd eds (ats.length : Int) k).map fun t => ats.getD t.toNat 0).flatMap fld = ((ordK hd eds (ats.length : Int) k).flatMap fun i => (eds i.toNat).map fun t => (t, sd i.toNat)).map fun p => word ats p.1 p.2 := by
      generalize ordK hd eds (ats.length : Int) k = o at hin
      clear ih
      induction o with
      | nil => rfl
      | cons a r ihr =>
        have ha := hin a (.head _)
        rw [List.map_cons, List.flatMap_cons, List.flatMap_cons, List.map_append, ihr fun b hb => hin b (.tail _ hb), hf a.toNat (by omega), List.map_map]
        rfl
    have e2 : (hd.map fun v => word ats (v % 7) v) = (hd.map fun v => (v % 7, v)).map fun p => word ats p.1 p.2 := by rw [List.map_map]; rfl
    rw [e1, e2, ← List.map_append, firsts_addAll hinj]
    · show (firsts _ _).map _ = (firsts _ (namedOf _ _ _)).map _
      congr 2
      unfold namedOf
      rw [List.map_append, List.map_map, List.map_flatMap]
      congr 1
      refine congrArg (fun g => List.flatMap g _) (funext fun i => ?_)
      rw [List.map_map]
      exact List.map_id' _
    · intro p hp
      rcases List.mem_append.mp hp with h | h
      · obtain ⟨v, _, rfl⟩ := List.mem_map.mp h
        show 0 ≤ v % 7
        omega
      · obtain ⟨i, _, h⟩ := List.mem_flatMap.mp h
        obtain ⟨t, ht, rfl⟩ := List.mem_map.mp h
        exact he _ _ ht
end
end L14
end Mine
namespace Mine
open PySem PySem.Calls PySem.Spec PyProof.Rows
set_option maxRecDepth 100000
namespace L14
local macro_rules | `(tactic| walk_at "Mv") => `(tactic| first
  | exact ev_int | exact ev_none | exact ev_bool | exact ev_str
  | exact ev_nm (by assumption) (by rfl)
  | exact ev_rho (by assumption) (by rfl)
  | exact ev_rho0 (by assumption) (by rfl)
  | exact ev_mu0 (by assumption) (List.Mem.head _)
  | (refine ev_add ?_ ?_ <;> walk_at "Mv")
  | (refine ev_sub ?_ ?_ <;> walk_at "Mv")
  | (refine ev_mulL ?_ ?_ <;> walk_at "Mv")
  | (refine ev_mod ?_ ?_ <;> walk_at "Mv")
  | (refine ev_div ?_ ?_ <;> walk_at "Mv")
  | (refine ev_neg ?_ <;> walk_at "Mv")
  | (refine ev_ltI ?_ ?_ <;> walk_at "Mv")
  | (refine ev_abs (evv_built (Sat.cx (by assumption)) (Fns.N (by assumption)).abs.1 (Fns.N (by assumption)).abs.2) ?_; walk_at "Mv")
  | (refine ev_len (evv_built (Sat.cx (by assumption)) (Fns.N (by assumption)).len.1 (Fns.N (by assumption)).len.2) ?_ ?_; (walk_at "Mv"); (first | assumption | omega | (rw [ints_len]; omega))))
local macro_rules | `(tactic| walk_at "Mb") => `(tactic| first
  | (refine bt_eqI ?_ ?_ <;> walk_at "Mv")
  | (refine bt_neI ?_ ?_ <;> walk_at "Mv")
  | (refine bt_ltI ?_ ?_ <;> walk_at "Mv")
  | (refine bt_leI ?_ ?_ <;> walk_at "Mv")
  | (refine bt_gtI ?_ ?_ <;> walk_at "Mv")
  | (refine bt_geI ?_ ?_ <;> walk_at "Mv"))


def gN (ns : List Int) (i : Nat) : Nat := (gapI ns i).toNat
def cN (ns : List Int) (i : Nat) : Nat := (cntI ns i).toNat
theorem gN_eq (ns : List Int) (i : Nat) : gapI ns i = (gN ns i : Int) ∧ gN ns i ≤ 2 := by unfold gN gapI; omega
theorem cN_eq (ns : List Int) (i : Nat) : cntI ns i = (cN ns i : Int) ∧ cN ns i ≤ 3 := by unfold cN cntI; omega
def top0 (ns : List Int) : Nat → Nat
  | 0 => 0
  | i + 1 => top0 ns i + gN ns i + cN ns i + 1
theorem top0_le (ns : List Int) : ∀ i, top0 ns i ≤ 6 * i
  | 0 => Nat.le_refl _
  | i + 1 => by have := top0_le ns i; have := (gN_eq ns i).2; have := (cN_eq ns i).2; simp only [top0]; omega
def atI (ns : List Int) (i : Nat) : Int := ((top0 ns i + gN ns i : Nat) : Int)
def ats (ns : List Int) : List Int := lst1 (nN ns) (atI ns)
theorem ats_len (ns : List Int) : (ats ns).length = nN ns := lst1_len
def wsI (ns : List Int) (i : Nat) : List Int := (edges ns i).map fun t => word (ats ns) t (seedI ns i)
theorem edges_len (ns : List Int) (i : Nat) : (edges ns i).length = cN ns i := lst1_len
theorem wsI_len (ns : List Int) (i : Nat) : (wsI ns i).length = cN ns i := by unfold wsI; rw [List.length_map, edges_len]
theorem memP_len (ns : List Int) : ∀ j, (memP (gN ns) (wsI ns) j).length = top0 ns j
  | 0 => rfl
  | j + 1 => by rw [memP_succ, List.length_append, memP_len ns j, piece_len, wsI_len]; simp only [top0]; omega
theorem atN_eq (ns : List Int) (i : Nat) : ((atN (gN ns) (wsI ns) i : Nat) : Int) = atI ns i := by unfold atN atI; rw [memP_len]
theorem ats_get {ns : List Int} {i : Nat} (h : i < nN ns) : (ats ns).getD i 0 = atI ns i := by
  unfold ats lst1
  rw [List.getD_eq_getElem?_getD, List.getElem?_map, List.getElem?_range h]; rfl
theorem edge_bd {ns : List Int} {i : Nat} {t : Int} (h : t ∈ edges ns i) : 0 ≤ t ∧ t < 7 := by
  obtain ⟨j, _, rfl⟩ := List.mem_map.mp h
  unfold edgeI
  omega
theorem ats_inj (ns : List Int) : ∀ i j : Nat, i < (ats ns).length → j < (ats ns).length → (ats ns).getD i 0 = (ats ns).getD j 0 → i = j := by
  intro i j hi hj e
  rw [ats_len] at hi hj
  rw [ats_get hi, ats_get hj, ← atN_eq, ← atN_eq] at e
  rcases Nat.lt_trichotomy i j with h | h | h
  · have := atN_lt (gN := gN ns) (ws := wsI ns) h; omega
  · exact h
  · have := atN_lt (gN := gN ns) (ws := wsI ns) h; omega
def hd4 (ns : List Int) : List Int := lst1 4 (hand ns)
def memF (ns : List Int) : List Int := memP (gN ns) (wsI ns) (nN ns) ++ freeI (cell ns 0 / 5 % 3).toNat
def rootsF (ns : List Int) : List Int := (hd4 ns).map fun v => word (ats ns) (v % 7) v
def ordF (ns : List Int) (k : Nat) : List Int := ordK (hd4 ns) (edges ns) (nN ns : Int) k
def resF (ns : List Int) : List Int := (ordF ns (nN ns)).map fun t => (ats ns).getD t.toNat 0
theorem memF_len (ns : List Int) : (memF ns).length ≤ 100 := by
  unfold memF
  rw [List.length_append, memP_len, freeI_len]
  have := top0_le ns (nN ns)
  have := nN_le ns
  omega
theorem fld_eq {ns : List Int} {i : Nat} (h : i < nN ns) : fldI (memF ns) (atI ns i) = wsI ns i ∧ (memF ns).getD (atI ns i).toNat 0 = ((wsI ns i).length : Int) ∧ atI ns i < (memF ns).length := by
  obtain ⟨u, v, e, hu⟩ := mem_at (gN := gN ns) (ws := wsI ns) (e := freeI (cell ns 0 / 5 % 3).toNat) h
  have e' : memF ns = u ++ (((wsI ns i).length : Int) :: (wsI ns i ++ v)) := e
  rw [← atN_eq, ← hu, e']
  refine ⟨fldI_at, head_at, ?_⟩
  rw [List.length_append, List.length_cons]; omega
theorem word_in {ns : List Int} {t v : Int} (h0 : 0 ≤ t) (h : word (ats ns) t v % 2 = 1) : word (ats ns) t v / 2 ∈ ats ns := by
  by_cases ht : t < (ats ns).length
  · rw [(word_lt ht).2, List.getD_eq_getElem?_getD, List.getElem?_eq_getElem (by omega)]
    exact List.getElem_mem _
  · have := word_ge (v := v) ht; omega
theorem closedF (ns : List Int) : Closed (fldI (memF ns)) (rootsF ns) (ats ns) := by
  refine ⟨fun w hw h => ?_, fun a ha w hw h => ?_⟩
  · obtain ⟨v, _, rfl⟩ := List.mem_map.mp hw
    exact word_in (by omega) h
  · obtain ⟨i, hi, rfl⟩ := List.mem_map.mp ha
    rw [(fld_eq (List.mem_range.mp hi)).1] at hw
    obtain ⟨t, ht, rfl⟩ := List.mem_map.mp hw
    exact word_in (edge_bd ht).1 h
theorem iterF (ns : List Int) (k : Nat) : iterG (fldI (memF ns)) (rootsF ns) k = (ordF ns k).map fun t => (ats ns).getD t.toNat 0 := by
  have := ord_iter (hd := hd4 ns) (eds := edges ns) (sd := seedI ns) (fld := fldI (memF ns)) (ats_inj ns) (fun i t h => (edge_bd h).1) (fun i hi => by rw [ats_len] at hi; rw [ats_get hi]; exact (fld_eq hi).1) k
  rw [ats_len] at this
  exact this
theorem resF_fix (ns : List Int) : Fix (fldI (memF ns)) (rootsF ns) (resF ns) := by
  have := (closedF ns).fix
  rw [ats_len, iterF] at this
  exact this
theorem resF_prod (ns : List Int) : Prod' (fldI (memF ns)) (rootsF ns) (resF ns) := by
  have := prod_iter (fld := fldI (memF ns)) (roots := rootsF ns) (nN ns)
  rw [iterF] at this
  exact this
theorem ordF_in (ns : List Int) (k : Nat) : ∀ a ∈ ordF ns k, 0 ≤ a ∧ a < (nN ns : Int) := ordK_in (fun i t h => (edge_bd h).1) k
theorem ordF_len (ns : List Int) (k : Nat) : (ordF ns k).length ≤ 5 := by
  have h1 := (closedF ns).bound k
  rw [iterF, List.length_map, ats_len] at h1
  have := nN_le ns
  omega
theorem named_len (ns : List Int) (k : Nat) {m : Nat} : (namedOf (hd4 ns) (edges ns) ((ordF ns k).take m)).length ≤ 100 := by
  have h1 := ordF_len ns k
  have key : ∀ o : List Int, (o.flatMap fun i => edges ns i.toNat).length ≤ 3 * o.length := by
    intro o
    induction o with
    | nil => simp
    | cons a r ih =>
      rw [List.flatMap_cons, List.length_append, edges_len, List.length_cons]
      have := (cN_eq ns a.toNat).2
      omega
  unfold namedOf
  rw [List.length_append, List.length_map]
  have h2 := key ((ordF ns k).take m)
  have h3 : ((ordF ns k).take m).length ≤ 5 := by rw [List.length_take]; omega
  have h4 : (hd4 ns).length = 4 := lst1_len
  omega

def rho8 (ns : List Int) : Rho := (("at" : Str), V.lst (zints (ats ns))) :: rho5 ns
def rho12 (ns : List Int) : Rho := (("roots" : Str), V.lst (zints (rootsF ns))) :: (("mem" : Str), V.lst (zints (memF ns))) :: rho8 ns
def rhoE (ns : List Int) : Rho := [(("got" : Str), V.lst (zints (resF ns))), (("roots_before" : Str), V.lst (zints (rootsF ns))), (("mem_before" : Str), V.lst (zints (memF ns))), (("roots" : Str), V.lst (zints (rootsF ns))), (("mem" : Str), V.lst (zints (memF ns)))]

section
variable {B : Bd} {μ : Mu} {ρ : Rho} {Kp : Addr → Obj → Prop} {γ : List (Value × V)} {s : Shared}
theorem ev_free1 {n : Nat} {j : Int} {e : Expr} {p pos : Pos} {k : Nat} (F : Fns B.W) (y : Sat B Kp γ μ ρ s) (he : Ev B.W B.A B.env [] s.heap e (.int j)) (hj : j = (n : Int)) (hn : n < 1000) (hk : B.k = k + 1)
    (hx : B.env.kindOf "_law_free" = some .globalImplicit := by rfl) (hs2 : starEach [e] B.env = (false, eval e B.env) :: starEach [] B.env := by rfl)
    (hev : eval (.Call (.Name "_law_free" p) [e] [] pos) B.env = (do callWith pos (← eval (.Name "_law_free" p) B.env) [] (backTo pos (starEach [e] B.env)) (backToKw pos (keywordEach [] B.env))) := by rfl) :
    Ev B.W B.A B.env (μ.at ++ B.X₀) s.heap (.Call (.Name "_law_free" p) [e] [] pos) (.lst (zints (freeI n))) :=
  ev_fn y F.free (fun f doc pm an cdv ct h => by rw [hk]; exact free_c F h hn) sub_self (eva_cons ((hj ▸ he).flat rfl) eva_nil hs2) hx (by decide) hs2 hev
end
theorem zget {L : List Int} {i : Nat} (h : i < L.length) : (zints L).getD i .none = .int (L.getD i 0) := by
  unfold zints
  rw [List.getD_eq_getElem?_getD, List.getElem?_map, List.getD_eq_getElem?_getD, List.getElem?_eq_getElem h]; rfl
theorem zmap {L : List Int} {f : Int → Int} : zints (L.map f) = picked L.length (fun _ => true) fun i => .int (f (L.getD i 0)) := by
  rw [picked_all]
  unfold zints
  apply List.ext_getElem?
  intro i
  rw [List.getElem?_map, List.getElem?_map, List.getElem?_map]
  by_cases h : i < L.length
  · rw [List.getElem?_range h, Option.map_some, List.getD_eq_getElem?_getD, List.getElem?_eq_getElem h]; rfl
  · rw [List.getElem?_eq_none (by omega), List.getElem?_eq_none (by rw [List.length_range]; omega)]; rfl

set_option maxHeartbeats 8000000 in
theorem law_lay {W : Wd} {A : Around} {h₀ : Heap} {L f : Addr} {X₀ : List Addr} {s₀ : Shared} {k : Nat} {doc pm cdv ct : Value} {an : Option Addr} (F : Fns W) {ns : List Int} (hz : ns.length < 2 ^ 62) {Post : Fl → Mu → Rho → Prop} (h : Tri (LB W k A h₀ L f X₀ s₀ doc pm cdv ct an) [] (rho12 ns) (((fnBody (st 10)).take 20).drop 13) Post) :
    Tri (LB W k A h₀ L f X₀ s₀ doc pm cdv ct an) [] (rho5 ns) (((fnBody (st 10)).take 20).drop 6) Post := by
  have hsl : (2000 : Nat) ≤ sizeLine := by decide
  have hn := nN_le ns
  refine tri_cons (tri_assignM (.inr ⟨rfl, rfl⟩) (fun Kp γ s y => evf_list y.cx eva_nil) (fun l => ?_))
  refine tri_cons (tri_assign (d := .int ((top0 ns 0 : Nat) : Int)) (.inl rfl) (fun Kp γ s y => ev_int) ?_)
  refine tri_cons (tri_forR (N := (nN ns : Int)) (X := []) (fun j μ ρ => ∃ l, μ = [(("at" : Str), l, zints (lst1 j (atI ns)))] ∧ ρ = (("top" : Str), V.int ((top0 ns j : Nat) : Int)) :: rho5 ns) (.inr ⟨rfl, rfl⟩) (fun Kp γ s y => evv_built y.cx F.N.range.1 F.N.range.2) (fun Kp γ s y => by walk_at "Mv") (by omega) (by omega) ⟨l, rfl, rfl⟩ ?_ ?_ ?_)
  · rintro i μ' ρ' ⟨l, rfl, _⟩
    rfl
  · rintro j μ' ρ' hj ⟨l, rfl, rfl⟩
    have hj' : j < nN ns := by omega
    have ht := top0_le ns j
    have hg := gN_eq ns j
    have hc := cN_eq ns j
    refine tri_cons (tri_append (μ₁ := []) (μ₂ := []) (d := .int (atI ns j)) rfl (fun Kp γ s y => ?_) (by rw [ints_len, lst1_len]; omega) ?_)
    · rw [show atI ns j = ((top0 ns j : Nat) : Int) + gapI ns j by unfold atI; omega]
      exact ev_add (by walk_at "Mv") (ev_item (ds := zints (lst1 (nN ns) (gapI ns))) (j := (j : Int)) (by walk_at "Mv") (by walk_at "Mv") (by omega) (lst1_get hj') (by omega))
    rw [show zints (lst1 j (atI ns)) ++ [V.int (atI ns j)] = zints (lst1 (j + 1) (atI ns)) by unfold lst1 zints; rw [List.range_succ, List.map_append, List.map_append]; rfl]
    dsimp only [List.nil_append]
    refine tri_cons (tri_assign (d := .int ((top0 ns (j + 1) : Nat) : Int)) (.inl rfl) (fun Kp γ s y => ?_) ?_)
    · rw [show ((top0 ns (j + 1) : Nat) : Int) = ((top0 ns j : Nat) : Int) + gapI ns j + cntI ns j + 1 by simp only [top0]; omega]
      exact ev_add (ev_add (ev_add (by walk_at "Mv") (ev_item (ds := zints (lst1 (nN ns) (gapI ns))) (j := (j : Int)) (by walk_at "Mv") (by walk_at "Mv") (by omega) (lst1_get hj') (by omega))) (ev_item (ds := zints (lst1 (nN ns) (cntI ns))) (j := (j : Int)) (by walk_at "Mv") (by walk_at "Mv") (by omega) (lst1_get hj') (by omega))) ev_int
    exact tri_end (ρ' := (("top" : Str), V.int ((top0 ns (j + 1) : Nat) : Int)) :: rho5 ns) ⟨rfl, rfl, rfl, rfl, rfl, rfl, rfl, rfl, trivial⟩ ⟨l, rfl, rfl⟩
  rintro m r ⟨l, rfl, rfl⟩
  rw [Int.toNat_natCast]
  refine Tri.freeze (Tri.weak (ρ' := rho8 ns) ?_ (Sub.look ⟨rfl, rfl, rfl, rfl, rfl, rfl, rfl, rfl, trivial⟩))
  refine tri_cons (tri_assign (d := .lst (zints (memP (gN ns) (wsI ns) 0))) (.inl rfl) (fun Kp γ s y => EvF.ev (evf_list y.cx eva_nil)) ?_)
  refine tri_cons (tri_forR (N := (nN ns : Int)) (X := []) (fun j μ ρ => μ = [] ∧ ρ = (("mem" : Str), V.lst (zints (memP (gN ns) (wsI ns) j))) :: rho8 ns) (.inr ⟨rfl, rfl⟩) (fun Kp γ s y => evv_built y.cx F.N.range.1 F.N.range.2) (fun Kp γ s y => by walk_at "Mv") (by omega) (by omega) ⟨rfl, rfl⟩ ?_ ?_ ?_)
  · rintro i μ' ρ' ⟨rfl, _⟩
    rfl
  · rintro j μ' ρ' hj ⟨rfl, rfl⟩
    have hj' : j < nN ns := by omega
    have ht := top0_le ns j
    have hg := gN_eq ns j
    have hc := cN_eq ns j
    have hml : (memP (gN ns) (wsI ns) j).length ≤ 100 := by rw [memP_len]; omega
    refine tri_cons (tri_assign (d := .lst (zints (memP (gN ns) (wsI ns) (j + 1)))) (.inl rfl) (fun Kp γ s y => ?_) ?_)
    · rw [show zints (memP (gN ns) (wsI ns) (j + 1)) = ((zints (memP (gN ns) (wsI ns) j) ++ zints (freeI (gN ns j))) ++ [V.int (cntI ns j)]) ++ zints (wsI ns j) by rw [memP_succ]; unfold piece; rw [wsI_len, hc.1]; simp [zints]]
      refine EvF.ev (evf_addX y.cx (EvF.ev (evf_addX y.cx (EvF.ev (evf_addX y.cx (by walk_at "Mv") (ev_free1 (n := gN ns j) (j := gapI ns j) F y (ev_item (ds := zints (lst1 (nN ns) (gapI ns))) (j := (j : Int)) (by walk_at "Mv") (by walk_at "Mv") (by omega) (lst1_get hj') (by omega)) hg.1 (by omega) rfl) (by rw [ints_len, ints_len, freeI_len]; omega))) (EvF.ev (evf_list y.cx (eva_cons ((ev_item (X := []) (ds := zints (lst1 (nN ns) (cntI ns))) (j := (j : Int)) (by walk_at "Mv") (by walk_at "Mv") (by omega) (lst1_get hj') (by omega)).flat rfl) eva_nil))) (by rw [List.length_append, ints_len, ints_len, freeI_len, List.length_singleton]; omega))) ?_ (by rw [List.length_append, List.length_append, ints_len, ints_len, ints_len, freeI_len, wsI_len, List.length_singleton]; omega))
      unfold wsI
      rw [zmap]
      have hel := edges_len ns j
      refine EvF.ev (evf_compF (cl := [("seeds", L + 4), ("i", L + 2), ("at", L + 5)]) (it := fun i => (zints (edges ns j)).getD i .none) (fun _ => true) (fun i => .int (word (ats ns) ((edges ns j).getD i 0) (seedI ns j))) y.cx rfl (by decide) rfl (by decide) rfl ?_ (by omega) (fun i C v s' E Q hi l cx' vx r f => no_tests f) ?_ (fun i hi => rfl))
      · have ee : (zints (edges ns j)).length = (edges ns j).length := ints_len _
        rw [← ee]
        refine src_list y.cx.cn.hand (ev_item (ds := edgesV ns) (j := (j : Int)) (by walk_at "Mv") (by walk_at "Mv") (by omega) ?_ (by omega))
        unfold edgesV
        rw [Int.toNat_natCast, List.getElem?_map, List.getElem?_range hj']; rfl
      · intro i C v h' hi _ l cx' vx r
        rw [zget hi] at r
        have hed := edge_bd (ns := ns) (i := j) (t := (edges ns j).getD i 0) (by rw [List.getD_eq_getElem?_getD, List.getElem?_eq_getElem hi]; exact List.getElem_mem _)
        obtain ⟨fc, doc', pm', an', cdv', ct', q1, q2⟩ := F.word
        refine (ev_call (X := []) (cx'.sub sub_nil) (evv_glob cx' q2) (eva_cons (ev_own cx' vx r) (eva_cons (ev_item (ds := zints (lst1 (nN ns) (seedI ns))) (j := (j : Int)) (ev_free y l cx' rfl sub_nil) (ev_free y l cx' rfl sub_nil) (by omega) (lst1_get hj') (by omega)) (eva_cons (ev_free y l cx' rfl sub_nil) eva_nil))) q1 (word_c F q1 hed.1 (by rw [ats_len]; omega))).flat rfl
    exact tri_end (ρ' := (("mem" : Str), V.lst (zints (memP (gN ns) (wsI ns) (j + 1)))) :: rho8 ns) ⟨rfl, rfl, rfl, rfl, rfl, rfl, rfl, rfl, rfl, trivial⟩ ⟨rfl, rfl⟩
  rintro m r ⟨rfl, rfl⟩
  rw [Int.toNat_natCast]
  have hml : (memP (gN ns) (wsI ns) (nN ns)).length ≤ 100 := by rw [memP_len]; have := top0_le ns (nN ns); omega
  refine tri_cons (tri_assign (d := .lst (zints (memF ns))) (.inl rfl) (fun Kp γ s y => ?_) ?_)
  · unfold memF
    rw [← cat_ints]
    exact EvF.ev (evf_addX y.cx (by walk_at "Mv") (ev_free1 (n := (cell ns 0 / 5 % 3).toNat) (j := cell ns 0 / 5 % 3) F y (ev_mod (ev_div (ev_cell F y rfl ev_int (by decide) hz rfl) ev_int) ev_int) (by omega) (by omega) rfl) (by rw [ints_len, ints_len, freeI_len]; omega))
  refine tri_cons (tri_assignC (cl := [("at", L + 5)]) (ds := zints (rootsF ns)) (.inl rfl) rfl rfl rfl (by decide) (fun Kp γ s y => ?_) (Tri.weak h (Sub.look ⟨rfl, rfl, rfl, rfl, rfl, rfl, rfl, rfl, rfl, rfl, trivial⟩)))
  unfold rootsF
  rw [zmap]
  have h4 : (hd4 ns).length = 4 := lst1_len
  refine comp_r (it := fun i => (zints (hd4 ns)).getD i .none) (fun _ => true) (fun i => .int (word (ats ns) ((hd4 ns).getD i 0 % 7) ((hd4 ns).getD i 0))) y.cx rfl (by decide) rfl (by decide) rfl ?_ (by omega) (fun i C v s' E Q hi l cx' vx r f => no_tests f) ?_ (fun i hi => rfl)
  · have ee : (zints (hd4 ns)).length = (hd4 ns).length := ints_len _
    rw [← ee]
    exact src_list y.cx.cn.hand (ev_rho y rfl)
  · intro i C v h' hi _ l cx' vx r
    rw [zget hi] at r
    obtain ⟨fc, doc', pm', an', cdv', ct', q1, q2⟩ := F.word
    exact (ev_call (X := []) (cx'.sub sub_nil) (evv_glob cx' q2) (eva_cons (ev_mod (ev_own cx' vx r) ev_int) (eva_cons (ev_own cx' vx r) (eva_cons (ev_free y l cx' rfl sub_nil) eva_nil))) q1 (word_c F q1 (by omega) (by rw [ats_len]; omega))).flat rfl

set_option maxHeartbeats 8000000 in
theorem law_search {W : Wd} {A : Around} {h₀ : Heap} {L f : Addr} {X₀ : List Addr} {s₀ : Shared} {k : Nat} {doc pm cdv ct : Value} {an : Option Addr} (F : Fns W) {ns : List Int} (hz : ns.length < 2 ^ 62) {Post : Fl → Mu → Rho → Prop} (h : Tri (LB W k A h₀ L f X₀ s₀ doc pm cdv ct an) [] (rhoE ns) (((fnBody (st 10)).take 20).drop 20) Post) :
    Tri (LB W k A h₀ L f X₀ s₀ doc pm cdv ct an) [] (rho12 ns) (((fnBody (st 10)).take 20).drop 13) Post := by
  have hsl : (2000 : Nat) ≤ sizeLine := by decide
  have hn := nN_le ns
  have h4 : (hd4 ns).length = 4 := lst1_len
  refine tri_cons (tri_assign (d := .lst (zints (ordF ns 0))) (.inl rfl) (fun Kp γ s y => EvF.ev (evf_list y.cx eva_nil)) ?_)
  refine tri_cons (tri_forR (N := (nN ns : Int)) (X := []) (fun j μ ρ => μ = [] ∧ ρ = (("order" : Str), V.lst (zints (ordF ns j))) :: rho12 ns) (.inl rfl) (fun Kp γ s y => evv_built y.cx F.N.range.1 F.N.range.2) (fun Kp γ s y => by walk_at "Mv") (by omega) (by omega) ⟨rfl, rfl⟩ ?_ ?_ ?_)
  · rintro i μ' ρ' ⟨rfl, _⟩
    rfl
  · rintro j μ' ρ' hj ⟨rfl, rfl⟩
    refine tri_cons (tri_assignC (cl := []) (ds := zints (namedOf (hd4 ns) (edges ns) ((ordF ns j).take 0))) (.inl rfl) rfl rfl rfl (by decide) (fun Kp γ s y => ?_) ?_)
    · rw [show zints (namedOf (hd4 ns) (edges ns) ((ordF ns j).take 0)) = zints ((hd4 ns).map (· % 7)) by unfold namedOf; simp, zmap]
      refine comp_r (it := fun i => (zints (hd4 ns)).getD i .none) (fun _ => true) (fun i => .int ((hd4 ns).getD i 0 % 7)) y.cx rfl (by decide) rfl (by decide) rfl ?_ (by omega) (fun i C v s' E Q hi l cx' vx r f => no_tests f) ?_ (fun i hi => rfl)
      · have ee : (zints (hd4 ns)).length = (hd4 ns).length := ints_len _
        rw [← ee]
        exact src_list y.cx.cn.hand (ev_rho y rfl)
      · intro i C v h' hi _ l cx' vx r
        rw [zget hi] at r
        exact ev_mod (ev_own cx' vx r) ev_int
    refine Tri.weak (ρ' := (("named" : Str), V.lst (zints (namedOf (hd4 ns) (edges ns) ((ordF ns j).take 0)))) :: (("order" : Str), V.lst (zints (ordF ns j))) :: rho12 ns) ?_ (Sub.look ⟨rfl, rfl, rfl, rfl, rfl, rfl, rfl, rfl, rfl, rfl, rfl, rfl, trivial⟩)
    refine tri_cons (tri_forL (ds := zints (ordF ns j)) (fun m μ ρ => μ = [] ∧ ρ = (("named" : Str), V.lst (zints (namedOf (hd4 ns) (edges ns) ((ordF ns j).take m)))) :: (("order" : Str), V.lst (zints (ordF ns j))) :: rho12 ns) (.inr ⟨rfl, rfl⟩) (fun Kp γ s y => by walk_at "Mv") ⟨rfl, rfl⟩ ?_ ?_ ?_)
    · rintro i μ' ρ' ⟨rfl, _⟩
      rfl
    · rintro m d μ' ρ' hd ⟨rfl, rfl⟩
      unfold zints at hd
      rw [List.getElem?_map] at hd
      obtain ⟨t, ht, rfl⟩ := Option.map_eq_some_iff.mp hd
      have hm : m < (ordF ns j).length := (List.getElem?_eq_some_iff.mp ht).1
      obtain ⟨t0, t1⟩ := ordF_in ns j t (List.mem_of_getElem? ht)
      have nl := named_len ns j (m := m)
      refine tri_cons (tri_assign (d := .lst (zints (namedOf (hd4 ns) (edges ns) ((ordF ns j).take (m + 1))))) (.inl rfl) (fun Kp γ s y => ?_) ?_)
      · rw [show zints (namedOf (hd4 ns) (edges ns) ((ordF ns j).take (m + 1))) = zints (namedOf (hd4 ns) (edges ns) ((ordF ns j).take m)) ++ zints (edges ns t.toNat) by
          rw [List.take_succ_eq_append_getElem hm, (List.getElem?_eq_some_iff.mp ht).2, cat_ints]; unfold namedOf; rw [List.flatMap_append]; simp]
        refine EvF.ev (evf_addX y.cx (by walk_at "Mv") (ev_item (ds := edgesV ns) (j := t) (by walk_at "Mv") (by walk_at "Mv") t0 ?_ (by omega)) (by rw [ints_len, ints_len, edges_len]; have := (cN_eq ns t.toNat).2; omega))
        unfold edgesV
        rw [List.getElem?_map, List.getElem?_range (by omega)]; rfl
      exact tri_end (ρ' := (("named" : Str), V.lst (zints (namedOf (hd4 ns) (edges ns) ((ordF ns j).take (m + 1))))) :: (("order" : Str), V.lst (zints (ordF ns j))) :: rho12 ns) ⟨rfl, rfl, rfl, rfl, rfl, rfl, rfl, rfl, rfl, rfl, rfl, rfl, trivial⟩ ⟨rfl, rfl⟩
    · rintro m r ⟨rfl, rfl⟩
      rw [ints_len, List.take_length]
      have nl := named_len ns j (m := (ordF ns j).length)
      rw [List.take_length] at nl
      refine tri_cons (tri_assign (d := .lst (zints (ordF ns (j + 1)))) (.inl rfl) (fun Kp γ s y => ev_fn y F.firsts (fun f doc pm an cdv ct h => firsts_c F h (Nat.lt_of_le_of_lt nl (by decide))) sub_self (eva_cons (by walk_at "Mv") (eva_cons (by walk_at "Mv") eva_nil))) ?_)
      exact tri_end (ρ' := (("order" : Str), V.lst (zints (ordF ns (j + 1)))) :: rho12 ns) ⟨rfl, rfl, rfl, rfl, rfl, rfl, rfl, rfl, rfl, rfl, rfl, trivial⟩ ⟨rfl, rfl⟩
  rintro m r ⟨rfl, rfl⟩
  rw [Int.toNat_natCast]
  have ol := ordF_len ns (nN ns)
  refine tri_cons (tri_assignC (cl := [("at", L + 5)]) (ds := zints (resF ns)) (.inl rfl) rfl rfl rfl (by decide) (fun Kp γ s y => ?_) ?_)
  · unfold resF
    rw [zmap]
    refine comp_r (it := fun i => (zints (ordF ns (nN ns))).getD i .none) (fun _ => true) (fun i => .int ((ats ns).getD ((ordF ns (nN ns)).getD i 0).toNat 0)) y.cx rfl (by decide) rfl (by decide) rfl ?_ (by omega) (fun i C v s' E Q hi l cx' vx r f => no_tests f) ?_ (fun i hi => rfl)
    · have ee : (zints (ordF ns (nN ns))).length = (ordF ns (nN ns)).length := ints_len _
      rw [← ee]
      exact src_list y.cx.cn.hand (ev_rho y rfl)
    · intro i C v h' hi _ l cx' vx r
      rw [zget hi] at r
      obtain ⟨t0, t1⟩ := ordF_in ns (nN ns) ((ordF ns (nN ns)).getD i 0) (by rw [List.getD_eq_getElem?_getD, List.getElem?_eq_getElem hi]; exact List.getElem_mem _)
      exact (ev_item (X := []) (ds := zints (ats ns)) (j := (ordF ns (nN ns)).getD i 0) (ev_free y l cx' rfl sub_nil) (ev_own cx' vx r) t0 (ints_get t0 (by rw [ats_len]; exact t1)) (by omega)).flat rfl
  have ml := memF_len ns
  have rl : (rootsF ns).length = 4 := by unfold rootsF; rw [List.length_map, h4]
  refine tri_cons (tri_assign (d := .lst (zints (memF ns))) (.inl rfl) (fun Kp γ s y => EvF.ev (evf_copy y.cx (evv_built y.cx F.N.list.1 F.N.list.2) (Y := []) (by walk_at "Mv") (fun _ _ r => r.flat flat_ints) (by rw [ints_len]; omega))) ?_)
  refine tri_cons (tri_assign (d := .lst (zints (rootsF ns))) (.inl rfl) (fun Kp γ s y => EvF.ev (evf_copy y.cx (evv_built y.cx F.N.list.1 F.N.list.2) (Y := []) (by walk_at "Mv") (fun _ _ r => r.flat flat_ints) (by rw [ints_len]; omega))) ?_)
  refine tri_cons (tri_assign (d := .lst (zints (resF ns))) (.inl rfl) (fun Kp γ s y => ev_fn y F.reach (fun f doc pm an cdv ct h => reach_c F h (S := ats ns) (by omega) (by omega) (by rw [ats_len]; omega) (fun a ha => ?_) (closedF ns) (resF_fix ns) (resF_prod ns)) sub_self (eva_cons (by walk_at "Mv") (eva_cons (by walk_at "Mv") eva_nil))) ?_)
  · obtain ⟨i, hi, rfl⟩ := List.mem_map.mp ha
    obtain ⟨e1, e2, e3⟩ := fld_eq (List.mem_range.mp hi)
    refine ⟨?_, e3, ?_⟩
    · unfold atI; omega
    · rw [e2]; omega
  refine tri_cons (tri_if (b := false) (fun Kp γ s y => bt_neV y.cx (d := .lst (zints (resF ns))) (by walk_at "Mv") (by walk_at "Mv") 8 (ok_ints _) (by decide)) ?_)
  exact tri_nil (Tri.weak h (Sub.look ⟨rfl, rfl, rfl, rfl, rfl, trivial⟩))
end L14
end Mine
namespace Mine
open PySem PySem.Calls PySem.Spec PyProof.Rows
set_option maxRecDepth 100000
namespace L14

theorem ev_run {W : Wd} {A : Around} {env : Env} {X : List Addr} {e : Expr} {d : V} {s : Shared} {Q E : Value → Shared → Prop} (x : Ev W A env X s.heap e d) (f : ∀ v s', Gw s s' → Rd X s'.heap v d → Q v s') : wpAny (model W.prog W.w) A (eval e env) Q E s := x s Q E (Le.refl _) f
/-- the last checks, on the heap as the generator left it -/
theorem law_last {W : Wd} {A : Around} {h₀ : Heap} {L f : Addr} {s₀ : Shared} {k : Nat} {doc pm cdv ct : Value} {an : Option Addr} {ns : List Int} :
    Tri (LB W k A h₀ L f [] s₀ doc pm cdv ct an) [] (rhoE ns) ((fnBody (st 10)).drop 21) fun fl _ _ => fl = .ret (.bool true) := by
  refine tri_cons (tri_if (b := false) (fun Kp γ s y => bt_neV y.cx (d := .lst (zints (memF ns))) (ev_nm y rfl) (ev_nm y rfl) 8 (ok_ints _) (by decide)) ?_)
  refine tri_nil (tri_cons (tri_if (b := false) (fun Kp γ s y => bt_neV y.cx (d := .lst (zints (rootsF ns))) (ev_nm y rfl) (ev_nm y rfl) 8 (ok_ints _) (by decide)) ?_))
  exact tri_nil (tri_cons (tri_ret (fun Kp γ s y => ev_bool) rfl))

/-- a state behind the generator -/
theorem Sat.behind {B : Bd} {Kp γ ρ s} {s' : Shared} {h₀' : Heap} {P : Addr} {W' : Wd} {oP : Obj} (y : Sat B Kp γ [] ρ s) (hX : B.X₀ = []) (hfr : B.A.frames = some [B.env]) (hef : B.env.frame = some B.env.locals) (hP : B.h₀.get? P = some oP) (hPs : ¬ IsSq oP) (hsz : h₀'.objs.size = B.h₀.objs.size) (hin : ∀ a o, h₀'.get? a = some o → ∃ o', B.h₀.get? a = some o') (gr : Gr W' h₀')
    (hk : ∀ b o, b ≠ P → s.heap.get? b = some o → s'.heap.get? b = some o) (hkeep : Le h₀' s'.heap) (hns : ∃ m, s'.heap.Ns B.env.locals m ∧ ∀ m', s.heap.Ns B.env.locals m' → m = m') :
    Sat ⟨W', B.k, B.A, h₀', B.env, [], s'⟩ (fun a o => h₀'.get? a = some o) [] [] ρ s' := by
  have kpP := y.kp P oP (y.h₀kp P oP hP)
  have sq : ∀ b o, s.heap.get? b = some o → IsSq o → s'.heap.get? b = some o := fun b o e q => hk b o (fun z => by rw [z, kpP.1] at e; cases e; exact hPs q) e
  have cl : ∀ {c v}, s.heap.IsCell c v → (∃ x, (x, c) ∈ B.env.cells) → s'.heap.IsCell c v := fun {c v} ⟨o, e, d⟩ ⟨x, hx⟩ => ⟨o, hk c o (fun z => kpP.2.2.1 x (z ▸ hx)) e, d⟩
  obtain ⟨m, hm, hmm⟩ := hns
  refine ⟨⟨y.wf.ek, y.wf.eg, y.wf.eb, y.wf.apart, y.wf.cl, fun a h => (nomatch h)⟩, ⟨gr, ⟨callerA, h₀', [], B.env, below_caller h₀', hfr, hef, y.wf.ek⟩, ?_, y.cn.hand, y.cn.room, y.cn.units, hkeep, ⟨m, hm⟩⟩, ⟨s'.heap, s'.toks, rfl⟩, fun a o e => e, fun a o e => ?_, fun x c hx => ?_, fun q hq => (nomatch hq), fun z d hz => ?_, fun q hq => (nomatch hq), List.nodup_nil⟩
  · show h₀'.objs.size ≤ B.env.locals
    rw [hsz]; exact y.cn.above
  · obtain ⟨o', e'⟩ := hin a o e
    have k := y.kp a o' (y.h₀kp a o' e')
    exact ⟨hkeep a o e, k.2.1, k.2.2.1, fun h => (nomatch h)⟩
  · obtain ⟨v, hv⟩ := y.cells x c hx
    exact ⟨v, cl hv ⟨x, hx⟩⟩
  · obtain ⟨v, h1, h2⟩ := y.vars z d hz
    rw [hX] at h2
    refine ⟨v, ?_, h2.move fun b o e q hx => ⟨sq b o e q, hx⟩⟩
    rcases h1 with ⟨p, m', q, r⟩ | ⟨p, c, q, r⟩
    · exact .inl ⟨p, m, hm, by rw [hmm m' q]; exact r⟩
    · exact .inr ⟨p, c, q, cl r ⟨z, mem_of_lookup q⟩⟩

set_option maxHeartbeats 4000000 in
theorem law_gen {W : Wd} {A : Around} {h₀ : Heap} {L f c P bm : Addr} {ob : Obj} {s₀ : Shared} {k : Nat} {doc pm cdv ct : Value} {an : Option Addr} {ns : List Int} {Kp γ s E} (F : Fns W) (hall : W.mg "all" = none ∧ W.mb "all" = some (.builtin "all")) (Bs : Based h₀ h₀ c P #[]) (M : BMod h₀ mainGlobals W.mg bm ob) (hcd : cdv = .ref c)
    (hfr : A.frames = some [callEnvC (fdOf "law" (st 10) doc pm an cdv ct) L f]) (hg : AllBare s₀.gens) (y : Sat (LB W k A h₀ L f [] s₀ doc pm cdv ct an) Kp γ [] (rhoE ns) s) :
    wpAny (model W.prog W.w) A (execs ((fnBody (st 10)).drop 20) (callEnvC (fdOf "law" (st 10) doc pm an cdv ct) L f)) (fun fl s' => ∃ v, fl = .ret v ∧ Rd [] s'.heap v (.bool true) ∧ OldK h₀ s'.heap ∧ s'.os = s₀.os ∧ AllBare s'.gens) E s := by
  have hrm := y.cn.room
  dsimp only at hrm
  refine wpAny_execs_cons (wpAny_If (isTrue_not (isTrue_plain (Call_ ((show EvV _ _ _ _ _ _ from evv_built y.cx hall.1 hall.2) s _ _ (Le.refl _) fun s₀₁ g₀₁ => callWith_builtin1 (args_cons (GeneratorExp_DF (K := ItemKind.int) (cl := []) (L := L) (m := Classical.choose y.cn.ns) (pz := fun _ => true) (d := fun _ => .bool true) Bs M hcd rfl y.cn.hand rfl rfl (by decide) rfl rfl rfl (by omega) ?_ (by intro _; rfl)) rfl) rfl rfl) rfl) rfl)))
  refine (show Ev _ _ _ _ _ _ _ from ev_rho y rfl) s₀₁ _ _ g₀₁.le fun v s₁ g₁ r₁ => ?_
  have y₁ := (y.gw g₀₁).gw g₁
  have nsL : s₁.heap.Ns L (Classical.choose y.cn.ns) := (Classical.choose_spec y.cn.ns).keeps (g₀₁.le.trans g₁.le)
  cases r₁ with
  | @lst l vs n _ ea _ ra =>
  have hLlt : L < s₁.heap.objs.size := nsL.lt
  obtain ⟨h1', t1', e1'⟩ := y₁.same
  refine ⟨l, vs, resF ns, s₁.heap.objs.size - 1, rfl, ⟨_, ea, rfl, n, rfl⟩, (rda_ints ra).areOf, ⟨nsL, y₁.cn.keep, y₁.cn.above⟩, by rw [e1']; exact hg, y₁.cn.here.lim, Nat.le_sub_one_of_lt hLlt, Nat.sub_lt (Nat.lt_of_le_of_lt (Nat.zero_le _) hLlt) Nat.one_pos, ?_, ?_, ?_⟩
  · intro c' C A' E' a v u m₂ _ _ _ _ _ _ _ _ _
    exact wpAny_tests_nil ⟨rfl, u.heap, u.toks, rfl, fun _ _ e => e⟩
  · intro c' C A' E' a v u m₂ hh _ _ _ hv _ Fu hm₂ _ _
    obtain ⟨t, rfl⟩ := hv
    have gN : u.heap.Ns mainGlobals W.mg := (LGe.ns_regrown Bs y.cn.gr.g).keeps Fu.keep
    have bN : u.heap.Ns builtinsNs W.mb := (LGe.ns_regrown Bs y.cn.gr.b).keeps Fu.keep
    refine ev_run (W := W) (X := []) (d := .bool (decide (("int" : String) = "int"))) (ev_isT (ev_type (d := .int a) ?_ ?_) (ev_typ ?_)) fun v s' g r => ?_
    · exact fun s Q E l f => Name_function_global rfl rfl (loadGlobal_builtin (show s.heap.Ns mainGlobals W.mg from gN.keeps l) F.N.type.1 (show s.heap.Ns builtinsNs W.mb from bN.keeps l) F.N.type.2 (f s (Gw.refl s))) (by decide)
    · exact fun s Q E l f => wpAny_Name (wpAny_loadName_local rfl rfl (Fu.ns.keeps l) hm₂ (f _ s (Gw.refl s) (.int a t))) (by decide)
    · exact fun s Q E l f => Name_function_global rfl rfl (loadGlobal_builtin (show s.heap.Ns mainGlobals W.mg from gN.keeps l) F.N.int.1 (show s.heap.Ns builtinsNs W.mb from bN.keeps l) F.N.int.2 (f s (Gw.refl s))) (by decide)
    cases r
    obtain ⟨⟨h', tk, rfl⟩, le⟩ := g
    exact ⟨.bool _, h', tk, rfl, le⟩
  · intro c' a s₅ B' F' G' hos hk X
    generalize (#[] ++ #[rawInt _, rawInt _, Value.ref c'] : Array Value) = ps' at B' F'
    refine args_nil ?_
    refine all_genD (q := fun _ => true) F' G' X (Nat.le_sub_one_of_lt hLlt) fun s' F'' G'' hos' hk' => ?_
    have eall : ((resF ns).filter fun _ => true).all (fun _ => true) = true := by rw [List.all_eq_true]; intro _ _; rfl
    rw [eall]
    refine wpAny_truthy_bool ?_
    simp only [Bool.not_true, Bool.false_eq_true, if_false]
    refine wpAny_execs_nil ?_
    have hk2 : ∀ b o, b ≠ P → s₁.heap.get? b = some o → s'.heap.get? b = some o := fun b o hb e => hk' b o (Nat.le_sub_one_of_lt (Heap.lt_size e)) (hk b o hb e)
    have tP := Bs.tab.2
    have grow : ∀ a o, (regrown h₀ P ps').get? a = some o → ∃ o', h₀.get? a = some o' := fun a o e => by
      by_cases hb : a = P
      · exact ⟨_, hb ▸ tP⟩
      · exact ⟨o, (Heap.get?_update_other _ _ (Ne.symm hb)).symm.trans e⟩
    let W' : Wd := { W with defs := fun _ _ => False, root := regrown h₀ P ps' }
    have gr : Gr W' (regrown h₀ P ps') := by
      obtain ⟨mc, l1, l2⟩ := y.cn.gr.lim
      exact ⟨LGe.ns_regrown Bs y.cn.gr.g, LGe.ns_regrown Bs y.cn.gr.b, ⟨mc, LGe.ns_regrown Bs l1, l2⟩, fun _ _ h => h.elim, Le.refl _⟩
    have y' := Sat.behind (W' := W') (h₀' := regrown h₀ P ps') (P := P) (s' := s') y₁ rfl hfr rfl tP (by rintro ⟨_, _, q⟩; cases q) (Heap.SameBut.update h₀ P _).1 grow gr hk2 F''.keep ⟨_, F''.ns, fun m' q => ns_unique nsL q⟩
    refine wpAny_mono (law_last (W := W') (k := k) (A := A) (h₀ := regrown h₀ P ps') (L := L) (f := f) (s₀ := s') (doc := doc) (pm := pm) (cdv := cdv) (ct := ct) (an := an) (ns := ns) _ _ s' E y') (fun fl s₆ o => ?_) fun _ _ e => e
    obtain ⟨fd', μ', ρ', fi, y₆, po⟩ := o
    subst po
    cases fl <;> first | exact fi.elim | skip
    refine ⟨_, rfl, fi, ?_, ?_, ?_⟩
    · obtain ⟨m6, hm6⟩ := y₆.cn.ns
      exact B'.finish (L := L) (m := m6) ⟨hm6, y₆.cn.keep, y₆.cn.above⟩
    · obtain ⟨h6, t6, e6⟩ := y₆.same
      rw [e6]
      show s'.os = s₀.os
      rw [hos', hos, e1']
    · obtain ⟨h6, t6, e6⟩ := y₆.same
      rw [e6]
      exact G''

theorem law_all {W : Wd} {A : Around} {h₀ : Heap} {L f c P bm : Addr} {ob : Obj} {s₀ : Shared} {k : Nat} {doc pm cdv ct : Value} {an : Option Addr} {ns : List Int} {Kp γ s E} (F : Fns W) (hz : ns.length < 2 ^ 62) (hall : W.mg "all" = none ∧ W.mb "all" = some (.builtin "all")) (Bs : Based h₀ h₀ c P #[]) (M : BMod h₀ mainGlobals W.mg bm ob) (hcd : cdv = .ref c)
    (hfr : A.frames = some [callEnvC (fdOf "law" (st 10) doc pm an cdv ct) L f]) (hg : AllBare s₀.gens) (y : Sat (LB W k A h₀ L f [] s₀ doc pm cdv ct an) Kp γ [] [(("script" : Str), .lst (zints ns))] s) :
    wpAny (model W.prog W.w) A (execs (fnBody (st 10)) (callEnvC (fdOf "law" (st 10) doc pm an cdv ct) L f)) (fun fl s' => ∃ v, fl = .ret v ∧ Rd [] s'.heap v (.bool true) ∧ OldK h₀ s'.heap ∧ s'.os = s₀.os ∧ AllBare s'.gens) E s := by
  rw [← List.take_append_drop 20 (fnBody (st 10))]
  refine execs_app (wpAny_mono (law_head F hz (law_lay F hz (law_search F hz (tri_nil (Post := fun f m r => f = .next ∧ m = [] ∧ r = rhoE ns) ⟨rfl, rfl, rfl⟩))) Kp γ s E y) (fun fl s' o => ?_) fun _ _ e => e)
  obtain ⟨fd, μ', ρ', fi, y', rfl, rfl, rfl⟩ := o
  cases fl <;> first | exact fi.elim | exact law_gen F hall Bs M hcd hfr hg y'

theorem top14 {W : Wd} {f a c P bm : Addr} {ob o : Obj} {doc pm cdv ct : Value} {an : Option Addr} {s : Shared} {ns : List Int} {R : Result → Shared → Prop} (F : Fns W) (hz : ns.length < 2 ^ 62) (hall : W.mg "all" = none ∧ W.mb "all" = some (.builtin "all")) (Bs : Based s.heap s.heap c P #[]) (M : BMod s.heap mainGlobals W.mg bm ob) (hcd' : cdv = .ref c) (hg : AllBare s.gens)
    (gr : Gr W s.heap) (ho : s.heap.get? f = some o) (hdat : o.data = .func (fdOf "law" (st 10) doc pm an cdv ct)) (hcd : s.heap.CodeRec cdv "law") (rs : Rd [] s.heap (.ref a) (.lst (zints ns)))
    (hR : ∀ v s', Rd [] s'.heap v (.bool true) → OldK s.heap s'.heap → s'.os = s.os → AllBare s'.gens → R (.ok (.ret v)) s') : codeAny (model W.prog W.w) callerA (.call (.ref f) ⟨[.ref a], []⟩) R s := by
  refine call_core (k := 0 + 1 + 1) (fd := fdOf "law" (st 10) doc pm an cdv ct) (ps := ["script"]) (args := [.lst (zints ns)]) (X := []) gr (below_caller _) rfl ?_ ?_ ho hdat hcd (fun _ h => (nomatch h)) (.cons rs .nil) rfl rfl rfl rfl ?_ (by decide) rfl ?_ (show ((cellsFrom 0 (fnScope (st 10)).names []).map (·.1)).Nodup by decide) rfl rfl rfl ?_
  · rw [show callerA.depth = 301 from rfl]; unfold recursionLimit; omega
  · rw [show callerA.units = 4 from rfl, show cLine = 9900 from rfl]; omega
  · intro vs hv
    match vs, hv with
    | [a], _ => rfl
  · intro n x hx
    rw [List.mem_singleton.mp hx]
    exact .inr ⟨rfl, rfl⟩
  · rintro ⟨W', k', A, h₀, env, X₀, s₀⟩ s₁ hW hk' ⟨L, hL⟩ hA hh hX hs sat
    dsimp only at hW hk' hL hA hh hX hs
    subst hW hk' hL hA hh hX hs
    refine wpAny_mono (law_all (k := 0) F hz hall Bs M hcd' rfl hg sat) (fun fl s' ou => ?_) fun _ _ e => e
    obtain ⟨v, rfl, h1, h2, h3, h4⟩ := ou
    exact hR v s' h1 h2 h3 h4
end L14
end Mine
open PySem PySem.W PyProof.Rows Mine Mine.L14 in
set_option maxRecDepth 100000 in
set_option maxHeartbeats 8000000 in
theorem PySem.Challenge.cw_k19_0014_holds : PySem.Challenge.rw_k19_0014.Holds := by
  w_on
  o_law
  k_head
  (case hw => w_witness2)
  k_fill
  intro w s₀ s₁ mg mb G Y fa o pm cd doc dV kV ho hd hcd hD hmg hg args vals as hpre hlay hrd hwl hlo
  have KX := kIn_of Y
  refine Ground.open G ?_
  intro T B D TE TW
  try (refine guard_noD D (by decide +kernel) ?_; clear D)
  wrow_args hpre hlay hrd hwl hlo
  first | refine callC_kw (enter_call ?_) | refine enter_call ?_ | refine callC_kw (enter_callW ?_) | refine enter_callW ?_ | w_how
  have hD1 := Dflts.none hD rfl
  have hD2 := Dflts.noKw hD
  subst hD1 hD2
  rename List Int => ns
  rename Well _ _ _ _ => wl
  rename ¬ _ < _ => hlen
  have hlen' : ns.length ≤ 63 := by omega
  have gr := gr_of (prog := PySem.Challenge.rw_k19_0014.row.prog) (w := w) KX T
  have N := std_of (prog := PySem.Challenge.rw_k19_0014.row.prog) (w := w) KX T (by k_is) (by k_is) (by k_is) (by k_is) (by k_is) (by k_is) (by k_is)
  have F' := @Fns.mk _ N
  have F := F'
    (by refine' hasDef_of KX T.g ?h1 ?h2 ?h3 ?h4; (case h1 => k_is); (case h2 => k_is); (case h3 => rfl); (case h4 => k_is))
    (by refine' hasDef_of KX T.g ?h1 ?h2 ?h3 ?h4; (case h1 => k_is); (case h2 => k_is); (case h3 => rfl); (case h4 => k_is))
    (by refine' hasDef_of KX T.g ?h1 ?h2 ?h3 ?h4; (case h1 => k_is); (case h2 => k_is); (case h3 => rfl); (case h4 => k_is))
    (by refine' hasDef_of KX T.g ?h1 ?h2 ?h3 ?h4; (case h1 => k_is); (case h2 => k_is); (case h3 => rfl); (case h4 => k_is))
    (by refine' hasDef_of KX T.g ?h1 ?h2 ?h3 ?h4; (case h1 => k_is); (case h2 => k_is); (case h3 => rfl); (case h4 => k_is))
    (by refine' hasDef_of KX T.g ?h1 ?h2 ?h3 ?h4; (case h1 => k_is); (case h2 => k_is); (case h3 => rfl); (case h4 => k_is))
    (by refine' hasDef_of KX T.g ?h1 ?h2 ?h3 ?h4; (case h1 => k_is); (case h2 => k_is); (case h3 => rfl); (case h4 => k_is))
    (by refine' hasDef_of KX T.g ?h1 ?h2 ?h3 ?h4; (case h1 => k_is); (case h2 => k_is); (case h3 => rfl); (case h4 => k_is))
  have hall := built_of (x := "all") KX T (by k_is) PyProof.Rows.boot_all
  obtain ⟨bm, ob, M⟩ := bmod_of_top T
  obtain ⟨c, P, he, B0⟩ := based_of_top T rfl hmg ho hd
  refine top14 (ns := ns) (doc := doc) (pm := pm) (an := none) (cdv := cd) (ct := .none) F (by omega) hall B0 M he (AllBare.of_eq hg) gr ho (by rw [hd]; rfl) hcd (rd_script wl) ?_
  intro v s' r hold hos hgens
  cases r
  exact ⟨.inl ⟨_, _, [], rfl, fun _ => rfl, .bool true, postW_of rfl (w_eq_bool (w_res rfl) w_lit) rfl, unshared_nil⟩, hold, hos, hgens⟩
