/- That the law BreedMore holds of every input (the tied card BreedMoreCardSaid), where the two listed tables lie as the program's text lays them. (Part 5 of this claim's texts.) -/
import Derived.Test.YtdebnmpbochgbaaDoorMo4
set_option linter.unusedSimpArgs false
set_option linter.unusedVariables false
set_option linter.unnecessarySimpa false
section
/- Contracts: Shows and Triples of the program. -/
set_option linter.unusedVariables false
set_option linter.unusedSimpArgs false
namespace Gc
variable {E : Env} {base kept : Nat} {h : Heap}
theorem cells_of_one {v : Val} (h : v.one = true) : v.cells = [v] := by cases v <;> first | rfl | simp [Val.one] at h
def showsI (t : Tr) (x : I3) : Bool := t.shows (x.1.toNat, x.2.1.toNat, x.2.2.toNat)
theorem showsI_toI {t : Tr} {x : T3} : showsI t (toI x) = t.shows x := by simp [showsI, toI]
def needShows : List Nat := [F.breed_shows, F.breed_common, F.breed_set_beasts]
theorem asks_Shows_1 {l : List Nat} (hE : E.Has tabs05 l) (hf : ∀ f ∈ F.breed_Shows_1 :: needShows, f ∈ l) {N q : Nat} {lv v0 : Val} {vs : List Val} {m n : Nat} {t : Tr} {ts : List I3} (hn : n ≤ 8) (hq : q < N) (hg : h.get q = some ⟨[lv], true, 0⟩) (hlv : lv.blkIn (· < N)) (hls : ∀ s, lv ≠ .str s) (hsp : spread h 1 lv = some (m, v0 :: vs)) (tv : t.V) (ht : TreeAt (· < N) h t v0) (hts : ts.all (isTriple n) = true) :
    Asks E N h F.breed_Shows_1 [.ptr q 0] ts fun x => !showsI t x := by
  intro t0 ht0 h' hk w' hN
  rw [List.all_eq_true] at hts
  obtain ⟨x, rfl, hx⟩ := isTriple_iff.1 (hts t0 ht0)
  refine c_begin hE (hf _ (by simp)) rfl (by decide) (by decide) ?_
  simp only [T.breed_Shows_1, Frame.enterFrom, Nat.zero_add, Nat.reduceAdd]
  have L1 := left_push w' (some ⟨cell3 (toI x), true, 0⟩)
  have k1 : ∀ j, j < N → (h'.push (some ⟨cell3 (toI x), true, 0⟩)).get j = h.get j := fun j hj => by rw [L1.1 j (by omega), hk j hj]
  have x0 : boxV h' h'.size none (.agg (cell3 (toI x))) = some (.ptr h'.size 0, h'.push (some ⟨cell3 (toI x), true, 0⟩)) := boxV_new rfl
  have l2 : (h'.push (some ⟨cell3 (toI x), true, 0⟩)).load true 3 h'.size 0 = some (.agg (cell3 (toI x))) := load_agg get_push_self (by simp [cell3]) rfl
  have hs1 := L1.2.2
  generalize h'.push (some ⟨cell3 (toI x), true, 0⟩) = h1 at L1 k1 x0 l2 hs1
  have g1 : h1.get q = some ⟨[lv], true, 0⟩ := by rw [k1 q hq]; exact hg
  have l1 : h1.load false 1 q 0 = some lv := load_one g1 rfl
  have hsp1 : spread h1 1 lv = some (m, v0 :: vs) := spread_keep hsp hlv k1
  have hm : 0 < m := by
    have := spread_length hsp
    simp at this
    omega
  obtain ⟨p, p1, p2⟩ : ∃ p, indexAddrV h1 1 lv (.int .i64 0) = some (p, h1) ∧ loadV h1 false 1 p = some (v0, h1) := by
    cases lv with
    | slice k o n c =>
      have e : n = m := by
        have := spread_len hls hsp1
        simp only [lenV, Option.some.injEq, Prod.mk.injEq, Val.int.injEq, true_and, and_true] at this
        omega
      subst e
      exact spread_get1 (i := 0) hsp1 rfl (.inr trivial)
    | nils => simp [spread] at hsp
    | str s => exact absurd rfl (hls s)
    | _ => simp [spread] at hsp
  have ht1 : TreeAt (· < h1.size) h1 t v0 := TreeAt.keep (fun j hj => k1 j hj) (fun j hj => by omega) _ _ ht
  repeat' (first | (apply o_op; (solve | (conv => lhs; simp (disch := first | omega | (simp only [Val.cells, List.all_cons, List.all_nil, Val.one, Bool.and_self])) only [zev, zex, Val.one, List.length_cons, List.length_nil, Nat.reduceAdd, Option.map_some, Option.map_none, List.map_cons, List.map_nil, zva, ↓reduceIte, Nat.reduceEqDiff, x0, l1, l2, p1, p2])); (solve | (conv => lhs; simp only [zfr, Nat.reduceEqDiff, Nat.reduceLT, ↓reduceIte]))) | (apply o_yes; (solve | (conv => lhs; simp only [zva, ↓reduceIte, Nat.reduceEqDiff, x0, l1, l2, p1, p2])); (solve | rfl)) | (apply o_no; (solve | (conv => lhs; simp only [zva, ↓reduceIte, Nat.reduceEqDiff, x0, l1, l2, p1, p2])); (solve | decide); (solve | (conv => lhs; simp only [zfr, Nat.reduceEqDiff, Nat.reduceLT, ↓reduceIte]))) | (apply o_not; (solve | (conv => lhs; simp only [zva, ↓reduceIte, Nat.reduceEqDiff])); (solve | (conv => lhs; simp only [zfr, Nat.reduceEqDiff, Nat.reduceLT, ↓reduceIte]))) | (apply o_if; (solve | (conv => lhs; simp only [zva, ↓reduceIte, Nat.reduceEqDiff])); (solve | (intro hbb; conv => lhs; simp (disch := first | omega | (simp only [Val.cells, List.all_cons, List.all_nil, Val.one, Bool.and_self])) only [zev, zex, Val.one, List.length_cons, List.length_nil, Nat.reduceAdd, Option.map_some, Option.map_none, List.map_cons, List.map_nil, zva, ↓reduceIte, Nat.reduceEqDiff, hbb, x0, l1, l2, p1, p2])); (solve | (conv => lhs; simp only [zfr, Nat.reduceEqDiff, Nat.reduceLT, ↓reduceIte]))) | (apply o_end; (solve | (conv => lhs; simp only [zdr, inl, Nat.reduceEqDiff, or_false, or_true, ↓reduceIte]))) | apply g_seq | apply g_region | apply g_next | apply g_block | apply g_out | (apply g_true; (solve | (conv => lhs; simp only [zva, ↓reduceIte, Nat.reduceEqDiff, x0, l1, l2, p1, p2]))) | (apply g_false; (solve | (conv => lhs; simp only [zva, ↓reduceIte, Nat.reduceEqDiff, x0, l1, l2, p1, p2]))) | apply g_here | (apply g_past; (solve | decide)) | apply g_exit | apply g_retc | apply g_retb | apply g_ret | apply g_done)
  (apply o_call; (solve | (conv => lhs; simp only [Callee.find, List.map_cons, List.map_nil, List.cons_append, List.nil_append, zva, ↓reduceIte, Nat.reduceEqDiff])))
  · exact (shows_run hE (fun f hf' => hf f (List.mem_cons_of_mem _ hf')) L1.2.1 tv ht1 hn hx).lower hs1
  rintro _ h3 ⟨rfl, L3⟩
  (conv => arg 8; simp only [zfr, Nat.reduceEqDiff, Nat.reduceLT, ↓reduceIte])
  repeat' (first | (apply o_op; (solve | (conv => lhs; simp (disch := first | omega | (simp only [Val.cells, List.all_cons, List.all_nil, Val.one, Bool.and_self])) only [zev, zex, Val.one, List.length_cons, List.length_nil, Nat.reduceAdd, Option.map_some, Option.map_none, List.map_cons, List.map_nil, zva, ↓reduceIte, Nat.reduceEqDiff])); (solve | (conv => lhs; simp only [zfr, Nat.reduceEqDiff, Nat.reduceLT, ↓reduceIte]))) | (apply o_yes; (solve | (conv => lhs; simp only [zva, ↓reduceIte, Nat.reduceEqDiff])); (solve | rfl)) | (apply o_no; (solve | (conv => lhs; simp only [zva, ↓reduceIte, Nat.reduceEqDiff])); (solve | decide); (solve | (conv => lhs; simp only [zfr, Nat.reduceEqDiff, Nat.reduceLT, ↓reduceIte]))) | (apply o_not; (solve | (conv => lhs; simp only [zva, ↓reduceIte, Nat.reduceEqDiff])); (solve | (conv => lhs; simp only [zfr, Nat.reduceEqDiff, Nat.reduceLT, ↓reduceIte]))) | (apply o_if; (solve | (conv => lhs; simp only [zva, ↓reduceIte, Nat.reduceEqDiff])); (solve | (intro hbb; conv => lhs; simp (disch := first | omega | (simp only [Val.cells, List.all_cons, List.all_nil, Val.one, Bool.and_self])) only [zev, zex, Val.one, List.length_cons, List.length_nil, Nat.reduceAdd, Option.map_some, Option.map_none, List.map_cons, List.map_nil, zva, ↓reduceIte, Nat.reduceEqDiff, hbb])); (solve | (conv => lhs; simp only [zfr, Nat.reduceEqDiff, Nat.reduceLT, ↓reduceIte]))) | (apply o_end; (solve | (conv => lhs; simp only [zdr, inl, Nat.reduceEqDiff, or_false, or_true, ↓reduceIte]))) | apply g_seq | apply g_region | apply g_next | apply g_block | apply g_out | (apply g_true; (solve | (conv => lhs; simp only [zva, ↓reduceIte, Nat.reduceEqDiff]))) | (apply g_false; (solve | (conv => lhs; simp only [zva, ↓reduceIte, Nat.reduceEqDiff]))) | apply g_here | (apply g_past; (solve | decide)) | apply g_exit | apply g_retc | apply g_retb | apply g_ret | apply g_done)
  exact ⟨.inr rfl, _, rfl, rfl, L1.trans L3⟩
/-- What Shows returns. -/
def showsR (n : Int) (s : List UInt8) (ts : List I3) : Bool × Int :=
  if readErr n [s] ≠ 0 then (false, readErr n [s]) else if listErr n ts ≠ 0 then (false, listErr n ts) else ((match treeI n s with | some t => ts.all (showsI t) | none => false), 0)
theorem readErr_one {n : Int} {s : List UInt8} : readErr n [s] = 0 ↔ ∃ t, treeI n s = some t := by
  unfold readErr
  constructor
  · intro h
    split at h
    · cases ht : treeI n s with
      | none => simp [ht] at h
      | some t => exact ⟨t, rfl⟩
    · cases h
  · rintro ⟨t, ht⟩
    rw [if_pos (treeI_V ht).2.2.2]
    simp [ht]
def needShowsF : List Nat := [F.breed_Shows, F.breed_remembered, F.slices_ContainsFunc_Triple, F.slices_IndexFunc_Triple, F.breed_Shows_1, F.breed_read, F.breed_herd, F.breed_parse] ++ needShows ++ needRead
theorem listAt_spread {N : Nat} {h : Heap} {lv : Val} {zs : List Z} (a : ListAt N h lv zs) : spread h 1 lv = some (zs.length, cellsZ zs) := (a.acc (Nat.le_refl N)).spread
theorem listAt_blk {N : Nat} {h : Heap} {lv : Val} {zs : List Z} (a : ListAt N h lv zs) (w : h.Wf) : lv.blkIn (· < h.size) ∧ ∀ s, lv ≠ .str s := by
  rcases a with ⟨rfl, _⟩ | ⟨k, rfl, _, hk, _⟩
  · exact ⟨trivial, by simp⟩
  · exact ⟨.inr (w.lt hk), by simp⟩
theorem listAt_trees {N : Nat} {h : Heap} {lv : Val} {zs : List Z} (a : ListAt N h lv zs) : ∀ z ∈ zs, TreeAt (· < h.size) h z.1 z.2 := by
  rcases a with ⟨_, rfl⟩ | ⟨k, _, _, _, hz⟩
  · simp
  · exact fun z hzm => TreeAt.keep (fun _ _ => rfl) (fun j hj => hj.2.1) _ _ (hz z hzm).1
theorem Shows_run {l : List Nat} (hE : E.Has tabs05 l) (hf : ∀ f ∈ needShowsF, f ∈ l) (w : h.Wf) (tb : Tables h) (h2s : 2 ≤ h.size) {n : Int} {s : List UInt8} {v : Val} {ts : List I3} (ht : TriplesAt h v ts) (hlen : ts.length < 2 ^ 60) :
    CallV E h.size F.breed_Shows [.int .i64 n, .str s, v] h fun r h' => r = .tup [.bool (showsR n s ts).1, .int .i64 (showsR n s ts).2] ∧ Left' h h' := by
  refine c_begin hE (hf _ (by decide)) rfl (by decide) (by decide) ?_
  simp only [T.breed_Shows, Frame.enterFrom, Nat.zero_add, Nat.reduceAdd]
  have f1 : fill [Val.str []] [(0, 1, .str s)] = some [.str s] := rfl
  have f2 := buildSliceV_new (h := h) (base := h.size) (esz := 1) (n0 := 1) (cs := [.str s]) rfl
  have L1 := left_push w (some ⟨[.str s], true, 1⟩)
  have hv : StrsAt (h.push (some ⟨[.str s], true, 1⟩)) (.slice h.size 0 1 (some 1)) [s] := ⟨by simp, by rw [spread_slice get_push_self (by simp)]; rfl⟩
  repeat' (first | (apply o_op; (solve | (conv => lhs; simp (disch := first | omega | (simp only [Val.cells, List.all_cons, List.all_nil, Val.one, Bool.and_self])) only [zev, zex, Val.one, List.length_cons, List.length_nil, Nat.reduceAdd, Option.map_some, Option.map_none, List.map_cons, List.map_nil, zva, ↓reduceIte, Nat.reduceEqDiff, f1, f2])); (solve | (conv => lhs; simp only [zfr, Nat.reduceEqDiff, Nat.reduceLT, ↓reduceIte]))) | (apply o_yes; (solve | (conv => lhs; simp only [zva, ↓reduceIte, Nat.reduceEqDiff, f1, f2])); (solve | rfl)) | (apply o_no; (solve | (conv => lhs; simp only [zva, ↓reduceIte, Nat.reduceEqDiff, f1, f2])); (solve | decide); (solve | (conv => lhs; simp only [zfr, Nat.reduceEqDiff, Nat.reduceLT, ↓reduceIte]))) | (apply o_not; (solve | (conv => lhs; simp only [zva, ↓reduceIte, Nat.reduceEqDiff])); (solve | (conv => lhs; simp only [zfr, Nat.reduceEqDiff, Nat.reduceLT, ↓reduceIte]))) | (apply o_if; (solve | (conv => lhs; simp only [zva, ↓reduceIte, Nat.reduceEqDiff])); (solve | (intro hbb; conv => lhs; simp (disch := first | omega | (simp only [Val.cells, List.all_cons, List.all_nil, Val.one, Bool.and_self])) only [zev, zex, Val.one, List.length_cons, List.length_nil, Nat.reduceAdd, Option.map_some, Option.map_none, List.map_cons, List.map_nil, zva, ↓reduceIte, Nat.reduceEqDiff, hbb, f1, f2])); (solve | (conv => lhs; simp only [zfr, Nat.reduceEqDiff, Nat.reduceLT, ↓reduceIte]))) | (apply o_end; (solve | (conv => lhs; simp only [zdr, inl, Nat.reduceEqDiff, or_false, or_true, ↓reduceIte]))) | apply g_seq | apply g_region | apply g_next | apply g_block | apply g_out | (apply g_true; (solve | (conv => lhs; simp only [zva, ↓reduceIte, Nat.reduceEqDiff, f1, f2]))) | (apply g_false; (solve | (conv => lhs; simp only [zva, ↓reduceIte, Nat.reduceEqDiff, f1, f2]))) | apply g_here | (apply g_past; (solve | decide)) | apply g_exit | apply g_retc | apply g_retb | apply g_ret | apply g_done)
  (apply o_call; (solve | (conv => lhs; simp only [Callee.find, List.map_cons, List.map_nil, List.cons_append, List.nil_append, zva, ↓reduceIte, Nat.reduceEqDiff])))
  · exact (read_run hE (fun f hf' => hf f (by revert f; decide)) L1.2.1 (tb.keep w L1.1) (n := n) (Nat.le_trans h2s L1.2.2) hv (by simp)).lower (show h.size ≤ _ from L1.2.2)
  rintro _ h2 ⟨L2, lv, rfl, hone, hz⟩
  (conv => arg 8; simp only [zfr, Nat.reduceEqDiff, Nat.reduceLT, ↓reduceIte])
  have L12 := L1.trans L2
  have st : (h2.push (some ⟨[.nils], true, 0⟩)).store h.size h2.size 0 [lv] = some (h2.push (some ⟨[lv], true, 0⟩)) := store_pushN L12.2.2 rfl (by simp [hone])
  have hcl := cells_of_one hone
  have L3 := L12.trans (left_push L12.2.1 (some ⟨[lv], true, 0⟩))
  repeat' (first | (apply o_op; (solve | (conv => lhs; simp (disch := first | omega | (simp only [Val.cells, List.all_cons, List.all_nil, Val.one, Bool.and_self])) only [zev, zex, Val.one, List.length_cons, List.length_nil, Nat.reduceAdd, Option.map_some, Option.map_none, List.map_cons, List.map_nil, zva, ↓reduceIte, Nat.reduceEqDiff, st, hcl])); (solve | (conv => lhs; simp only [zfr, Nat.reduceEqDiff, Nat.reduceLT, ↓reduceIte]))) | (apply o_yes; (solve | (conv => lhs; simp only [zva, ↓reduceIte, Nat.reduceEqDiff, st, hcl])); (solve | rfl)) | (apply o_no; (solve | (conv => lhs; simp only [zva, ↓reduceIte, Nat.reduceEqDiff, st, hcl])); (solve | decide); (solve | (conv => lhs; simp only [zfr, Nat.reduceEqDiff, Nat.reduceLT, ↓reduceIte]))) | (apply o_not; (solve | (conv => lhs; simp only [zva, ↓reduceIte, Nat.reduceEqDiff])); (solve | (conv => lhs; simp only [zfr, Nat.reduceEqDiff, Nat.reduceLT, ↓reduceIte]))) | (apply o_if; (solve | (conv => lhs; simp only [zva, ↓reduceIte, Nat.reduceEqDiff])); (solve | (intro hbb; conv => lhs; simp (disch := first | omega | (simp only [Val.cells, List.all_cons, List.all_nil, Val.one, Bool.and_self])) only [zev, zex, Val.one, List.length_cons, List.length_nil, Nat.reduceAdd, Option.map_some, Option.map_none, List.map_cons, List.map_nil, zva, ↓reduceIte, Nat.reduceEqDiff, hbb, st, hcl])); (solve | (conv => lhs; simp only [zfr, Nat.reduceEqDiff, Nat.reduceLT, ↓reduceIte]))) | (apply o_end; (solve | (conv => lhs; simp only [zdr, inl, Nat.reduceEqDiff, or_false, or_true, ↓reduceIte]))) | apply g_seq | apply g_region | apply g_next | apply g_block | apply g_out | (apply g_true; (solve | (conv => lhs; simp only [zva, ↓reduceIte, Nat.reduceEqDiff, st, hcl]))) | (apply g_false; (solve | (conv => lhs; simp only [zva, ↓reduceIte, Nat.reduceEqDiff, st, hcl]))) | apply g_here | (apply g_past; (solve | decide)) | apply g_exit | apply g_retc | apply g_retb | apply g_ret | apply g_done)
  by_cases e0 : readErr n [s] = 0
  · have e1 : (readErr n [s] == 0) = true := by simp [e0]
    rw [e1]
    repeat' (first | (apply o_op; (solve | (conv => lhs; simp (disch := first | omega | (simp only [Val.cells, List.all_cons, List.all_nil, Val.one, Bool.and_self])) only [zev, zex, Val.one, List.length_cons, List.length_nil, Nat.reduceAdd, Option.map_some, Option.map_none, List.map_cons, List.map_nil, zva, ↓reduceIte, Nat.reduceEqDiff])); (solve | (conv => lhs; simp only [zfr, Nat.reduceEqDiff, Nat.reduceLT, ↓reduceIte]))) | (apply o_yes; (solve | (conv => lhs; simp only [zva, ↓reduceIte, Nat.reduceEqDiff])); (solve | rfl)) | (apply o_no; (solve | (conv => lhs; simp only [zva, ↓reduceIte, Nat.reduceEqDiff])); (solve | decide); (solve | (conv => lhs; simp only [zfr, Nat.reduceEqDiff, Nat.reduceLT, ↓reduceIte]))) | (apply o_not; (solve | (conv => lhs; simp only [zva, ↓reduceIte, Nat.reduceEqDiff])); (solve | (conv => lhs; simp only [zfr, Nat.reduceEqDiff, Nat.reduceLT, ↓reduceIte]))) | (apply o_if; (solve | (conv => lhs; simp only [zva, ↓reduceIte, Nat.reduceEqDiff])); (solve | (intro hbb; conv => lhs; simp (disch := first | omega | (simp only [Val.cells, List.all_cons, List.all_nil, Val.one, Bool.and_self])) only [zev, zex, Val.one, List.length_cons, List.length_nil, Nat.reduceAdd, Option.map_some, Option.map_none, List.map_cons, List.map_nil, zva, ↓reduceIte, Nat.reduceEqDiff, hbb])); (solve | (conv => lhs; simp only [zfr, Nat.reduceEqDiff, Nat.reduceLT, ↓reduceIte]))) | (apply o_end; (solve | (conv => lhs; simp only [zdr, inl, Nat.reduceEqDiff, or_false, or_true, ↓reduceIte]))) | apply g_seq | apply g_region | apply g_next | apply g_block | apply g_out | (apply g_true; (solve | (conv => lhs; simp only [zva, ↓reduceIte, Nat.reduceEqDiff]))) | (apply g_false; (solve | (conv => lhs; simp only [zva, ↓reduceIte, Nat.reduceEqDiff]))) | apply g_here | (apply g_past; (solve | decide)) | apply g_exit | apply g_retc | apply g_retb | apply g_ret | apply g_done)
    (apply o_call; (solve | (conv => lhs; simp only [Callee.find, List.map_cons, List.map_nil, List.cons_append, List.nil_append, zva, ↓reduceIte, Nat.reduceEqDiff])))
    · exact (remembered_run hE (hf _ (by decide)) L3.2.1 (ht.left w L3) hlen).lower (show h.size ≤ _ from L3.2.2)
    rintro _ h4 ⟨rfl, L4⟩
    (conv => arg 8; simp only [zfr, Nat.reduceEqDiff, Nat.reduceLT, ↓reduceIte])
    have L34 := L3.trans L4
    by_cases e2 : listErr n ts = 0
    · have e3 : (listErr n ts != 0) = false := by simp [e2]
      repeat' (first | (apply o_op; (solve | (conv => lhs; simp (disch := first | omega | (simp only [Val.cells, List.all_cons, List.all_nil, Val.one, Bool.and_self])) only [zev, zex, Val.one, List.length_cons, List.length_nil, Nat.reduceAdd, Option.map_some, Option.map_none, List.map_cons, List.map_nil, zva, ↓reduceIte, Nat.reduceEqDiff, e3])); (solve | (conv => lhs; simp only [zfr, Nat.reduceEqDiff, Nat.reduceLT, ↓reduceIte]))) | (apply o_yes; (solve | (conv => lhs; simp only [zva, ↓reduceIte, Nat.reduceEqDiff, e3])); (solve | rfl)) | (apply o_no; (solve | (conv => lhs; simp only [zva, ↓reduceIte, Nat.reduceEqDiff, e3])); (solve | decide); (solve | (conv => lhs; simp only [zfr, Nat.reduceEqDiff, Nat.reduceLT, ↓reduceIte]))) | (apply o_not; (solve | (conv => lhs; simp only [zva, ↓reduceIte, Nat.reduceEqDiff])); (solve | (conv => lhs; simp only [zfr, Nat.reduceEqDiff, Nat.reduceLT, ↓reduceIte]))) | (apply o_if; (solve | (conv => lhs; simp only [zva, ↓reduceIte, Nat.reduceEqDiff])); (solve | (intro hbb; conv => lhs; simp (disch := first | omega | (simp only [Val.cells, List.all_cons, List.all_nil, Val.one, Bool.and_self])) only [zev, zex, Val.one, List.length_cons, List.length_nil, Nat.reduceAdd, Option.map_some, Option.map_none, List.map_cons, List.map_nil, zva, ↓reduceIte, Nat.reduceEqDiff, hbb, e3])); (solve | (conv => lhs; simp only [zfr, Nat.reduceEqDiff, Nat.reduceLT, ↓reduceIte]))) | (apply o_end; (solve | (conv => lhs; simp only [zdr, inl, Nat.reduceEqDiff, or_false, or_true, ↓reduceIte]))) | apply g_seq | apply g_region | apply g_next | apply g_block | apply g_out | (apply g_true; (solve | (conv => lhs; simp only [zva, ↓reduceIte, Nat.reduceEqDiff, e3]))) | (apply g_false; (solve | (conv => lhs; simp only [zva, ↓reduceIte, Nat.reduceEqDiff, e3]))) | apply g_here | (apply g_past; (solve | decide)) | apply g_exit | apply g_retc | apply g_retb | apply g_ret | apply g_done)
      obtain ⟨zs, hla, hzs⟩ := hz e0
      obtain ⟨t, htt⟩ := readErr_one.1 e0
      obtain ⟨tv, tset, ttext, hn1, hn8⟩ := treeI_V htt
      obtain ⟨z, rfl⟩ : ∃ z, zs = [z] := List.length_eq_one_iff.1 (by simpa using (congrArg List.length hzs).symm)
      simp only [List.map_cons, List.map_nil, List.cons.injEq, and_true] at hzs
      rw [htt] at hzs
      have hz1 : z.1 = t := by simpa using hzs.symm
      obtain ⟨m, rfl⟩ : ∃ m : Nat, n = m := ⟨n.toNat, by omega⟩
      have L24 : Left' h2 h4 := (left_push L12.2.1 (some ⟨[lv], true, 0⟩)).trans L4
      have g4 : h4.get h2.size = some ⟨[lv], true, 0⟩ := by rw [L4.1 _ (by simp)]; exact get_push_self
      obtain ⟨b1, b2⟩ := listAt_blk hla L12.2.1
      have hsp4 : spread h4 1 lv = some (1, [z.2]) := spread_left L12.2.1 (listAt_spread hla) L24
      have ht4 : TreeAt (· < h4.size) h4 t z.2 := by rw [← hz1]; exact (listAt_trees hla z (by simp)).left L24
      have hall : ts.all (isTriple m) = true := by
        unfold listErr at e2
        split at e2
        · cases e2
        · split at e2
          · assumption
          · cases e2
      have hq4 : h2.size < h4.size := by
        have := L4.2.2
        simp at this
        omega
      have asks := asks_Shows_1 (h := h4) hE (fun f hf' => hf f (by revert f; decide)) (n := m) (by omega) hq4 g4 (by
        cases lv <;> try trivial
        simp only [Val.blkIn] at b1 ⊢
        omega) b2 hsp4 tv ht4 hall
      repeat' (first | (apply o_op; (solve | (conv => lhs; simp (disch := first | omega | (simp only [Val.cells, List.all_cons, List.all_nil, Val.one, Bool.and_self])) only [zev, zex, Val.one, List.length_cons, List.length_nil, Nat.reduceAdd, Option.map_some, Option.map_none, List.map_cons, List.map_nil, zva, ↓reduceIte, Nat.reduceEqDiff, e_mkFn])); (solve | (conv => lhs; simp only [zfr, Nat.reduceEqDiff, Nat.reduceLT, ↓reduceIte]))) | (apply o_yes; (solve | (conv => lhs; simp only [zva, ↓reduceIte, Nat.reduceEqDiff, e_mkFn])); (solve | rfl)) | (apply o_no; (solve | (conv => lhs; simp only [zva, ↓reduceIte, Nat.reduceEqDiff, e_mkFn])); (solve | decide); (solve | (conv => lhs; simp only [zfr, Nat.reduceEqDiff, Nat.reduceLT, ↓reduceIte]))) | (apply o_not; (solve | (conv => lhs; simp only [zva, ↓reduceIte, Nat.reduceEqDiff])); (solve | (conv => lhs; simp only [zfr, Nat.reduceEqDiff, Nat.reduceLT, ↓reduceIte]))) | (apply o_if; (solve | (conv => lhs; simp only [zva, ↓reduceIte, Nat.reduceEqDiff])); (solve | (intro hbb; conv => lhs; simp (disch := first | omega | (simp only [Val.cells, List.all_cons, List.all_nil, Val.one, Bool.and_self])) only [zev, zex, Val.one, List.length_cons, List.length_nil, Nat.reduceAdd, Option.map_some, Option.map_none, List.map_cons, List.map_nil, zva, ↓reduceIte, Nat.reduceEqDiff, hbb, e_mkFn])); (solve | (conv => lhs; simp only [zfr, Nat.reduceEqDiff, Nat.reduceLT, ↓reduceIte]))) | (apply o_end; (solve | (conv => lhs; simp only [zdr, inl, Nat.reduceEqDiff, or_false, or_true, ↓reduceIte]))) | apply g_seq | apply g_region | apply g_next | apply g_block | apply g_out | (apply g_true; (solve | (conv => lhs; simp only [zva, ↓reduceIte, Nat.reduceEqDiff, e_mkFn]))) | (apply g_false; (solve | (conv => lhs; simp only [zva, ↓reduceIte, Nat.reduceEqDiff, e_mkFn]))) | apply g_here | (apply g_past; (solve | decide)) | apply g_exit | apply g_retc | apply g_retb | apply g_ret | apply g_done)
      (apply o_call; (solve | (conv => lhs; simp only [Callee.find, List.map_cons, List.map_nil, List.cons_append, List.nil_append, zva, ↓reduceIte, Nat.reduceEqDiff])))
      · exact (contains_run hE (fun f hf' => hf f (by revert f; decide)) L34.2.1 (ht.left w L34) hlen (Nat.le_refl _) asks).lower (show h.size ≤ _ from L34.2.2)
      rintro _ h5 ⟨rfl, L5⟩
      (conv => arg 8; simp only [zfr, Nat.reduceEqDiff, Nat.reduceLT, ↓reduceIte])
      repeat' (first | (apply o_op; (solve | (conv => lhs; simp (disch := first | omega | (simp only [Val.cells, List.all_cons, List.all_nil, Val.one, Bool.and_self])) only [zev, zex, Val.one, List.length_cons, List.length_nil, Nat.reduceAdd, Option.map_some, Option.map_none, List.map_cons, List.map_nil, zva, ↓reduceIte, Nat.reduceEqDiff])); (solve | (conv => lhs; simp only [zfr, Nat.reduceEqDiff, Nat.reduceLT, ↓reduceIte]))) | (apply o_yes; (solve | (conv => lhs; simp only [zva, ↓reduceIte, Nat.reduceEqDiff])); (solve | rfl)) | (apply o_no; (solve | (conv => lhs; simp only [zva, ↓reduceIte, Nat.reduceEqDiff])); (solve | decide); (solve | (conv => lhs; simp only [zfr, Nat.reduceEqDiff, Nat.reduceLT, ↓reduceIte]))) | (apply o_not; (solve | (conv => lhs; simp only [zva, ↓reduceIte, Nat.reduceEqDiff])); (solve | (conv => lhs; simp only [zfr, Nat.reduceEqDiff, Nat.reduceLT, ↓reduceIte]))) | (apply o_if; (solve | (conv => lhs; simp only [zva, ↓reduceIte, Nat.reduceEqDiff])); (solve | (intro hbb; conv => lhs; simp (disch := first | omega | (simp only [Val.cells, List.all_cons, List.all_nil, Val.one, Bool.and_self])) only [zev, zex, Val.one, List.length_cons, List.length_nil, Nat.reduceAdd, Option.map_some, Option.map_none, List.map_cons, List.map_nil, zva, ↓reduceIte, Nat.reduceEqDiff, hbb])); (solve | (conv => lhs; simp only [zfr, Nat.reduceEqDiff, Nat.reduceLT, ↓reduceIte]))) | (apply o_end; (solve | (conv => lhs; simp only [zdr, inl, Nat.reduceEqDiff, or_false, or_true, ↓reduceIte]))) | apply g_seq | apply g_region | apply g_next | apply g_block | apply g_out | (apply g_true; (solve | (conv => lhs; simp only [zva, ↓reduceIte, Nat.reduceEqDiff]))) | (apply g_false; (solve | (conv => lhs; simp only [zva, ↓reduceIte, Nat.reduceEqDiff]))) | apply g_here | (apply g_past; (solve | decide)) | apply g_exit | apply g_retc | apply g_retb | apply g_ret | apply g_done)
      refine ⟨.inr rfl, _, rfl, ?_, L34.trans L5⟩
      simp only [tuple, Frame.get, showsR, e0, e2, htt, ne_eq, not_true_eq_false, if_false]
      simp [List.not_any_eq_all_not]
    · have e3 : (listErr n ts != 0) = true := by simp [e2]
      repeat' (first | (apply o_op; (solve | (conv => lhs; simp (disch := first | omega | (simp only [Val.cells, List.all_cons, List.all_nil, Val.one, Bool.and_self])) only [zev, zex, Val.one, List.length_cons, List.length_nil, Nat.reduceAdd, Option.map_some, Option.map_none, List.map_cons, List.map_nil, zva, ↓reduceIte, Nat.reduceEqDiff, e3])); (solve | (conv => lhs; simp only [zfr, Nat.reduceEqDiff, Nat.reduceLT, ↓reduceIte]))) | (apply o_yes; (solve | (conv => lhs; simp only [zva, ↓reduceIte, Nat.reduceEqDiff, e3])); (solve | rfl)) | (apply o_no; (solve | (conv => lhs; simp only [zva, ↓reduceIte, Nat.reduceEqDiff, e3])); (solve | decide); (solve | (conv => lhs; simp only [zfr, Nat.reduceEqDiff, Nat.reduceLT, ↓reduceIte]))) | (apply o_not; (solve | (conv => lhs; simp only [zva, ↓reduceIte, Nat.reduceEqDiff])); (solve | (conv => lhs; simp only [zfr, Nat.reduceEqDiff, Nat.reduceLT, ↓reduceIte]))) | (apply o_if; (solve | (conv => lhs; simp only [zva, ↓reduceIte, Nat.reduceEqDiff])); (solve | (intro hbb; conv => lhs; simp (disch := first | omega | (simp only [Val.cells, List.all_cons, List.all_nil, Val.one, Bool.and_self])) only [zev, zex, Val.one, List.length_cons, List.length_nil, Nat.reduceAdd, Option.map_some, Option.map_none, List.map_cons, List.map_nil, zva, ↓reduceIte, Nat.reduceEqDiff, hbb, e3])); (solve | (conv => lhs; simp only [zfr, Nat.reduceEqDiff, Nat.reduceLT, ↓reduceIte]))) | (apply o_end; (solve | (conv => lhs; simp only [zdr, inl, Nat.reduceEqDiff, or_false, or_true, ↓reduceIte]))) | apply g_seq | apply g_region | apply g_next | apply g_block | apply g_out | (apply g_true; (solve | (conv => lhs; simp only [zva, ↓reduceIte, Nat.reduceEqDiff, e3]))) | (apply g_false; (solve | (conv => lhs; simp only [zva, ↓reduceIte, Nat.reduceEqDiff, e3]))) | apply g_here | (apply g_past; (solve | decide)) | apply g_exit | apply g_retc | apply g_retb | apply g_ret | apply g_done)
      refine ⟨.inr rfl, _, rfl, ?_, L34⟩
      simp [tuple, Frame.get, showsR, e0, e2]
  · have e1 : (readErr n [s] == 0) = false := by simp [e0]
    have e3 : (readErr n [s] != 0) = true := by simp [e0]
    rw [e1]
    repeat' (first | (apply o_op; (solve | (conv => lhs; simp (disch := first | omega | (simp only [Val.cells, List.all_cons, List.all_nil, Val.one, Bool.and_self])) only [zev, zex, Val.one, List.length_cons, List.length_nil, Nat.reduceAdd, Option.map_some, Option.map_none, List.map_cons, List.map_nil, zva, ↓reduceIte, Nat.reduceEqDiff, e3])); (solve | (conv => lhs; simp only [zfr, Nat.reduceEqDiff, Nat.reduceLT, ↓reduceIte]))) | (apply o_yes; (solve | (conv => lhs; simp only [zva, ↓reduceIte, Nat.reduceEqDiff, e3])); (solve | rfl)) | (apply o_no; (solve | (conv => lhs; simp only [zva, ↓reduceIte, Nat.reduceEqDiff, e3])); (solve | decide); (solve | (conv => lhs; simp only [zfr, Nat.reduceEqDiff, Nat.reduceLT, ↓reduceIte]))) | (apply o_not; (solve | (conv => lhs; simp only [zva, ↓reduceIte, Nat.reduceEqDiff])); (solve | (conv => lhs; simp only [zfr, Nat.reduceEqDiff, Nat.reduceLT, ↓reduceIte]))) | (apply o_if; (solve | (conv => lhs; simp only [zva, ↓reduceIte, Nat.reduceEqDiff])); (solve | (intro hbb; conv => lhs; simp (disch := first | omega | (simp only [Val.cells, List.all_cons, List.all_nil, Val.one, Bool.and_self])) only [zev, zex, Val.one, List.length_cons, List.length_nil, Nat.reduceAdd, Option.map_some, Option.map_none, List.map_cons, List.map_nil, zva, ↓reduceIte, Nat.reduceEqDiff, hbb, e3])); (solve | (conv => lhs; simp only [zfr, Nat.reduceEqDiff, Nat.reduceLT, ↓reduceIte]))) | (apply o_end; (solve | (conv => lhs; simp only [zdr, inl, Nat.reduceEqDiff, or_false, or_true, ↓reduceIte]))) | apply g_seq | apply g_region | apply g_next | apply g_block | apply g_out | (apply g_true; (solve | (conv => lhs; simp only [zva, ↓reduceIte, Nat.reduceEqDiff, e3]))) | (apply g_false; (solve | (conv => lhs; simp only [zva, ↓reduceIte, Nat.reduceEqDiff, e3]))) | apply g_here | (apply g_past; (solve | decide)) | apply g_exit | apply g_retc | apply g_retb | apply g_ret | apply g_done)
    refine ⟨.inr rfl, _, rfl, ?_, L3⟩
    simp [tuple, Frame.get, showsR, e0]
end Gc
end
section
/- Contracts: the parts of a set that are joined. -/
set_option linter.unusedVariables false
set_option linter.unusedSimpArgs false
namespace Gc
variable {E : Env} {base kept : Nat} {h : Heap}
theorem low_bit {x : Nat} (h0 : x ≠ 0) (h : x < 256) : bitsOp .and .i64 (x : Int) (0 - (x : Int)) = some ((2 ^ least x : Nat) : Int) := by
  have : ∀ x : Fin 256, x.val ≠ 0 → bitsOp .and .i64 (x.val : Int) (0 - (x.val : Int)) = some ((2 ^ least x.val : Nat) : Int) := by decide +kernel
  exact this ⟨x, h⟩ h0
/-- A slice holds numbers. -/
def NumsAt (h : Heap) (v : Val) (ns : List Nat) : Prop := (∀ s, v ≠ .str s) ∧ spread h 1 v = some (ns.length, cellsN ns)
theorem NumsAt.left {h h' : Heap} {v : Val} {l : List Nat} (t : NumsAt h v l) (w : h.Wf) (L : Left' h h') : NumsAt h' v l := ⟨t.1, spread_left w t.2 L⟩
theorem NumsAt.len {h : Heap} {v : Val} {l : List Nat} (t : NumsAt h v l) : lenV h false v = some (.int .i64 (l.length : Int), h) := spread_len t.1 t.2
theorem NumsAt.elem {h : Heap} {v : Val} {l : List Nat} (t : NumsAt h v l) {i : Nat} (hi : i < l.length) : ∃ p, indexAddrV h 1 v (.int .i64 (i : Int)) = some (p, h) ∧ loadV h false 1 p = some (.int .i64 (l[i] : Int), h) := by
  obtain ⟨k, o, c, rfl, e1, e2⟩ := spread_elem (ki := .i64) t.1 t.2 hi
  refine ⟨_, e1, ?_⟩
  rw [loadV_ptr, e2 false 1 (Nat.le_refl _), Nat.mul_one]
  rw [List.drop_eq_getElem_cons (by simpa [cellsN] using hi)]
  simp [withH, Val.ofCells, cellsN]
/-- What is known of the parts that were found, and of what is left. -/
structure PartsSo (l : List T3) (s : Nat) (ps : List Nat) (left : Nat) : Prop where
  sub : ∀ p ∈ ps, Within p s ∧ p ≠ 0
  dis : ps.Pairwise fun p q => p &&& q = 0
  clo : ∀ p ∈ ps, Shut l s p
  min : ∀ p ∈ ps, ∀ q, Within q p → q ≠ 0 → Shut l s q → q = p
  left : ∀ i, left.testBit i = true ↔ s.testBit i = true ∧ ∀ p ∈ ps, p.testBit i = false
theorem Shut.compl {l : List T3} {s q : Nat} (h : Shut l s q) : Shut l s (diff s q) := fun x hx hin => by
  rw [bit_diff, bit_diff]
  simp only [hin.1, hin.2.1, true_and]
  have := h x hx hin
  cases h1 : q.testBit x.1 <;> cases h2 : q.testBit x.2.1 <;> simp_all
/-- One more part: closed, of a beast that is left, and in every closed set of that beast. -/
theorem PartsSo.more {l : List T3} {s left p i : Nat} {ps : List Nat} (P : PartsSo l s ps left) (hi : left.testBit i = true) (hp : p.testBit i = true) (hs : Within p s) (hc : Shut l s p) (hm : ∀ q, Shut l s q → q.testBit i = true → Within p q) : PartsSo l s (ps ++ [p]) (diff left p) := by
  have hsi := ((P.left i).1 hi).1
  refine ⟨fun q hq => ?_, List.pairwise_append.2 ⟨P.dis, List.pairwise_singleton _ _, fun q hq r hr => ?_⟩, fun q hq => ?_, fun q hq => ?_, fun j => ?_⟩
  · rcases List.mem_append.1 hq with hq | hq
    · exact P.sub q hq
    · rw [List.mem_singleton.1 hq]; exact ⟨hs, ne_of_bit hp⟩
  · rw [List.mem_singleton.1 hr]
    have := hm _ (P.clo q hq).compl (bit_diff.2 ⟨hsi, ((P.left i).1 hi).2 q hq⟩)
    exact and_zero.2 fun j h1 h2 => by
      rw [(bit_diff.1 (this j h2)).2] at h1
      cases h1
  · rcases List.mem_append.1 hq with hq | hq
    · exact P.clo q hq
    · rw [List.mem_singleton.1 hq]; exact hc
  · rcases List.mem_append.1 hq with hq | hq
    · exact P.min q hq
    · rw [List.mem_singleton.1 hq]
      intro r hr h0 hcr
      cases hri : r.testBit i
      · exfalso
        obtain ⟨j, hj⟩ := bit_of_ne h0
        have := hm _ hcr.compl (bit_diff.2 ⟨hsi, hri⟩) j (hr j hj)
        rw [(bit_diff.1 this).2] at hj
        cases hj
      · exact hr.antisymm (hm r hcr hri)
  · rw [bit_diff, P.left]
    constructor
    · rintro ⟨⟨a, b⟩, c⟩
      exact ⟨a, fun q hq => by
        rcases List.mem_append.1 hq with hq | hq
        · exact b q hq
        · rw [List.mem_singleton.1 hq]; exact c⟩
    · rintro ⟨a, b⟩
      exact ⟨⟨a, fun q hq => b q (by simp [hq])⟩, b p (by simp)⟩
theorem PartsSo.ok {l : List T3} {s : Nat} {ps : List Nat} (P : PartsSo l s ps 0) : PartsOk l s ps :=
  ⟨P.sub, fun i hi => Classical.byContradiction fun hn => by
    have := (P.left i).2 ⟨hi, fun p hp => by
      cases h : p.testBit i
      · rfl
      · exact absurd ⟨p, hp, h⟩ hn⟩
    simp at this, P.dis, P.clo, P.min⟩
instance inSDec {s : Nat} {t : T3} : Decidable (InS s t) := inferInstanceAs (Decidable (_ ∧ _ ∧ _))
def needJoined : List Nat := [F.breed_joined, F.slices_Sort_int, F.bits_Len, F.bits_Len64, F.slices_pdqsortOrdered_int, F.slices_insertionSortOrdered_int, F.cmp_Less_int, F.cmp_isNaN_int]
theorem joined_run {l : List Nat} (hE : E.Has tabs05 l) (hf : ∀ f ∈ needJoined, f ∈ l) (w : h.Wf) {v : Val} {n : Nat} {ts : List T3} (hn : n ≤ 8) (ht : TriplesAt h v (ts.map toI)) (hts : ∀ x ∈ ts, okT n x) (hlen : ts.length < 2 ^ 60) {s : Nat} (h0 : s ≠ 0) (h256 : s < 256) :
    CallV E h.size F.breed_joined [v, .int .i64 (s : Int)] h fun r h' => NumsAt h' r (partsF ts s) ∧ Left' h h' := by
  refine c_begin hE (hf _ (by decide)) rfl (by decide) (by decide) ?_
  simp only [T.breed_joined, Frame.enterFrom, Nat.zero_add, Nat.reduceAdd]
  repeat' (first | (apply o_op; (solve | (conv => lhs; simp (disch := first | omega | (simp only [Val.cells, List.all_cons, List.all_nil, Val.one, Bool.and_self])) only [zev, zex, Val.one, List.length_cons, List.length_nil, Nat.reduceAdd, Option.map_some, Option.map_none, List.map_cons, List.map_nil, zva, ↓reduceIte, Nat.reduceEqDiff])); (solve | (conv => lhs; simp only [zfr, Nat.reduceEqDiff, Nat.reduceLT, ↓reduceIte]))) | (apply o_yes; (solve | (conv => lhs; simp only [zva, ↓reduceIte, Nat.reduceEqDiff])); (solve | rfl)) | (apply o_no; (solve | (conv => lhs; simp only [zva, ↓reduceIte, Nat.reduceEqDiff])); (solve | decide); (solve | (conv => lhs; simp only [zfr, Nat.reduceEqDiff, Nat.reduceLT, ↓reduceIte]))) | (apply o_not; (solve | (conv => lhs; simp only [zva, ↓reduceIte, Nat.reduceEqDiff])); (solve | (conv => lhs; simp only [zfr, Nat.reduceEqDiff, Nat.reduceLT, ↓reduceIte]))) | (apply o_if; (solve | (conv => lhs; simp only [zva, ↓reduceIte, Nat.reduceEqDiff])); (solve | (intro hbb; conv => lhs; simp (disch := first | omega | (simp only [Val.cells, List.all_cons, List.all_nil, Val.one, Bool.and_self])) only [zev, zex, Val.one, List.length_cons, List.length_nil, Nat.reduceAdd, Option.map_some, Option.map_none, List.map_cons, List.map_nil, zva, ↓reduceIte, Nat.reduceEqDiff, hbb])); (solve | (conv => lhs; simp only [zfr, Nat.reduceEqDiff, Nat.reduceLT, ↓reduceIte]))) | (apply o_end; (solve | (conv => lhs; simp only [zdr, inl, Nat.reduceEqDiff, or_false, or_true, ↓reduceIte]))) | apply g_seq | apply g_region | apply g_next | apply g_block | apply g_out | (apply g_true; (solve | (conv => lhs; simp only [zva, ↓reduceIte, Nat.reduceEqDiff]))) | (apply g_false; (solve | (conv => lhs; simp only [zva, ↓reduceIte, Nat.reduceEqDiff]))) | apply g_here | (apply g_past; (solve | decide)) | apply g_exit | apply g_retc | apply g_retb | apply g_ret | apply g_done)
  have base0 : PartsSo ts s [] s := ⟨by simp, .nil, by simp, by simp, by simp⟩
  refine loop_ind (fun m fr h2 => ∃ (left : Nat) (ov : Val) (ps : List Nat), left = m ∧ fr = [(0, v), (1, .int .i64 (s : Int)), (5, ov), (6, .int .i64 (left : Int))] ∧ Left' h h2 ∧ Acc h.size h2 1 ov ps.length (cellsN ps) ∧ PartsSo ts s ps left) ?_ s _ _
    ⟨s, .nils, [], rfl, rfl, Left'.refl w, Acc.nil, base0⟩
  rintro m fr h2 ⟨left, ov, ps, rfl, rfl, L2, hacc, hP⟩ ih
  have hleft : Within left s := fun i hi => ((hP.left i).1 hi).1
  have hl256 : left < 256 := Nat.lt_of_le_of_lt hleft.le h256
  have hps : ps.length ≤ 8 := few_sets (fun p hp => ⟨(hP.sub p hp).2, Nat.lt_of_le_of_lt (hP.sub p hp).1.le h256⟩) hP.dis
  by_cases hl0 : left = 0
  · subst hl0
    have d2 : decide (((0 : Nat) : Int) > 0) = false := rfl
    repeat' (first | (apply o_op; (solve | (conv => lhs; simp (disch := first | omega | (simp only [Val.cells, List.all_cons, List.all_nil, Val.one, Bool.and_self])) only [zev, zex, Val.one, List.length_cons, List.length_nil, Nat.reduceAdd, Option.map_some, Option.map_none, List.map_cons, List.map_nil, zva, ↓reduceIte, Nat.reduceEqDiff, d2])); (solve | (conv => lhs; simp only [zfr, Nat.reduceEqDiff, Nat.reduceLT, ↓reduceIte]))) | (apply o_yes; (solve | (conv => lhs; simp only [zva, ↓reduceIte, Nat.reduceEqDiff, d2])); (solve | rfl)) | (apply o_no; (solve | (conv => lhs; simp only [zva, ↓reduceIte, Nat.reduceEqDiff, d2])); (solve | decide); (solve | (conv => lhs; simp only [zfr, Nat.reduceEqDiff, Nat.reduceLT, ↓reduceIte]))) | (apply o_not; (solve | (conv => lhs; simp only [zva, ↓reduceIte, Nat.reduceEqDiff])); (solve | (conv => lhs; simp only [zfr, Nat.reduceEqDiff, Nat.reduceLT, ↓reduceIte]))) | (apply o_if; (solve | (conv => lhs; simp only [zva, ↓reduceIte, Nat.reduceEqDiff])); (solve | (intro hbb; conv => lhs; simp (disch := first | omega | (simp only [Val.cells, List.all_cons, List.all_nil, Val.one, Bool.and_self])) only [zev, zex, Val.one, List.length_cons, List.length_nil, Nat.reduceAdd, Option.map_some, Option.map_none, List.map_cons, List.map_nil, zva, ↓reduceIte, Nat.reduceEqDiff, hbb, d2])); (solve | (conv => lhs; simp only [zfr, Nat.reduceEqDiff, Nat.reduceLT, ↓reduceIte]))) | (apply o_end; (solve | (conv => lhs; simp only [zdr, inl, Nat.reduceEqDiff, or_false, or_true, ↓reduceIte]))) | apply g_seq | apply g_region | apply g_next | apply g_block | apply g_out | (apply g_true; (solve | (conv => lhs; simp only [zva, ↓reduceIte, Nat.reduceEqDiff, d2]))) | (apply g_false; (solve | (conv => lhs; simp only [zva, ↓reduceIte, Nat.reduceEqDiff, d2]))) | apply g_here | (apply g_past; (solve | decide)) | apply g_exit | apply g_retc | apply g_retb | apply g_ret | apply g_done)
    have hok := hP.ok
    obtain ⟨k, rfl, hk1, hk2⟩ : ∃ k, ov = .slice k 0 ps.length none ∧ h.size ≤ k ∧ h2.get k = some ⟨cellsN ps, true, 1⟩ := by
      obtain ⟨_, _, ⟨_, he⟩ | ⟨k, e, hk, hg⟩⟩ := hacc
      · have : ps = [] := List.eq_nil_of_length_eq_zero he
        subst this
        obtain ⟨i, hi⟩ := bit_of_ne h0
        obtain ⟨p, hp, _⟩ := hok.cov i hi
        simp at hp
      · exact ⟨k, e, hk, hg⟩
    (apply o_call; (solve | (conv => lhs; simp only [Callee.find, List.map_cons, List.map_nil, List.cons_append, List.nil_append, zva, ↓reduceIte, Nat.reduceEqDiff])))
    · exact sort_run (base := h.size) hE (fun f hf' => hf f (by revert f; decide)) L2.2.1 rfl hk1 hk2 (by omega)
    rintro _ h3 ⟨qs, q1, q2, rfl⟩
    (conv => arg 8; simp only [zfr, Nat.reduceEqDiff, Nat.reduceLT, ↓reduceIte])
    repeat' (first | (apply o_op; (solve | (conv => lhs; simp (disch := first | omega | (simp only [Val.cells, List.all_cons, List.all_nil, Val.one, Bool.and_self])) only [zev, zex, Val.one, List.length_cons, List.length_nil, Nat.reduceAdd, Option.map_some, Option.map_none, List.map_cons, List.map_nil, zva, ↓reduceIte, Nat.reduceEqDiff])); (solve | (conv => lhs; simp only [zfr, Nat.reduceEqDiff, Nat.reduceLT, ↓reduceIte]))) | (apply o_yes; (solve | (conv => lhs; simp only [zva, ↓reduceIte, Nat.reduceEqDiff])); (solve | rfl)) | (apply o_no; (solve | (conv => lhs; simp only [zva, ↓reduceIte, Nat.reduceEqDiff])); (solve | decide); (solve | (conv => lhs; simp only [zfr, Nat.reduceEqDiff, Nat.reduceLT, ↓reduceIte]))) | (apply o_not; (solve | (conv => lhs; simp only [zva, ↓reduceIte, Nat.reduceEqDiff])); (solve | (conv => lhs; simp only [zfr, Nat.reduceEqDiff, Nat.reduceLT, ↓reduceIte]))) | (apply o_if; (solve | (conv => lhs; simp only [zva, ↓reduceIte, Nat.reduceEqDiff])); (solve | (intro hbb; conv => lhs; simp (disch := first | omega | (simp only [Val.cells, List.all_cons, List.all_nil, Val.one, Bool.and_self])) only [zev, zex, Val.one, List.length_cons, List.length_nil, Nat.reduceAdd, Option.map_some, Option.map_none, List.map_cons, List.map_nil, zva, ↓reduceIte, Nat.reduceEqDiff, hbb])); (solve | (conv => lhs; simp only [zfr, Nat.reduceEqDiff, Nat.reduceLT, ↓reduceIte]))) | (apply o_end; (solve | (conv => lhs; simp only [zdr, inl, Nat.reduceEqDiff, or_false, or_true, ↓reduceIte]))) | apply g_seq | apply g_region | apply g_next | apply g_block | apply g_out | (apply g_true; (solve | (conv => lhs; simp only [zva, ↓reduceIte, Nat.reduceEqDiff]))) | (apply g_false; (solve | (conv => lhs; simp only [zva, ↓reduceIte, Nat.reduceEqDiff]))) | apply g_here | (apply g_past; (solve | decide)) | apply g_exit | apply g_retc | apply g_retb | apply g_ret | apply g_done)
    have hks := L2.2.1.lt hk2
    have hqs : qs = partsF ts s := by
      refine partsF_eq h256 (hok.of_perm q1.symm) ?_
      have nd : qs.Nodup := q1.nodup_iff.2 hok.nodup
      exact (q2.and nd).imp fun h => Nat.lt_of_le_of_ne h.1 h.2
    refine ⟨.inr rfl, _, rfl, ⟨by simp [tuple, Frame.get], ?_⟩, fun j hj => by rw [get_set_ne (by omega)]; exact L2.1 j hj, wf_set L2.2.1 hks _, by rw [Heap.size_set _ _ _ hks]; exact L2.2.2⟩
    rw [← hqs]
    simp only [tuple, Frame.get, if_true]
    rw [← q1.length_eq, spread_slice get_set_self (by simp [cellsN])]
    simp only [List.drop_zero, Nat.mul_one]
    rw [List.take_of_length_le (by simp [cellsN])]
  · have d2 : decide ((left : Int) > 0) = true := decide_eq_true (by omega)
    have elow := low_bit hl0 hl256
    have hll := least_mem hl0 hl256
    have hl8 := least_lt8 left
    repeat' (first | (apply o_op; (solve | (conv => lhs; simp (disch := first | omega | (simp only [Val.cells, List.all_cons, List.all_nil, Val.one, Bool.and_self])) only [zev, zex, Val.one, List.length_cons, List.length_nil, Nat.reduceAdd, Option.map_some, Option.map_none, List.map_cons, List.map_nil, zva, ↓reduceIte, Nat.reduceEqDiff, d2, b_and, elow])); (solve | (conv => lhs; simp only [zfr, Nat.reduceEqDiff, Nat.reduceLT, ↓reduceIte]))) | (apply o_yes; (solve | (conv => lhs; simp only [zva, ↓reduceIte, Nat.reduceEqDiff, d2, b_and, elow])); (solve | rfl)) | (apply o_no; (solve | (conv => lhs; simp only [zva, ↓reduceIte, Nat.reduceEqDiff, d2, b_and, elow])); (solve | decide); (solve | (conv => lhs; simp only [zfr, Nat.reduceEqDiff, Nat.reduceLT, ↓reduceIte]))) | (apply o_not; (solve | (conv => lhs; simp only [zva, ↓reduceIte, Nat.reduceEqDiff])); (solve | (conv => lhs; simp only [zfr, Nat.reduceEqDiff, Nat.reduceLT, ↓reduceIte]))) | (apply o_if; (solve | (conv => lhs; simp only [zva, ↓reduceIte, Nat.reduceEqDiff])); (solve | (intro hbb; conv => lhs; simp (disch := first | omega | (simp only [Val.cells, List.all_cons, List.all_nil, Val.one, Bool.and_self])) only [zev, zex, Val.one, List.length_cons, List.length_nil, Nat.reduceAdd, Option.map_some, Option.map_none, List.map_cons, List.map_nil, zva, ↓reduceIte, Nat.reduceEqDiff, hbb, d2, b_and, elow])); (solve | (conv => lhs; simp only [zfr, Nat.reduceEqDiff, Nat.reduceLT, ↓reduceIte]))) | (apply o_end; (solve | (conv => lhs; simp only [zdr, inl, Nat.reduceEqDiff, or_false, or_true, ↓reduceIte]))) | apply g_seq | apply g_region | apply g_next | apply g_block | apply g_out | (apply g_true; (solve | (conv => lhs; simp only [zva, ↓reduceIte, Nat.reduceEqDiff, d2, b_and, elow]))) | (apply g_false; (solve | (conv => lhs; simp only [zva, ↓reduceIte, Nat.reduceEqDiff, d2, b_and, elow]))) | apply g_here | (apply g_past; (solve | decide)) | apply g_exit | apply g_retc | apply g_retb | apply g_ret | apply g_done)
    have e1 := (ht.left w L2).len
    simp only [List.length_map] at e1
    refine loop_ind (fun m fr h3 => ∃ (p : Nat) (more : Bool) (ex : Frame), m = (256 - p) * 2 + (if more = true then 1 else 0) ∧ fr = [(0, v), (1, .int .i64 (s : Int)), (5, ov), (6, .int .i64 (left : Int)), (7, .int .i64 (p : Int)), (8, .bool more)] ++ ex ∧
      (ex = [] ∨ ex = [(20, v), (21, .int .i64 (ts.length : Int)), (22, .int .i64 (ts.length : Int)), (23, .bool false)]) ∧ Left' h h3 ∧ Acc h.size h3 1 ov ps.length (cellsN ps) ∧
      Within p s ∧ p.testBit (least left) = true ∧ (∀ q, Shut ts s q → q.testBit (least left) = true → Within p q) ∧ (more = false → Shut ts s p)) ?_ ((256 - 2 ^ least left) * 2 + 1) _ _
      ⟨2 ^ least left, true, [], rfl, rfl, .inl rfl, L2, hacc, fun i hi => by rw [← bit_two.1 hi]; exact hleft _ hll, bit_two.2 rfl, fun q _ hq i hi => by rw [← bit_two.1 hi]; exact hq, by simp⟩
    rintro m fr h3 ⟨p, more, ex, rfl, rfl, hex, L3, hacc3, hps', hpi, hpm, hpc⟩ ih2
    have hp256 : p < 256 := Nat.lt_of_le_of_lt hps'.le h256
    have rest : At E h.size T.breed_joined.c17 [.code T.breed_joined.c18, .code (.loop T.breed_joined.c15), .blk 2, .code T.breed_joined.c33, .blk 1, .code (.loop T.breed_joined.c6), .blk 0, .code T.breed_joined.c34] [(0, v), (1, .int .i64 (s : Int)), (5, ov), (6, .int .i64 (left : Int)), (7, .int .i64 (p : Int)), (19, .bool more)] h3 fun x fr' h' => (x = .norm ∨ x = .ret) ∧ ∃ vs, resultVals fr' h' [RV.tmp 4] = some vs ∧ NumsAt h' (tuple vs) (partsF ts s) ∧ Left' h h' := by
      have e3 := (ht.left w L3).len
      simp only [List.length_map] at e3
      cases more with
      | false =>
        have hclo := hpc rfl
        obtain ⟨h5, k5, a1, a2, a3, a4, a5⟩ := append_one (bytes := 8) L3 hacc3 (x := [.int .i64 (p : Int)]) rfl rfl (by omega) (by omega) (by unfold maxRoom; omega)
        have f1 : fill [Val.int .i64 0] [(0, 1, .int .i64 (p : Int))] = some [.int .i64 (p : Int)] := rfl
        have f2 := buildSliceV_new (h := h3) (base := h.size) (esz := 1) (n0 := 1) (cs := [.int .i64 (p : Int)]) rfl
        repeat' (first | (apply o_op; (solve | (conv => lhs; simp (disch := first | omega | (simp only [Val.cells, List.all_cons, List.all_nil, Val.one, Bool.and_self])) only [zev, zex, Val.one, List.length_cons, List.length_nil, Nat.reduceAdd, Option.map_some, Option.map_none, List.map_cons, List.map_nil, zva, ↓reduceIte, Nat.reduceEqDiff, f1, f2, a1])); (solve | (conv => lhs; simp only [zfr, Nat.reduceEqDiff, Nat.reduceLT, ↓reduceIte]))) | (apply o_yes; (solve | (conv => lhs; simp only [zva, ↓reduceIte, Nat.reduceEqDiff, f1, f2, a1])); (solve | rfl)) | (apply o_no; (solve | (conv => lhs; simp only [zva, ↓reduceIte, Nat.reduceEqDiff, f1, f2, a1])); (solve | decide); (solve | (conv => lhs; simp only [zfr, Nat.reduceEqDiff, Nat.reduceLT, ↓reduceIte]))) | (apply o_not; (solve | (conv => lhs; simp only [zva, ↓reduceIte, Nat.reduceEqDiff])); (solve | (conv => lhs; simp only [zfr, Nat.reduceEqDiff, Nat.reduceLT, ↓reduceIte]))) | (apply o_if; (solve | (conv => lhs; simp only [zva, ↓reduceIte, Nat.reduceEqDiff])); (solve | (intro hbb; conv => lhs; simp (disch := first | omega | (simp only [Val.cells, List.all_cons, List.all_nil, Val.one, Bool.and_self])) only [zev, zex, Val.one, List.length_cons, List.length_nil, Nat.reduceAdd, Option.map_some, Option.map_none, List.map_cons, List.map_nil, zva, ↓reduceIte, Nat.reduceEqDiff, hbb, f1, f2, a1])); (solve | (conv => lhs; simp only [zfr, Nat.reduceEqDiff, Nat.reduceLT, ↓reduceIte]))) | (apply o_end; (solve | (conv => lhs; simp only [zdr, inl, Nat.reduceEqDiff, or_false, or_true, ↓reduceIte]))) | apply g_seq | apply g_region | apply g_next | apply g_block | apply g_out | (apply g_true; (solve | (conv => lhs; simp only [zva, ↓reduceIte, Nat.reduceEqDiff, f1, f2, a1]))) | (apply g_false; (solve | (conv => lhs; simp only [zva, ↓reduceIte, Nat.reduceEqDiff, f1, f2, a1]))) | apply g_here | (apply g_past; (solve | decide)) | apply g_exit | apply g_retc | apply g_retb | apply g_ret | apply g_done)
        have hlt : diff left p < left := by
          refine Within.lt (fun i hi => (bit_diff.1 hi).1) fun e => ?_
          have := hll
          rw [← e] at this
          rw [(bit_diff.1 (by rw [e]; rw [e] at this; exact this : (diff left p).testBit (least left) = true)).2] at hpi
          cases hpi
        refine ih (diff left p) _ _ hlt ⟨_, _, ps ++ [p], rfl, rfl, a3, by simpa [cellsN] using a2, hP.more hll hpi hps' hclo hpm⟩
      | true =>
        repeat' (first | (apply o_op; (solve | (conv => lhs; simp (disch := first | omega | (simp only [Val.cells, List.all_cons, List.all_nil, Val.one, Bool.and_self])) only [zev, zex, Val.one, List.length_cons, List.length_nil, Nat.reduceAdd, Option.map_some, Option.map_none, List.map_cons, List.map_nil, zva, ↓reduceIte, Nat.reduceEqDiff, e3])); (solve | (conv => lhs; simp only [zfr, Nat.reduceEqDiff, Nat.reduceLT, ↓reduceIte]))) | (apply o_yes; (solve | (conv => lhs; simp only [zva, ↓reduceIte, Nat.reduceEqDiff, e3])); (solve | rfl)) | (apply o_no; (solve | (conv => lhs; simp only [zva, ↓reduceIte, Nat.reduceEqDiff, e3])); (solve | decide); (solve | (conv => lhs; simp only [zfr, Nat.reduceEqDiff, Nat.reduceLT, ↓reduceIte]))) | (apply o_not; (solve | (conv => lhs; simp only [zva, ↓reduceIte, Nat.reduceEqDiff])); (solve | (conv => lhs; simp only [zfr, Nat.reduceEqDiff, Nat.reduceLT, ↓reduceIte]))) | (apply o_if; (solve | (conv => lhs; simp only [zva, ↓reduceIte, Nat.reduceEqDiff])); (solve | (intro hbb; conv => lhs; simp (disch := first | omega | (simp only [Val.cells, List.all_cons, List.all_nil, Val.one, Bool.and_self])) only [zev, zex, Val.one, List.length_cons, List.length_nil, Nat.reduceAdd, Option.map_some, Option.map_none, List.map_cons, List.map_nil, zva, ↓reduceIte, Nat.reduceEqDiff, hbb, e3])); (solve | (conv => lhs; simp only [zfr, Nat.reduceEqDiff, Nat.reduceLT, ↓reduceIte]))) | (apply o_end; (solve | (conv => lhs; simp only [zdr, inl, Nat.reduceEqDiff, or_false, or_true, ↓reduceIte]))) | apply g_seq | apply g_region | apply g_next | apply g_block | apply g_out | (apply g_true; (solve | (conv => lhs; simp only [zva, ↓reduceIte, Nat.reduceEqDiff, e3]))) | (apply g_false; (solve | (conv => lhs; simp only [zva, ↓reduceIte, Nat.reduceEqDiff, e3]))) | apply g_here | (apply g_past; (solve | decide)) | apply g_exit | apply g_retc | apply g_retb | apply g_ret | apply g_done)
        refine loop_ind (fun m fr h4 => ∃ (j pj : Nat) (mj : Bool), j + m = ts.length ∧ fr = [(0, v), (1, .int .i64 (s : Int)), (5, ov), (6, .int .i64 (left : Int)), (7, .int .i64 (pj : Int)), (8, .bool mj), (20, v), (21, .int .i64 (ts.length : Int)), (22, .int .i64 (j : Int))] ∧ Left' h h4 ∧ Acc h.size h4 1 ov ps.length (cellsN ps) ∧
          Within p pj ∧ Within pj s ∧ (∀ q, Shut ts s q → q.testBit (least left) = true → Within pj q) ∧ (mj = false → pj = p ∧ ∀ i (hi : i < ts.length), i < j → InS s ts[i] → (p.testBit ts[i].1 = true ↔ p.testBit ts[i].2.1 = true)) ∧ (mj = true → p < pj)) ?_ ts.length _ _
          ⟨0, p, false, by omega, rfl, L3, hacc3, Within.refl, hps', hpm, fun _ => ⟨rfl, fun i _ hi => by omega⟩, by simp⟩
        rintro m fr h4 ⟨j, pj, mj, hjm, rfl, L4, hacc4, w1, w2, w3, w4, w5⟩ ih3
        have hpj256 : pj < 256 := Nat.lt_of_le_of_lt w2.le h256
        have hs4 := L4.2.2
        by_cases hj : j < ts.length
        · have d3 : decide ((j : Int) < (ts.length : Int)) = true := decide_eq_true (by omega)
          obtain ⟨q, p1, p2⟩ := (ht.left w L4).elem (i := j) (by simpa using hj)
          rw [List.getElem_map] at p2
          obtain ⟨hpr, ha, hb, hc⟩ := (hts _ (List.getElem_mem hj)).pair hn
          generalize htj : ts[j] = x at p2 hpr ha hb hc
          obtain ⟨a, b, c⟩ := x
          simp only [cell3, toI] at p2
          simp only at ha hb hc
          have qa : 2 ^ a < 256 := lt_256.2 fun i hi => by rw [← bit_two.1 hi]; exact ha
          have qb : 2 ^ b < 256 := lt_256.2 fun i hi => by rw [← bit_two.1 hi]; exact hb
          have qc : 2 ^ c < 256 := lt_256.2 fun i hi => by rw [← bit_two.1 hi]; exact hc
          have e5 : Within ((2 ^ a ||| 2 ^ b) ||| 2 ^ c) s ↔ InS s (a, b, c) := by
            constructor
            · intro h
              exact ⟨h a (bit_or.2 (.inl (bit_or.2 (.inl (bit_two.2 rfl))))), h b (bit_or.2 (.inl (bit_or.2 (.inr (bit_two.2 rfl))))), h c (bit_or.2 (.inr (bit_two.2 rfl)))⟩
            · rintro ⟨g1, g2, g3⟩ i hi
              rcases bit_or.1 hi with hi | hi
              · rcases bit_or.1 hi with hi | hi
                · rw [← bit_two.1 hi]; exact g1
                · rw [← bit_two.1 hi]; exact g2
              · rw [← bit_two.1 hi]; exact g3
          have e6 : ((2 ^ a ||| 2 ^ b) &&& pj) ≠ 0 ↔ (pj.testBit a = true ∨ pj.testBit b = true) := by
            constructor
            · intro h
              obtain ⟨i, hi⟩ := bit_of_ne h
              obtain ⟨g1, g2⟩ := bit_and.1 hi
              rcases bit_or.1 g1 with g | g
              · rw [← bit_two.1 g] at g2; exact .inl g2
              · rw [← bit_two.1 g] at g2; exact .inr g2
            · rintro (h | h)
              · exact ne_of_bit (bit_and.2 ⟨bit_or.2 (.inl (bit_two.2 rfl)), h⟩)
              · exact ne_of_bit (bit_and.2 ⟨bit_or.2 (.inr (bit_two.2 rfl)), h⟩)
          have e7 : diff (2 ^ a ||| 2 ^ b) pj = 0 ↔ (pj.testBit a = true ∧ pj.testBit b = true) := diff_zero.trans (sub_pair (t := (a, b, c)))
          have e8 : ∀ i, (pj ||| (2 ^ a ||| 2 ^ b)).testBit i = true ↔ pj.testBit i = true ∨ a = i ∨ b = i := fun i => by rw [bit_or, bit_or, bit_two, bit_two]
          have b1 : binOp .plain .shl (.int .i64 1) (.int .i64 (a : Int)) = some (.int .i64 ((2 ^ a : Nat) : Int)) := b_shl1 (by omega)
          have b2 : binOp .plain .shl (.int .i64 1) (.int .i64 (b : Int)) = some (.int .i64 ((2 ^ b : Nat) : Int)) := b_shl1 (by omega)
          have b3 : binOp .plain .shl (.int .i64 1) (.int .i64 (c : Int)) = some (.int .i64 ((2 ^ c : Nat) : Int)) := b_shl1 (by omega)
          generalize 2 ^ a = pa at qa e5 e6 e7 e8 b1
          generalize 2 ^ b = pb at qb e5 e6 e7 e8 b2
          generalize 2 ^ c = pc at qc e5 b3
          have o1 : pa ||| pb < 256 := Nat.or_lt_two_pow (n := 8) qa qb
          have o2 : pa ||| pb ||| pc < 256 := Nat.or_lt_two_pow (n := 8) o1 qc
          have L5 := L4.trans (left_push L4.2.1 (some ⟨[.int .i64 (a : Int), .int .i64 (b : Int), .int .i64 (c : Int)], true, 0⟩))
          have hacc5 : Acc h.size (h4.push (some ⟨[.int .i64 (a : Int), .int .i64 (b : Int), .int .i64 (c : Int)], true, 0⟩)) 1 ov ps.length (cellsN ps) := hacc4.keep (fun k hk => get_push_lt hk) L4.2.1
          have hcond : (((diff (pa ||| pb ||| pc) s : Nat) : Int) == 0 && (((pa ||| pb) &&& pj : Nat) : Int) != 0 && ((diff (pa ||| pb) pj : Nat) : Int) != 0) = decide (InS s (a, b, c) ∧ ¬ (pj.testBit a = true ↔ pj.testBit b = true)) := by
            rw [Bool.eq_iff_iff]
            simp only [Bool.and_eq_true, beq_iff_eq, bne_iff_ne, decide_eq_true_eq, ne_eq]
            rw [← e5, ← diff_zero]
            have n1 : ((diff (pa ||| pb ||| pc) s : Nat) : Int) = 0 ↔ diff (pa ||| pb ||| pc) s = 0 := by omega
            have n2 : ((((pa ||| pb) &&& pj : Nat) : Int) = 0) ↔ ((pa ||| pb) &&& pj) = 0 := by omega
            have n3 : ((diff (pa ||| pb) pj : Nat) : Int) = 0 ↔ diff (pa ||| pb) pj = 0 := by omega
            rw [n1, n2, n3, e7, ← ne_eq ((pa ||| pb) &&& pj) 0, e6]
            cases pj.testBit a <;> cases pj.testBit b <;> simp
          repeat' (first | (apply o_op; (solve | (conv => lhs; simp (disch := first | omega | (simp only [Val.cells, List.all_cons, List.all_nil, Val.one, Bool.and_self])) only [zev, zex, Val.one, List.length_cons, List.length_nil, Nat.reduceAdd, Option.map_some, Option.map_none, List.map_cons, List.map_nil, zva, ↓reduceIte, Nat.reduceEqDiff, d3, p1, p2, b1, b2, b3])); (solve | (conv => lhs; simp only [zfr, Nat.reduceEqDiff, Nat.reduceLT, ↓reduceIte]))) | (apply o_yes; (solve | (conv => lhs; simp only [zva, ↓reduceIte, Nat.reduceEqDiff, d3, p1, p2, b1, b2, b3])); (solve | rfl)) | (apply o_no; (solve | (conv => lhs; simp only [zva, ↓reduceIte, Nat.reduceEqDiff, d3, p1, p2, b1, b2, b3])); (solve | decide); (solve | (conv => lhs; simp only [zfr, Nat.reduceEqDiff, Nat.reduceLT, ↓reduceIte]))) | (apply o_not; (solve | (conv => lhs; simp only [zva, ↓reduceIte, Nat.reduceEqDiff])); (solve | (conv => lhs; simp only [zfr, Nat.reduceEqDiff, Nat.reduceLT, ↓reduceIte]))) | (apply o_if; (solve | (conv => lhs; simp only [zva, ↓reduceIte, Nat.reduceEqDiff])); (solve | (intro hbb; conv => lhs; simp (disch := first | omega | (simp only [Val.cells, List.all_cons, List.all_nil, Val.one, Bool.and_self])) only [zev, zex, Val.one, List.length_cons, List.length_nil, Nat.reduceAdd, Option.map_some, Option.map_none, List.map_cons, List.map_nil, zva, ↓reduceIte, Nat.reduceEqDiff, hbb, d3, p1, p2, b1, b2, b3])); (solve | (conv => lhs; simp only [zfr, Nat.reduceEqDiff, Nat.reduceLT, ↓reduceIte]))) | (apply o_end; (solve | (conv => lhs; simp only [zdr, inl, Nat.reduceEqDiff, or_false, or_true, ↓reduceIte]))) | apply g_seq | apply g_region | apply g_next | apply g_block | apply g_out | (apply g_true; (solve | (conv => lhs; simp only [zva, ↓reduceIte, Nat.reduceEqDiff, d3, p1, p2, b1, b2, b3]))) | (apply g_false; (solve | (conv => lhs; simp only [zva, ↓reduceIte, Nat.reduceEqDiff, d3, p1, p2, b1, b2, b3]))) | apply g_here | (apply g_past; (solve | decide)) | apply g_exit | apply g_retc | apply g_retb | apply g_ret | apply g_done)
          rw [hcond]
          by_cases hc0 : InS s (a, b, c) ∧ ¬ (pj.testBit a = true ↔ pj.testBit b = true)
          · rw [decide_eq_true hc0]
            repeat' (first | (apply o_op; (solve | (conv => lhs; simp (disch := first | omega | (simp only [Val.cells, List.all_cons, List.all_nil, Val.one, Bool.and_self])) only [zev, zex, Val.one, List.length_cons, List.length_nil, Nat.reduceAdd, Option.map_some, Option.map_none, List.map_cons, List.map_nil, zva, ↓reduceIte, Nat.reduceEqDiff])); (solve | (conv => lhs; simp only [zfr, Nat.reduceEqDiff, Nat.reduceLT, ↓reduceIte]))) | (apply o_yes; (solve | (conv => lhs; simp only [zva, ↓reduceIte, Nat.reduceEqDiff])); (solve | rfl)) | (apply o_no; (solve | (conv => lhs; simp only [zva, ↓reduceIte, Nat.reduceEqDiff])); (solve | decide); (solve | (conv => lhs; simp only [zfr, Nat.reduceEqDiff, Nat.reduceLT, ↓reduceIte]))) | (apply o_not; (solve | (conv => lhs; simp only [zva, ↓reduceIte, Nat.reduceEqDiff])); (solve | (conv => lhs; simp only [zfr, Nat.reduceEqDiff, Nat.reduceLT, ↓reduceIte]))) | (apply o_if; (solve | (conv => lhs; simp only [zva, ↓reduceIte, Nat.reduceEqDiff])); (solve | (intro hbb; conv => lhs; simp (disch := first | omega | (simp only [Val.cells, List.all_cons, List.all_nil, Val.one, Bool.and_self])) only [zev, zex, Val.one, List.length_cons, List.length_nil, Nat.reduceAdd, Option.map_some, Option.map_none, List.map_cons, List.map_nil, zva, ↓reduceIte, Nat.reduceEqDiff, hbb])); (solve | (conv => lhs; simp only [zfr, Nat.reduceEqDiff, Nat.reduceLT, ↓reduceIte]))) | (apply o_end; (solve | (conv => lhs; simp only [zdr, inl, Nat.reduceEqDiff, or_false, or_true, ↓reduceIte]))) | apply g_seq | apply g_region | apply g_next | apply g_block | apply g_out | (apply g_true; (solve | (conv => lhs; simp only [zva, ↓reduceIte, Nat.reduceEqDiff]))) | (apply g_false; (solve | (conv => lhs; simp only [zva, ↓reduceIte, Nat.reduceEqDiff]))) | apply g_here | (apply g_past; (solve | decide)) | apply g_exit | apply g_retc | apply g_retb | apply g_ret | apply g_done)
            have hup : Within pj (pj ||| (pa ||| pb)) := fun i hi => (e8 i).2 (.inl hi)
            refine ih3 (m - 1) _ _ (by omega) ⟨j + 1, pj ||| (pa ||| pb), true, by omega, by simp, L5, hacc5, w1.trans hup, fun i hi => ?_, fun q hq hqi i hi => ?_, by simp, fun _ => ?_⟩
            · rcases (e8 i).1 hi with hi | rfl | rfl
              · exact w2 i hi
              · exact hc0.1.1
              · exact hc0.1.2.1
            · have hsub := w3 q hq hqi
              have hcl := hq (a, b, c) (by rw [← htj]; exact List.getElem_mem hj) hc0.1
              simp only at hcl
              have hab : q.testBit a = true ∧ q.testBit b = true := by
                by_cases h1 : pj.testBit a = true
                · exact ⟨hsub a h1, hcl.1 (hsub a h1)⟩
                · by_cases h2 : pj.testBit b = true
                  · exact ⟨hcl.2 (hsub b h2), hsub b h2⟩
                  · exact absurd ⟨fun h => absurd h h1, fun h => absurd h h2⟩ hc0.2
              rcases (e8 i).1 hi with hi | rfl | rfl
              · exact hsub i hi
              · exact hab.1
              · exact hab.2
            · refine Nat.lt_of_le_of_lt w1.le (hup.lt fun e => ?_)
              have ha' := (e8 a).2 (.inr (.inl rfl))
              have hb' := (e8 b).2 (.inr (.inr rfl))
              rw [← e] at ha' hb'
              exact hc0.2 ⟨fun _ => hb', fun _ => ha'⟩
          · rw [decide_eq_false hc0]
            repeat' (first | (apply o_op; (solve | (conv => lhs; simp (disch := first | omega | (simp only [Val.cells, List.all_cons, List.all_nil, Val.one, Bool.and_self])) only [zev, zex, Val.one, List.length_cons, List.length_nil, Nat.reduceAdd, Option.map_some, Option.map_none, List.map_cons, List.map_nil, zva, ↓reduceIte, Nat.reduceEqDiff])); (solve | (conv => lhs; simp only [zfr, Nat.reduceEqDiff, Nat.reduceLT, ↓reduceIte]))) | (apply o_yes; (solve | (conv => lhs; simp only [zva, ↓reduceIte, Nat.reduceEqDiff])); (solve | rfl)) | (apply o_no; (solve | (conv => lhs; simp only [zva, ↓reduceIte, Nat.reduceEqDiff])); (solve | decide); (solve | (conv => lhs; simp only [zfr, Nat.reduceEqDiff, Nat.reduceLT, ↓reduceIte]))) | (apply o_not; (solve | (conv => lhs; simp only [zva, ↓reduceIte, Nat.reduceEqDiff])); (solve | (conv => lhs; simp only [zfr, Nat.reduceEqDiff, Nat.reduceLT, ↓reduceIte]))) | (apply o_if; (solve | (conv => lhs; simp only [zva, ↓reduceIte, Nat.reduceEqDiff])); (solve | (intro hbb; conv => lhs; simp (disch := first | omega | (simp only [Val.cells, List.all_cons, List.all_nil, Val.one, Bool.and_self])) only [zev, zex, Val.one, List.length_cons, List.length_nil, Nat.reduceAdd, Option.map_some, Option.map_none, List.map_cons, List.map_nil, zva, ↓reduceIte, Nat.reduceEqDiff, hbb])); (solve | (conv => lhs; simp only [zfr, Nat.reduceEqDiff, Nat.reduceLT, ↓reduceIte]))) | (apply o_end; (solve | (conv => lhs; simp only [zdr, inl, Nat.reduceEqDiff, or_false, or_true, ↓reduceIte]))) | apply g_seq | apply g_region | apply g_next | apply g_block | apply g_out | (apply g_true; (solve | (conv => lhs; simp only [zva, ↓reduceIte, Nat.reduceEqDiff]))) | (apply g_false; (solve | (conv => lhs; simp only [zva, ↓reduceIte, Nat.reduceEqDiff]))) | apply g_here | (apply g_past; (solve | decide)) | apply g_exit | apply g_retc | apply g_retb | apply g_ret | apply g_done)
            refine ih3 (m - 1) _ _ (by omega) ⟨j + 1, pj, mj, by omega, by simp, L5, hacc5, w1, w2, w3, fun hmj => ?_, w5⟩
            obtain ⟨rfl, g⟩ := w4 hmj
            refine ⟨rfl, fun i hi hij hin => ?_⟩
            by_cases e : i = j
            · subst e
              rw [htj] at hin ⊢
              exact Classical.byContradiction fun hh => hc0 ⟨hin, hh⟩
            · exact g i hi (by omega) hin
        · have d3 : decide ((j : Int) < (ts.length : Int)) = false := decide_eq_false (by omega)
          have hjl : j = ts.length := by omega
          subst hjl
          repeat' (first | (apply o_op; (solve | (conv => lhs; simp (disch := first | omega | (simp only [Val.cells, List.all_cons, List.all_nil, Val.one, Bool.and_self])) only [zev, zex, Val.one, List.length_cons, List.length_nil, Nat.reduceAdd, Option.map_some, Option.map_none, List.map_cons, List.map_nil, zva, ↓reduceIte, Nat.reduceEqDiff, d3])); (solve | (conv => lhs; simp only [zfr, Nat.reduceEqDiff, Nat.reduceLT, ↓reduceIte]))) | (apply o_yes; (solve | (conv => lhs; simp only [zva, ↓reduceIte, Nat.reduceEqDiff, d3])); (solve | rfl)) | (apply o_no; (solve | (conv => lhs; simp only [zva, ↓reduceIte, Nat.reduceEqDiff, d3])); (solve | decide); (solve | (conv => lhs; simp only [zfr, Nat.reduceEqDiff, Nat.reduceLT, ↓reduceIte]))) | (apply o_not; (solve | (conv => lhs; simp only [zva, ↓reduceIte, Nat.reduceEqDiff])); (solve | (conv => lhs; simp only [zfr, Nat.reduceEqDiff, Nat.reduceLT, ↓reduceIte]))) | (apply o_if; (solve | (conv => lhs; simp only [zva, ↓reduceIte, Nat.reduceEqDiff])); (solve | (intro hbb; conv => lhs; simp (disch := first | omega | (simp only [Val.cells, List.all_cons, List.all_nil, Val.one, Bool.and_self])) only [zev, zex, Val.one, List.length_cons, List.length_nil, Nat.reduceAdd, Option.map_some, Option.map_none, List.map_cons, List.map_nil, zva, ↓reduceIte, Nat.reduceEqDiff, hbb, d3])); (solve | (conv => lhs; simp only [zfr, Nat.reduceEqDiff, Nat.reduceLT, ↓reduceIte]))) | (apply o_end; (solve | (conv => lhs; simp only [zdr, inl, Nat.reduceEqDiff, or_false, or_true, ↓reduceIte]))) | apply g_seq | apply g_region | apply g_next | apply g_block | apply g_out | (apply g_true; (solve | (conv => lhs; simp only [zva, ↓reduceIte, Nat.reduceEqDiff, d3]))) | (apply g_false; (solve | (conv => lhs; simp only [zva, ↓reduceIte, Nat.reduceEqDiff, d3]))) | apply g_here | (apply g_past; (solve | decide)) | apply g_exit | apply g_retc | apply g_retb | apply g_ret | apply g_done)
          refine ih2 ((256 - pj) * 2 + (if mj = true then 1 else 0)) _ _ ?_ ⟨pj, mj, [(20, v), (21, .int .i64 (ts.length : Int)), (22, .int .i64 (ts.length : Int)), (23, .bool false)], rfl, rfl, .inr rfl, L4, hacc4, w2, w1 _ hpi, w3, fun hmj => ?_⟩
          · cases mj with
            | false =>
              obtain ⟨rfl, _⟩ := w4 rfl
              simp
            | true =>
              have := w5 rfl
              simp only [if_true]
              omega
          · obtain ⟨rfl, g⟩ := w4 hmj
            intro x hx hin
            obtain ⟨i, hi, rfl⟩ := List.getElem_of_mem hx
            exact g i hi hi hin
    rcases hex with rfl | rfl
    · simp only [List.append_nil]
      repeat' (first | (apply o_op; (solve | (conv => lhs; simp (disch := first | omega | (simp only [Val.cells, List.all_cons, List.all_nil, Val.one, Bool.and_self])) only [zev, zex, Val.one, List.length_cons, List.length_nil, Nat.reduceAdd, Option.map_some, Option.map_none, List.map_cons, List.map_nil, zva, ↓reduceIte, Nat.reduceEqDiff])); (solve | (conv => lhs; simp only [zfr, Nat.reduceEqDiff, Nat.reduceLT, ↓reduceIte]))) | (apply o_yes; (solve | (conv => lhs; simp only [zva, ↓reduceIte, Nat.reduceEqDiff])); (solve | rfl)) | (apply o_no; (solve | (conv => lhs; simp only [zva, ↓reduceIte, Nat.reduceEqDiff])); (solve | decide); (solve | (conv => lhs; simp only [zfr, Nat.reduceEqDiff, Nat.reduceLT, ↓reduceIte]))) | (apply o_not; (solve | (conv => lhs; simp only [zva, ↓reduceIte, Nat.reduceEqDiff])); (solve | (conv => lhs; simp only [zfr, Nat.reduceEqDiff, Nat.reduceLT, ↓reduceIte]))) | (apply o_if; (solve | (conv => lhs; simp only [zva, ↓reduceIte, Nat.reduceEqDiff])); (solve | (intro hbb; conv => lhs; simp (disch := first | omega | (simp only [Val.cells, List.all_cons, List.all_nil, Val.one, Bool.and_self])) only [zev, zex, Val.one, List.length_cons, List.length_nil, Nat.reduceAdd, Option.map_some, Option.map_none, List.map_cons, List.map_nil, zva, ↓reduceIte, Nat.reduceEqDiff, hbb])); (solve | (conv => lhs; simp only [zfr, Nat.reduceEqDiff, Nat.reduceLT, ↓reduceIte]))) | (apply o_end; (solve | (conv => lhs; simp only [zdr, inl, Nat.reduceEqDiff, or_false, or_true, ↓reduceIte]))) | apply g_seq | apply g_region | apply g_next | apply g_block | apply g_out | (apply g_true; (solve | (conv => lhs; simp only [zva, ↓reduceIte, Nat.reduceEqDiff]))) | (apply g_false; (solve | (conv => lhs; simp only [zva, ↓reduceIte, Nat.reduceEqDiff]))) | apply g_here | (apply g_past; (solve | decide)) | apply g_exit | apply g_retc | apply g_retb | apply g_ret | apply g_done)
      exact rest
    · simp only [List.cons_append, List.nil_append]
      repeat' (first | (apply o_op; (solve | (conv => lhs; simp (disch := first | omega | (simp only [Val.cells, List.all_cons, List.all_nil, Val.one, Bool.and_self])) only [zev, zex, Val.one, List.length_cons, List.length_nil, Nat.reduceAdd, Option.map_some, Option.map_none, List.map_cons, List.map_nil, zva, ↓reduceIte, Nat.reduceEqDiff])); (solve | (conv => lhs; simp only [zfr, Nat.reduceEqDiff, Nat.reduceLT, ↓reduceIte]))) | (apply o_yes; (solve | (conv => lhs; simp only [zva, ↓reduceIte, Nat.reduceEqDiff])); (solve | rfl)) | (apply o_no; (solve | (conv => lhs; simp only [zva, ↓reduceIte, Nat.reduceEqDiff])); (solve | decide); (solve | (conv => lhs; simp only [zfr, Nat.reduceEqDiff, Nat.reduceLT, ↓reduceIte]))) | (apply o_not; (solve | (conv => lhs; simp only [zva, ↓reduceIte, Nat.reduceEqDiff])); (solve | (conv => lhs; simp only [zfr, Nat.reduceEqDiff, Nat.reduceLT, ↓reduceIte]))) | (apply o_if; (solve | (conv => lhs; simp only [zva, ↓reduceIte, Nat.reduceEqDiff])); (solve | (intro hbb; conv => lhs; simp (disch := first | omega | (simp only [Val.cells, List.all_cons, List.all_nil, Val.one, Bool.and_self])) only [zev, zex, Val.one, List.length_cons, List.length_nil, Nat.reduceAdd, Option.map_some, Option.map_none, List.map_cons, List.map_nil, zva, ↓reduceIte, Nat.reduceEqDiff, hbb])); (solve | (conv => lhs; simp only [zfr, Nat.reduceEqDiff, Nat.reduceLT, ↓reduceIte]))) | (apply o_end; (solve | (conv => lhs; simp only [zdr, inl, Nat.reduceEqDiff, or_false, or_true, ↓reduceIte]))) | apply g_seq | apply g_region | apply g_next | apply g_block | apply g_out | (apply g_true; (solve | (conv => lhs; simp only [zva, ↓reduceIte, Nat.reduceEqDiff]))) | (apply g_false; (solve | (conv => lhs; simp only [zva, ↓reduceIte, Nat.reduceEqDiff]))) | apply g_here | (apply g_past; (solve | decide)) | apply g_exit | apply g_retc | apply g_retb | apply g_ret | apply g_done)
      exact rest
end Gc
end
section
/- Contracts: build and Build. -/
set_option linter.unusedVariables false
set_option linter.unusedSimpArgs false
namespace Gc
variable {E : Env} {base kept : Nat} {h : Heap}
theorem mapO_isnone {α β : Type} {g : α → Option β} : ∀ {l : List α} {a : α}, a ∈ l → g a = none → mapO g l = none
  | [], a, ha, _ => by simp at ha
  | b :: l, a, ha, hg => by
    simp only [mapO]
    cases hb : g b with
    | none => rfl
    | some c =>
      rcases List.mem_cons.1 ha with rfl | ha
      · rw [hg] at hb; cases hb
      · rw [mapO_isnone ha hg]; rfl
def needBuild : List Nat := F.breed_build :: needJoined ++ needOf
theorem okT.ne {n : Nat} {x : T3} (h : okT n x) : x.1 ≠ x.2.1 := by
  have := h.1
  omega
theorem ListAt.slice {N : Nat} {h : Heap} {lv : Val} {zs : List Z} (a : ListAt N h lv zs) (h1 : 1 ≤ zs.length) : ∃ k, lv = .slice k 0 zs.length none ∧ N ≤ k ∧ h.get k = some ⟨cellsZ zs, true, 1⟩ ∧ TreesZ (fun j => N ≤ j ∧ j < h.size ∧ j ≠ k) h zs := by
  rcases a with ⟨_, rfl⟩ | a
  · simp at h1
  · exact a
theorem build_run {l : List Nat} (hE : E.Has tabs05 l) (hf : ∀ f ∈ needBuild, f ∈ l) {n : Nat} {ts : List T3} (hn : n ≤ 8) (hts : ∀ x ∈ ts, okT n x) (hlen : ts.length < 2 ^ 60) : ∀ (b s : Nat) (h : Heap) (v : Val), s < b → s ≠ 0 → s < 256 → h.Wf → Tables h → 2 ≤ h.size → TriplesAt h v (ts.map toI) →
    CallV E h.size F.breed_build [v, .int .i64 (s : Int)] h fun r h' => Left' h h' ∧ match buildF ts s with
      | none => r = .nili
      | some t => TreeAt (fun j => h.size ≤ j ∧ j < h'.size) h' t r := by
  intro b
  induction b with
  | zero => intro s h v hb; omega
  | succ b IH =>
    intro s h v hsb h0 h256 w tb h2s ht
    refine c_begin hE (hf _ (by decide)) rfl (by decide) (by decide) ?_
    simp only [T.breed_build, Frame.enterFrom, Nat.zero_add, Nat.reduceAdd]
    have eS : binOp .plain .and (.int .i64 (s : Int)) (.int .i64 ((s : Int) - 1)) = some (.int .i64 ((s &&& (s - 1) : Nat) : Int)) := by
      have := b_andN (x := s) (y := s - 1) (by omega) (by omega)
      rw [show ((s - 1 : Nat) : Int) = (s : Int) - 1 by omega] at this
      exact this
    have hstep := buildF_step (l := ts) h0 h256
    by_cases h1 : s &&& (s - 1) = 0
    · have e1 : (((s &&& (s - 1) : Nat) : Int) == 0) = true := by rw [h1]; rfl
      have f1 : fill [Val.int .i64 0] [(0, 1, .int .i64 (s : Int))] = some [.int .i64 (s : Int)] := rfl
      repeat' (first | (apply o_op; (solve | (conv => lhs; simp (disch := first | omega | (simp only [Val.cells, List.all_cons, List.all_nil, Val.one, Bool.and_self])) only [zev, zex, Val.one, List.length_cons, List.length_nil, Nat.reduceAdd, Option.map_some, Option.map_none, List.map_cons, List.map_nil, zva, ↓reduceIte, Nat.reduceEqDiff, eS, e1, f1])); (solve | (conv => lhs; simp only [zfr, Nat.reduceEqDiff, Nat.reduceLT, ↓reduceIte]))) | (apply o_yes; (solve | (conv => lhs; simp only [zva, ↓reduceIte, Nat.reduceEqDiff, eS, e1, f1])); (solve | rfl)) | (apply o_no; (solve | (conv => lhs; simp only [zva, ↓reduceIte, Nat.reduceEqDiff, eS, e1, f1])); (solve | decide); (solve | (conv => lhs; simp only [zfr, Nat.reduceEqDiff, Nat.reduceLT, ↓reduceIte]))) | (apply o_not; (solve | (conv => lhs; simp only [zva, ↓reduceIte, Nat.reduceEqDiff])); (solve | (conv => lhs; simp only [zfr, Nat.reduceEqDiff, Nat.reduceLT, ↓reduceIte]))) | (apply o_if; (solve | (conv => lhs; simp only [zva, ↓reduceIte, Nat.reduceEqDiff])); (solve | (intro hbb; conv => lhs; simp (disch := first | omega | (simp only [Val.cells, List.all_cons, List.all_nil, Val.one, Bool.and_self])) only [zev, zex, Val.one, List.length_cons, List.length_nil, Nat.reduceAdd, Option.map_some, Option.map_none, List.map_cons, List.map_nil, zva, ↓reduceIte, Nat.reduceEqDiff, hbb, eS, e1, f1])); (solve | (conv => lhs; simp only [zfr, Nat.reduceEqDiff, Nat.reduceLT, ↓reduceIte]))) | (apply o_end; (solve | (conv => lhs; simp only [zdr, inl, Nat.reduceEqDiff, or_false, or_true, ↓reduceIte]))) | apply g_seq | apply g_region | apply g_next | apply g_block | apply g_out | (apply g_true; (solve | (conv => lhs; simp only [zva, ↓reduceIte, Nat.reduceEqDiff, eS, e1, f1]))) | (apply g_false; (solve | (conv => lhs; simp only [zva, ↓reduceIte, Nat.reduceEqDiff, eS, e1, f1]))) | apply g_here | (apply g_past; (solve | decide)) | apply g_exit | apply g_retc | apply g_retb | apply g_ret | apply g_done)
      refine ⟨.inr rfl, _, rfl, Left'.refl w, ?_⟩
      rw [hstep, if_pos h1]
      simp [tuple, Frame.get, TreeAt]
    have e1 : (((s &&& (s - 1) : Nat) : Int) == 0) = false := by simp [h1]
    repeat' (first | (apply o_op; (solve | (conv => lhs; simp (disch := first | omega | (simp only [Val.cells, List.all_cons, List.all_nil, Val.one, Bool.and_self])) only [zev, zex, Val.one, List.length_cons, List.length_nil, Nat.reduceAdd, Option.map_some, Option.map_none, List.map_cons, List.map_nil, zva, ↓reduceIte, Nat.reduceEqDiff, eS, e1])); (solve | (conv => lhs; simp only [zfr, Nat.reduceEqDiff, Nat.reduceLT, ↓reduceIte]))) | (apply o_yes; (solve | (conv => lhs; simp only [zva, ↓reduceIte, Nat.reduceEqDiff, eS, e1])); (solve | rfl)) | (apply o_no; (solve | (conv => lhs; simp only [zva, ↓reduceIte, Nat.reduceEqDiff, eS, e1])); (solve | decide); (solve | (conv => lhs; simp only [zfr, Nat.reduceEqDiff, Nat.reduceLT, ↓reduceIte]))) | (apply o_not; (solve | (conv => lhs; simp only [zva, ↓reduceIte, Nat.reduceEqDiff])); (solve | (conv => lhs; simp only [zfr, Nat.reduceEqDiff, Nat.reduceLT, ↓reduceIte]))) | (apply o_if; (solve | (conv => lhs; simp only [zva, ↓reduceIte, Nat.reduceEqDiff])); (solve | (intro hbb; conv => lhs; simp (disch := first | omega | (simp only [Val.cells, List.all_cons, List.all_nil, Val.one, Bool.and_self])) only [zev, zex, Val.one, List.length_cons, List.length_nil, Nat.reduceAdd, Option.map_some, Option.map_none, List.map_cons, List.map_nil, zva, ↓reduceIte, Nat.reduceEqDiff, hbb, eS, e1])); (solve | (conv => lhs; simp only [zfr, Nat.reduceEqDiff, Nat.reduceLT, ↓reduceIte]))) | (apply o_end; (solve | (conv => lhs; simp only [zdr, inl, Nat.reduceEqDiff, or_false, or_true, ↓reduceIte]))) | apply g_seq | apply g_region | apply g_next | apply g_block | apply g_out | (apply g_true; (solve | (conv => lhs; simp only [zva, ↓reduceIte, Nat.reduceEqDiff, eS, e1]))) | (apply g_false; (solve | (conv => lhs; simp only [zva, ↓reduceIte, Nat.reduceEqDiff, eS, e1]))) | apply g_here | (apply g_past; (solve | decide)) | apply g_exit | apply g_retc | apply g_retb | apply g_ret | apply g_done)
    (apply o_call; (solve | (conv => lhs; simp only [Callee.find, List.map_cons, List.map_nil, List.cons_append, List.nil_append, zva, ↓reduceIte, Nat.reduceEqDiff])))
    · exact joined_run hE (fun f hf' => hf f (by simp only [needBuild, List.cons_append, List.mem_cons, List.mem_append]; exact .inr (.inl hf'))) w hn ht hts hlen h0 h256
    rintro pv h2 ⟨hpv, L2⟩
    (conv => arg 8; simp only [zfr, Nat.reduceEqDiff, Nat.reduceLT, ↓reduceIte])
    obtain ⟨Ps, Psort⟩ := partsF_ok ts h256
    have epv := hpv.len
    by_cases h2' : (partsF ts s).length = 1
    · have e2 : (((partsF ts s).length : Int) == 1) = true := by simp [h2']
      repeat' (first | (apply o_op; (solve | (conv => lhs; simp (disch := first | omega | (simp only [Val.cells, List.all_cons, List.all_nil, Val.one, Bool.and_self])) only [zev, zex, Val.one, List.length_cons, List.length_nil, Nat.reduceAdd, Option.map_some, Option.map_none, List.map_cons, List.map_nil, zva, ↓reduceIte, Nat.reduceEqDiff, epv, e2])); (solve | (conv => lhs; simp only [zfr, Nat.reduceEqDiff, Nat.reduceLT, ↓reduceIte]))) | (apply o_yes; (solve | (conv => lhs; simp only [zva, ↓reduceIte, Nat.reduceEqDiff, epv, e2])); (solve | rfl)) | (apply o_no; (solve | (conv => lhs; simp only [zva, ↓reduceIte, Nat.reduceEqDiff, epv, e2])); (solve | decide); (solve | (conv => lhs; simp only [zfr, Nat.reduceEqDiff, Nat.reduceLT, ↓reduceIte]))) | (apply o_not; (solve | (conv => lhs; simp only [zva, ↓reduceIte, Nat.reduceEqDiff])); (solve | (conv => lhs; simp only [zfr, Nat.reduceEqDiff, Nat.reduceLT, ↓reduceIte]))) | (apply o_if; (solve | (conv => lhs; simp only [zva, ↓reduceIte, Nat.reduceEqDiff])); (solve | (intro hbb; conv => lhs; simp (disch := first | omega | (simp only [Val.cells, List.all_cons, List.all_nil, Val.one, Bool.and_self])) only [zev, zex, Val.one, List.length_cons, List.length_nil, Nat.reduceAdd, Option.map_some, Option.map_none, List.map_cons, List.map_nil, zva, ↓reduceIte, Nat.reduceEqDiff, hbb, epv, e2])); (solve | (conv => lhs; simp only [zfr, Nat.reduceEqDiff, Nat.reduceLT, ↓reduceIte]))) | (apply o_end; (solve | (conv => lhs; simp only [zdr, inl, Nat.reduceEqDiff, or_false, or_true, ↓reduceIte]))) | apply g_seq | apply g_region | apply g_next | apply g_block | apply g_out | (apply g_true; (solve | (conv => lhs; simp only [zva, ↓reduceIte, Nat.reduceEqDiff, epv, e2]))) | (apply g_false; (solve | (conv => lhs; simp only [zva, ↓reduceIte, Nat.reduceEqDiff, epv, e2]))) | apply g_here | (apply g_past; (solve | decide)) | apply g_exit | apply g_retc | apply g_retb | apply g_ret | apply g_done)
      refine ⟨.inr rfl, _, rfl, L2, ?_⟩
      rw [hstep, if_neg h1, if_pos h2']
      rfl
    have e2 : (((partsF ts s).length : Int) == 1) = false := by rw [beq_eq_false_iff_ne]; omega
    have hpl := few_sets (fun p hp => ⟨(Ps.sub p hp).2, Nat.lt_of_le_of_lt (Ps.sub p hp).1.le h256⟩) Ps.dis
    have hp2 := Ps.two h0 h2'
    repeat' (first | (apply o_op; (solve | (conv => lhs; simp (disch := first | omega | (simp only [Val.cells, List.all_cons, List.all_nil, Val.one, Bool.and_self])) only [zev, zex, Val.one, List.length_cons, List.length_nil, Nat.reduceAdd, Option.map_some, Option.map_none, List.map_cons, List.map_nil, zva, ↓reduceIte, Nat.reduceEqDiff, epv, e2])); (solve | (conv => lhs; simp only [zfr, Nat.reduceEqDiff, Nat.reduceLT, ↓reduceIte]))) | (apply o_yes; (solve | (conv => lhs; simp only [zva, ↓reduceIte, Nat.reduceEqDiff, epv, e2])); (solve | rfl)) | (apply o_no; (solve | (conv => lhs; simp only [zva, ↓reduceIte, Nat.reduceEqDiff, epv, e2])); (solve | decide); (solve | (conv => lhs; simp only [zfr, Nat.reduceEqDiff, Nat.reduceLT, ↓reduceIte]))) | (apply o_not; (solve | (conv => lhs; simp only [zva, ↓reduceIte, Nat.reduceEqDiff])); (solve | (conv => lhs; simp only [zfr, Nat.reduceEqDiff, Nat.reduceLT, ↓reduceIte]))) | (apply o_if; (solve | (conv => lhs; simp only [zva, ↓reduceIte, Nat.reduceEqDiff])); (solve | (intro hbb; conv => lhs; simp (disch := first | omega | (simp only [Val.cells, List.all_cons, List.all_nil, Val.one, Bool.and_self])) only [zev, zex, Val.one, List.length_cons, List.length_nil, Nat.reduceAdd, Option.map_some, Option.map_none, List.map_cons, List.map_nil, zva, ↓reduceIte, Nat.reduceEqDiff, hbb, epv, e2])); (solve | (conv => lhs; simp only [zfr, Nat.reduceEqDiff, Nat.reduceLT, ↓reduceIte]))) | (apply o_end; (solve | (conv => lhs; simp only [zdr, inl, Nat.reduceEqDiff, or_false, or_true, ↓reduceIte]))) | apply g_seq | apply g_region | apply g_next | apply g_block | apply g_out | (apply g_true; (solve | (conv => lhs; simp only [zva, ↓reduceIte, Nat.reduceEqDiff, epv, e2]))) | (apply g_false; (solve | (conv => lhs; simp only [zva, ↓reduceIte, Nat.reduceEqDiff, epv, e2]))) | apply g_here | (apply g_past; (solve | decide)) | apply g_exit | apply g_retc | apply g_retb | apply g_ret | apply g_done)
    rw [hstep, if_neg h1, if_neg h2']
    have hspec := fun p (hp : p ∈ partsF ts s) => buildF_spec (l := ts) (fun x hx => (hts x hx).ne) (Ps.sub p hp).2 (Nat.lt_of_le_of_lt (Ps.sub p hp).1.le h256)
    generalize hps : partsF ts s = ps at *
    refine loop_ind (fun m fr h3 => ∃ (i : Nat) (lv : Val) (zs : List Z), i + m = ps.length ∧ fr = [(0, v), (6, lv), (24, pv), (25, .int .i64 (ps.length : Int)), (26, .int .i64 (i : Int))] ∧ Left' h2 h3 ∧ ListAt h2.size h3 lv zs ∧ (ps.take i).map (buildF ts) = zs.map fun z => some z.1) ?_ ps.length _ _
      ⟨0, .nils, [], by omega, rfl, Left'.refl L2.2.1, .inl ⟨rfl, rfl⟩, rfl⟩
    rintro m fr h3 ⟨i, lv, zs, him, rfl, L3, hla, hzs⟩ ih
    have hzl : zs.length = i := by
      have := congrArg List.length hzs
      simp at this
      omega
    have hs2 := L2.2.2
    have hs3 := L3.2.2
    by_cases hi : i < ps.length
    · have d2 : decide ((i : Int) < (ps.length : Int)) = true := decide_eq_true (by omega)
      obtain ⟨p, p1, p2⟩ := (hpv.left L2.2.1 L3).elem hi
      have hmem : ps[i] ∈ ps := List.getElem_mem hi
      have hlt : ps[i] < s := Ps.proper h2' hmem
      repeat' (first | (apply o_op; (solve | (conv => lhs; simp (disch := first | omega | (simp only [Val.cells, List.all_cons, List.all_nil, Val.one, Bool.and_self])) only [zev, zex, Val.one, List.length_cons, List.length_nil, Nat.reduceAdd, Option.map_some, Option.map_none, List.map_cons, List.map_nil, zva, ↓reduceIte, Nat.reduceEqDiff, d2, p1, p2])); (solve | (conv => lhs; simp only [zfr, Nat.reduceEqDiff, Nat.reduceLT, ↓reduceIte]))) | (apply o_yes; (solve | (conv => lhs; simp only [zva, ↓reduceIte, Nat.reduceEqDiff, d2, p1, p2])); (solve | rfl)) | (apply o_no; (solve | (conv => lhs; simp only [zva, ↓reduceIte, Nat.reduceEqDiff, d2, p1, p2])); (solve | decide); (solve | (conv => lhs; simp only [zfr, Nat.reduceEqDiff, Nat.reduceLT, ↓reduceIte]))) | (apply o_not; (solve | (conv => lhs; simp only [zva, ↓reduceIte, Nat.reduceEqDiff])); (solve | (conv => lhs; simp only [zfr, Nat.reduceEqDiff, Nat.reduceLT, ↓reduceIte]))) | (apply o_if; (solve | (conv => lhs; simp only [zva, ↓reduceIte, Nat.reduceEqDiff])); (solve | (intro hbb; conv => lhs; simp (disch := first | omega | (simp only [Val.cells, List.all_cons, List.all_nil, Val.one, Bool.and_self])) only [zev, zex, Val.one, List.length_cons, List.length_nil, Nat.reduceAdd, Option.map_some, Option.map_none, List.map_cons, List.map_nil, zva, ↓reduceIte, Nat.reduceEqDiff, hbb, d2, p1, p2])); (solve | (conv => lhs; simp only [zfr, Nat.reduceEqDiff, Nat.reduceLT, ↓reduceIte]))) | (apply o_end; (solve | (conv => lhs; simp only [zdr, inl, Nat.reduceEqDiff, or_false, or_true, ↓reduceIte]))) | apply g_seq | apply g_region | apply g_next | apply g_block | apply g_out | (apply g_true; (solve | (conv => lhs; simp only [zva, ↓reduceIte, Nat.reduceEqDiff, d2, p1, p2]))) | (apply g_false; (solve | (conv => lhs; simp only [zva, ↓reduceIte, Nat.reduceEqDiff, d2, p1, p2]))) | apply g_here | (apply g_past; (solve | decide)) | apply g_exit | apply g_retc | apply g_retb | apply g_ret | apply g_done)
      (apply o_call; (solve | (conv => lhs; simp only [Callee.find, List.map_cons, List.map_nil, List.cons_append, List.nil_append, zva, ↓reduceIte, Nat.reduceEqDiff])))
      · exact (IH ps[i] h3 v (by omega) (Ps.sub _ hmem).2 (by omega) L3.2.1 (tb.keep w (L2.trans L3).1) (by omega) (ht.left w (L2.trans L3))).lower (show h.size ≤ h3.size by omega)
      rintro x h4 ⟨L4, p⟩
      (conv => arg 8; simp only [zfr, Nat.reduceEqDiff, Nat.reduceLT, ↓reduceIte])
      cases hb : buildF ts ps[i] with
      | none =>
        rw [hb] at p
        subst p
        repeat' (first | (apply o_op; (solve | (conv => lhs; simp (disch := first | omega | (simp only [Val.cells, List.all_cons, List.all_nil, Val.one, Bool.and_self])) only [zev, zex, Val.one, List.length_cons, List.length_nil, Nat.reduceAdd, Option.map_some, Option.map_none, List.map_cons, List.map_nil, zva, ↓reduceIte, Nat.reduceEqDiff])); (solve | (conv => lhs; simp only [zfr, Nat.reduceEqDiff, Nat.reduceLT, ↓reduceIte]))) | (apply o_yes; (solve | (conv => lhs; simp only [zva, ↓reduceIte, Nat.reduceEqDiff])); (solve | rfl)) | (apply o_no; (solve | (conv => lhs; simp only [zva, ↓reduceIte, Nat.reduceEqDiff])); (solve | decide); (solve | (conv => lhs; simp only [zfr, Nat.reduceEqDiff, Nat.reduceLT, ↓reduceIte]))) | (apply o_not; (solve | (conv => lhs; simp only [zva, ↓reduceIte, Nat.reduceEqDiff])); (solve | (conv => lhs; simp only [zfr, Nat.reduceEqDiff, Nat.reduceLT, ↓reduceIte]))) | (apply o_if; (solve | (conv => lhs; simp only [zva, ↓reduceIte, Nat.reduceEqDiff])); (solve | (intro hbb; conv => lhs; simp (disch := first | omega | (simp only [Val.cells, List.all_cons, List.all_nil, Val.one, Bool.and_self])) only [zev, zex, Val.one, List.length_cons, List.length_nil, Nat.reduceAdd, Option.map_some, Option.map_none, List.map_cons, List.map_nil, zva, ↓reduceIte, Nat.reduceEqDiff, hbb])); (solve | (conv => lhs; simp only [zfr, Nat.reduceEqDiff, Nat.reduceLT, ↓reduceIte]))) | (apply o_end; (solve | (conv => lhs; simp only [zdr, inl, Nat.reduceEqDiff, or_false, or_true, ↓reduceIte]))) | apply g_seq | apply g_region | apply g_next | apply g_block | apply g_out | (apply g_true; (solve | (conv => lhs; simp only [zva, ↓reduceIte, Nat.reduceEqDiff]))) | (apply g_false; (solve | (conv => lhs; simp only [zva, ↓reduceIte, Nat.reduceEqDiff]))) | apply g_here | (apply g_past; (solve | decide)) | apply g_exit | apply g_retc | apply g_retb | apply g_ret | apply g_done)
        refine ⟨.inr rfl, _, rfl, (L2.trans L3).trans L4, ?_⟩
        rw [mapO_isnone hmem hb]
        rfl
      | some t =>
        rw [hb] at p
        obtain ⟨tv, tset, _⟩ := (hspec _ hmem).1 t hb
        obtain ⟨ty, cs, rfl, hty⟩ := TreeAt.iface p
        have hap : ∀ j, h3.size ≤ j ∧ j < h4.size → h2.size ≤ j ∧ j < h4.size ∧ lv.apart j := fun j hj => ⟨by omega, by omega, by
          rcases hla with ⟨rfl, _⟩ | ⟨k0, rfl, _, hk0, _⟩
          · trivial
          · have := L3.2.1.lt hk0
            simp only [Val.apart]; omega⟩
        have hla4 := hla.keep L3.2.1 (fun j _ hj => L4.1 j hj) L4.2.2
        have L34 := L3.trans L4
        obtain ⟨h5, k5, a1, a2, a3, a4, a5, a6⟩ := hla4.snoc (base := h.size) L34.2.2 L34.2.1 (by omega) hap p tv.ne tv.lt (by omega)
        have f1 : fill [Val.nili] [(0, 1, .iface ty (.agg (.int .i64 (t.set : Int) :: cs)))] = some [.iface ty (.agg (.int .i64 (t.set : Int) :: cs))] := rfl
        have f2 := buildSliceV_new (h := h4) (base := h.size) (esz := 1) (n0 := 1) (cs := [.iface ty (.agg (.int .i64 (t.set : Int) :: cs))]) rfl
        repeat' (first | (apply o_op; (solve | (conv => lhs; simp (disch := first | omega | (simp only [Val.cells, List.all_cons, List.all_nil, Val.one, Bool.and_self])) only [zev, zex, Val.one, List.length_cons, List.length_nil, Nat.reduceAdd, Option.map_some, Option.map_none, List.map_cons, List.map_nil, zva, ↓reduceIte, Nat.reduceEqDiff, f1, f2, a1])); (solve | (conv => lhs; simp only [zfr, Nat.reduceEqDiff, Nat.reduceLT, ↓reduceIte]))) | (apply o_yes; (solve | (conv => lhs; simp only [zva, ↓reduceIte, Nat.reduceEqDiff, f1, f2, a1])); (solve | rfl)) | (apply o_no; (solve | (conv => lhs; simp only [zva, ↓reduceIte, Nat.reduceEqDiff, f1, f2, a1])); (solve | decide); (solve | (conv => lhs; simp only [zfr, Nat.reduceEqDiff, Nat.reduceLT, ↓reduceIte]))) | (apply o_not; (solve | (conv => lhs; simp only [zva, ↓reduceIte, Nat.reduceEqDiff])); (solve | (conv => lhs; simp only [zfr, Nat.reduceEqDiff, Nat.reduceLT, ↓reduceIte]))) | (apply o_if; (solve | (conv => lhs; simp only [zva, ↓reduceIte, Nat.reduceEqDiff])); (solve | (intro hbb; conv => lhs; simp (disch := first | omega | (simp only [Val.cells, List.all_cons, List.all_nil, Val.one, Bool.and_self])) only [zev, zex, Val.one, List.length_cons, List.length_nil, Nat.reduceAdd, Option.map_some, Option.map_none, List.map_cons, List.map_nil, zva, ↓reduceIte, Nat.reduceEqDiff, hbb, f1, f2, a1])); (solve | (conv => lhs; simp only [zfr, Nat.reduceEqDiff, Nat.reduceLT, ↓reduceIte]))) | (apply o_end; (solve | (conv => lhs; simp only [zdr, inl, Nat.reduceEqDiff, or_false, or_true, ↓reduceIte]))) | apply g_seq | apply g_region | apply g_next | apply g_block | apply g_out | (apply g_true; (solve | (conv => lhs; simp only [zva, ↓reduceIte, Nat.reduceEqDiff, f1, f2, a1]))) | (apply g_false; (solve | (conv => lhs; simp only [zva, ↓reduceIte, Nat.reduceEqDiff, f1, f2, a1]))) | apply g_here | (apply g_past; (solve | decide)) | apply g_exit | apply g_retc | apply g_retb | apply g_ret | apply g_done)
        refine ih (m - 1) _ _ (by omega) ⟨i + 1, _, zs ++ [(t, .iface ty (.agg (.int .i64 (t.set : Int) :: cs)))], by omega, by simp, ⟨fun j hj => by rw [a6 j hj, L34.1 j hj], a3, by have := L34.2.2; omega⟩, a2, ?_⟩
        rw [List.take_add_one, List.getElem?_eq_getElem hi, List.map_append, hzs]
        simp [hb]
    · have d2 : decide ((i : Int) < (ps.length : Int)) = false := decide_eq_false (by omega)
      repeat' (first | (apply o_op; (solve | (conv => lhs; simp (disch := first | omega | (simp only [Val.cells, List.all_cons, List.all_nil, Val.one, Bool.and_self])) only [zev, zex, Val.one, List.length_cons, List.length_nil, Nat.reduceAdd, Option.map_some, Option.map_none, List.map_cons, List.map_nil, zva, ↓reduceIte, Nat.reduceEqDiff, d2])); (solve | (conv => lhs; simp only [zfr, Nat.reduceEqDiff, Nat.reduceLT, ↓reduceIte]))) | (apply o_yes; (solve | (conv => lhs; simp only [zva, ↓reduceIte, Nat.reduceEqDiff, d2])); (solve | rfl)) | (apply o_no; (solve | (conv => lhs; simp only [zva, ↓reduceIte, Nat.reduceEqDiff, d2])); (solve | decide); (solve | (conv => lhs; simp only [zfr, Nat.reduceEqDiff, Nat.reduceLT, ↓reduceIte]))) | (apply o_not; (solve | (conv => lhs; simp only [zva, ↓reduceIte, Nat.reduceEqDiff])); (solve | (conv => lhs; simp only [zfr, Nat.reduceEqDiff, Nat.reduceLT, ↓reduceIte]))) | (apply o_if; (solve | (conv => lhs; simp only [zva, ↓reduceIte, Nat.reduceEqDiff])); (solve | (intro hbb; conv => lhs; simp (disch := first | omega | (simp only [Val.cells, List.all_cons, List.all_nil, Val.one, Bool.and_self])) only [zev, zex, Val.one, List.length_cons, List.length_nil, Nat.reduceAdd, Option.map_some, Option.map_none, List.map_cons, List.map_nil, zva, ↓reduceIte, Nat.reduceEqDiff, hbb, d2])); (solve | (conv => lhs; simp only [zfr, Nat.reduceEqDiff, Nat.reduceLT, ↓reduceIte]))) | (apply o_end; (solve | (conv => lhs; simp only [zdr, inl, Nat.reduceEqDiff, or_false, or_true, ↓reduceIte]))) | apply g_seq | apply g_region | apply g_next | apply g_block | apply g_out | (apply g_true; (solve | (conv => lhs; simp only [zva, ↓reduceIte, Nat.reduceEqDiff, d2]))) | (apply g_false; (solve | (conv => lhs; simp only [zva, ↓reduceIte, Nat.reduceEqDiff, d2]))) | apply g_here | (apply g_past; (solve | decide)) | apply g_exit | apply g_retc | apply g_retb | apply g_ret | apply g_done)
      rw [List.take_of_length_le (by omega)] at hzs
      obtain ⟨k, rfl, hk1, hk2, hk3⟩ := hla.slice (by omega)
      have L23 := L2.trans L3
      (apply o_call; (solve | (conv => lhs; simp only [Callee.find, List.map_cons, List.map_nil, List.cons_append, List.nil_append, zva, ↓reduceIte, Nat.reduceEqDiff])))
      · exact of_run (base := h.size) hE (fun f hf' => hf f (by simp only [needBuild, List.cons_append, List.mem_cons, List.mem_append]; exact .inr (.inr hf'))) L3.2.1 (tb.keep w L23.1) rfl (by omega) (by omega) (by omega) hk2 (by omega) (by omega) (fun j hj => hj.2) hk3
      rintro x h4 ⟨⟨M, m1, m2, t, m3, m4⟩, m5, m6, m7⟩
      (conv => arg 8; simp only [zfr, Nat.reduceEqDiff, Nat.reduceLT, ↓reduceIte])
      repeat' (first | (apply o_op; (solve | (conv => lhs; simp (disch := first | omega | (simp only [Val.cells, List.all_cons, List.all_nil, Val.one, Bool.and_self])) only [zev, zex, Val.one, List.length_cons, List.length_nil, Nat.reduceAdd, Option.map_some, Option.map_none, List.map_cons, List.map_nil, zva, ↓reduceIte, Nat.reduceEqDiff])); (solve | (conv => lhs; simp only [zfr, Nat.reduceEqDiff, Nat.reduceLT, ↓reduceIte]))) | (apply o_yes; (solve | (conv => lhs; simp only [zva, ↓reduceIte, Nat.reduceEqDiff])); (solve | rfl)) | (apply o_no; (solve | (conv => lhs; simp only [zva, ↓reduceIte, Nat.reduceEqDiff])); (solve | decide); (solve | (conv => lhs; simp only [zfr, Nat.reduceEqDiff, Nat.reduceLT, ↓reduceIte]))) | (apply o_not; (solve | (conv => lhs; simp only [zva, ↓reduceIte, Nat.reduceEqDiff])); (solve | (conv => lhs; simp only [zfr, Nat.reduceEqDiff, Nat.reduceLT, ↓reduceIte]))) | (apply o_if; (solve | (conv => lhs; simp only [zva, ↓reduceIte, Nat.reduceEqDiff])); (solve | (intro hbb; conv => lhs; simp (disch := first | omega | (simp only [Val.cells, List.all_cons, List.all_nil, Val.one, Bool.and_self])) only [zev, zex, Val.one, List.length_cons, List.length_nil, Nat.reduceAdd, Option.map_some, Option.map_none, List.map_cons, List.map_nil, zva, ↓reduceIte, Nat.reduceEqDiff, hbb])); (solve | (conv => lhs; simp only [zfr, Nat.reduceEqDiff, Nat.reduceLT, ↓reduceIte]))) | (apply o_end; (solve | (conv => lhs; simp only [zdr, inl, Nat.reduceEqDiff, or_false, or_true, ↓reduceIte]))) | apply g_seq | apply g_region | apply g_next | apply g_block | apply g_out | (apply g_true; (solve | (conv => lhs; simp only [zva, ↓reduceIte, Nat.reduceEqDiff]))) | (apply g_false; (solve | (conv => lhs; simp only [zva, ↓reduceIte, Nat.reduceEqDiff]))) | apply g_here | (apply g_past; (solve | decide)) | apply g_exit | apply g_retc | apply g_retb | apply g_ret | apply g_done)
      refine ⟨.inr rfl, _, rfl, ⟨fun j hj => by rw [m5 j (by omega) (by omega)]; exact L23.1 j hj, m6, by omega⟩, ?_⟩
      have hmo : mapO (buildF ts) ps = some (zs.map (·.1)) := mapO_of (by rw [hzs, List.map_map]; rfl)
      rw [hmo]
      simp only [Option.map_some]
      have htl : (zs.map (·.1)).length ≠ 1 := by simp; omega
      rw [ofT_many htl]
      have hsets : (zs.map (·.1)).map Tr.set = ps := by
        have : ∀ (a : List Nat) (b : List Tr), (∀ p ∈ a, p ∈ ps) → a.map (buildF ts) = b.map some → b.map Tr.set = a := by
          intro a
          induction a with
          | nil => intro b _ h; cases b <;> simp_all
          | cons p a iha =>
            intro b ha h
            cases b with
            | nil => simp at h
            | cons t b =>
              simp only [List.map_cons, List.cons.injEq] at h ⊢
              exact ⟨((hspec p (ha p (by simp))).1 t h.1).2.1, iha b (fun q hq => ha q (by simp [hq])) h.2⟩
        exact this _ _ (fun p h => h) (by rw [hzs, List.map_map]; rfl)
      have hV : ∀ t ∈ zs.map (·.1), t.V := fun t ht => by
        have : some t ∈ ps.map (buildF ts) := by
          rw [hzs]
          obtain ⟨z, hz, rfl⟩ := List.mem_map.1 ht
          exact List.mem_map.2 ⟨z, hz, rfl⟩
        obtain ⟨p, hp, e⟩ := List.mem_map.1 this
        exact ((hspec p hp).1 t e).1
      have hdis : (zs.map (·.1)).Pairwise fun t u => t.set &&& u.set = 0 := by
        have := Ps.dis
        rw [← hsets, List.pairwise_map] at this
        exact this
      have hM := isort_unique first m1.symm (pw_first hV hdis) m2
      rcases m4 with rfl | ⟨_, rfl⟩
      · have := m1.length_eq
        simp at this
        omega
      · rw [hM, union_perm m1.symm]
        simp only [tuple, Frame.get, if_true]
        refine TreeAt.keep (fun _ _ => rfl) (fun j hj => ?_) _ _ m3
        rcases hj with hj | rfl
        · omega
        · have := L3.2.1.lt hk2
          omega
end Gc
end
section
/- Contracts: Build, the number of ones, Knot, Joined. -/
set_option linter.unusedVariables false
set_option linter.unusedSimpArgs false
namespace Gc
variable {E : Env} {base kept : Nat} {h : Heap}
theorem Tr.V.ok {t : Tr} (v : t.V) : t.Ok := by
  induction v with
  | @leaf d h => exact .leaf (Tr.V.leaf h).ne (Tr.V.leaf h).lt
  | @node l hl h2 hd hs ih =>
    refine .node ih ?_ (few_parts hs)
    have := (Tr.V.node hl h2 hd hs).text_short
    simp only [Tr.text, List.length_append, List.length_singleton] at this
    omega
def natT (t : I3) : T3 := (t.1.toNat, t.2.1.toNat, t.2.2.toNat)
theorem natT_toI {x : T3} : natT (toI x) = x := by simp [natT, toI]
theorem natT_map {l : List T3} : (l.map toI).map natT = l := by
  rw [List.map_map]
  have : natT ∘ toI = id := by funext x; exact natT_toI
  rw [this, List.map_id]
def askedErr (n : Int) (ts : List I3) : Int := if 1 ≤ n ∧ n ≤ 8 then listErr n ts else 2
theorem listErr_ok {n : Int} {ts : List I3} : listErr n ts = 0 ↔ ts.length ≤ 60 ∧ ts.all (isTriple n) = true := by
  unfold listErr
  constructor
  · intro h
    split at h
    · cases h
    · split at h
      · exact ⟨by omega, by assumption⟩
      · cases h
  · rintro ⟨h1, h2⟩
    rw [if_neg (by omega), if_pos h2]
/-- Where there is no error: the triples as triples of beasts. -/
theorem askedErr_ok {n : Int} {ts : List I3} (h : askedErr n ts = 0) : ∃ m : Nat, n = m ∧ 1 ≤ m ∧ m ≤ 8 ∧ ts.length ≤ 60 ∧ ts = (ts.map natT).map toI ∧ ∀ x ∈ ts.map natT, okT m x := by
  unfold askedErr at h
  split at h
  case isFalse => cases h
  rename_i hn
  obtain ⟨m, rfl⟩ : ∃ m : Nat, n = m := ⟨n.toNat, by omega⟩
  obtain ⟨h1, h2⟩ := listErr_ok.1 h
  obtain ⟨l, rfl, hl⟩ := all_nat h2
  refine ⟨m, rfl, by omega, by omega, h1, by rw [natT_map], by rw [natT_map]; exact hl⟩
/-- What Build returns. -/
noncomputable def buildR (n : Int) (ts : List I3) : List UInt8 × Int :=
  if askedErr n ts ≠ 0 then ([], askedErr n ts) else
    match buildF (ts.map natT) (2 ^ n.toNat - 1) with
    | some t => (t.text, 0)
    | none => ([], 10)
def needBuildF : List Nat := [F.breed_Build, F.breed_asked, F.breed_remembered, F.breed_herd] ++ needText ++ needBuild
theorem Build_run {l : List Nat} (hE : E.Has tabs05 l) (hf : ∀ f ∈ needBuildF, f ∈ l) (w : h.Wf) (tb : Tables h) (h2s : 2 ≤ h.size) {n : Int} {v : Val} {ts : List I3} (ht : TriplesAt h v ts) (hlen : ts.length < 2 ^ 60) :
    CallV E h.size F.breed_Build [.int .i64 n, v] h fun r h' => r = .tup [.str (buildR n ts).1, .int .i64 (buildR n ts).2] ∧ Left' h h' := by
  refine c_begin hE (hf _ (by decide)) rfl (by decide) (by decide) ?_
  simp only [T.breed_Build, Frame.enterFrom, Nat.zero_add, Nat.reduceAdd]
  repeat' (first | (apply o_op; (solve | (conv => lhs; simp (disch := first | omega | (simp only [Val.cells, List.all_cons, List.all_nil, Val.one, Bool.and_self])) only [zev, zex, Val.one, List.length_cons, List.length_nil, Nat.reduceAdd, Option.map_some, Option.map_none, List.map_cons, List.map_nil, zva, ↓reduceIte, Nat.reduceEqDiff])); (solve | (conv => lhs; simp only [zfr, Nat.reduceEqDiff, Nat.reduceLT, ↓reduceIte]))) | (apply o_yes; (solve | (conv => lhs; simp only [zva, ↓reduceIte, Nat.reduceEqDiff])); (solve | rfl)) | (apply o_no; (solve | (conv => lhs; simp only [zva, ↓reduceIte, Nat.reduceEqDiff])); (solve | decide); (solve | (conv => lhs; simp only [zfr, Nat.reduceEqDiff, Nat.reduceLT, ↓reduceIte]))) | (apply o_not; (solve | (conv => lhs; simp only [zva, ↓reduceIte, Nat.reduceEqDiff])); (solve | (conv => lhs; simp only [zfr, Nat.reduceEqDiff, Nat.reduceLT, ↓reduceIte]))) | (apply o_if; (solve | (conv => lhs; simp only [zva, ↓reduceIte, Nat.reduceEqDiff])); (solve | (intro hbb; conv => lhs; simp (disch := first | omega | (simp only [Val.cells, List.all_cons, List.all_nil, Val.one, Bool.and_self])) only [zev, zex, Val.one, List.length_cons, List.length_nil, Nat.reduceAdd, Option.map_some, Option.map_none, List.map_cons, List.map_nil, zva, ↓reduceIte, Nat.reduceEqDiff, hbb])); (solve | (conv => lhs; simp only [zfr, Nat.reduceEqDiff, Nat.reduceLT, ↓reduceIte]))) | (apply o_end; (solve | (conv => lhs; simp only [zdr, inl, Nat.reduceEqDiff, or_false, or_true, ↓reduceIte]))) | apply g_seq | apply g_region | apply g_next | apply g_block | apply g_out | (apply g_true; (solve | (conv => lhs; simp only [zva, ↓reduceIte, Nat.reduceEqDiff]))) | (apply g_false; (solve | (conv => lhs; simp only [zva, ↓reduceIte, Nat.reduceEqDiff]))) | apply g_here | (apply g_past; (solve | decide)) | apply g_exit | apply g_retc | apply g_retb | apply g_ret | apply g_done)
  (apply o_call; (solve | (conv => lhs; simp only [Callee.find, List.map_cons, List.map_nil, List.cons_append, List.nil_append, zva, ↓reduceIte, Nat.reduceEqDiff])))
  · exact asked_run hE (fun f hf' => hf f (by revert f; decide)) w ht hlen
  rintro _ h2 ⟨rfl, L2⟩
  (conv => arg 8; simp only [zfr, Nat.reduceEqDiff, Nat.reduceLT, ↓reduceIte])
  rw [show (if 1 ≤ n ∧ n ≤ 8 then listErr n ts else 2) = askedErr n ts from rfl]
  by_cases e0 : askedErr n ts = 0
  · have e1 : (askedErr n ts != 0) = false := by simp [e0]
    obtain ⟨m, rfl, hm1, hm8, hl60, hts, hok⟩ := askedErr_ok e0
    obtain ⟨hp1, hp2⟩ := pow_le hm8
    have hp3 : 2 ≤ 2 ^ m := by
      have := Nat.pow_le_pow_right (n := 2) (by omega) hm1
      simpa using this
    have bsh : binOp .plain .shl (.int .i64 1) (.int .i64 (m : Int)) = some (.int .i64 ((2 ^ m : Nat) : Int)) := b_shl1 (by omega)
    have hres : buildR m ts = match buildF (ts.map natT) (2 ^ m - 1) with | some t => (t.text, 0) | none => ([], 10) := by simp [buildR, e0]
    rw [hres]
    generalize 2 ^ m = pm at hp1 hp2 hp3 bsh
    have ecast : ((pm : Int) - 1) = ((pm - 1 : Nat) : Int) := by omega
    have ht2 := ht.left w L2
    rw [hts] at ht2
    repeat' (first | (apply o_op; (solve | (conv => lhs; simp (disch := first | omega | (simp only [Val.cells, List.all_cons, List.all_nil, Val.one, Bool.and_self])) only [zev, zex, Val.one, List.length_cons, List.length_nil, Nat.reduceAdd, Option.map_some, Option.map_none, List.map_cons, List.map_nil, zva, ↓reduceIte, Nat.reduceEqDiff, e1, bsh])); (solve | (conv => lhs; simp only [zfr, Nat.reduceEqDiff, Nat.reduceLT, ↓reduceIte]))) | (apply o_yes; (solve | (conv => lhs; simp only [zva, ↓reduceIte, Nat.reduceEqDiff, e1, bsh])); (solve | rfl)) | (apply o_no; (solve | (conv => lhs; simp only [zva, ↓reduceIte, Nat.reduceEqDiff, e1, bsh])); (solve | decide); (solve | (conv => lhs; simp only [zfr, Nat.reduceEqDiff, Nat.reduceLT, ↓reduceIte]))) | (apply o_not; (solve | (conv => lhs; simp only [zva, ↓reduceIte, Nat.reduceEqDiff])); (solve | (conv => lhs; simp only [zfr, Nat.reduceEqDiff, Nat.reduceLT, ↓reduceIte]))) | (apply o_if; (solve | (conv => lhs; simp only [zva, ↓reduceIte, Nat.reduceEqDiff])); (solve | (intro hbb; conv => lhs; simp (disch := first | omega | (simp only [Val.cells, List.all_cons, List.all_nil, Val.one, Bool.and_self])) only [zev, zex, Val.one, List.length_cons, List.length_nil, Nat.reduceAdd, Option.map_some, Option.map_none, List.map_cons, List.map_nil, zva, ↓reduceIte, Nat.reduceEqDiff, hbb, e1, bsh])); (solve | (conv => lhs; simp only [zfr, Nat.reduceEqDiff, Nat.reduceLT, ↓reduceIte]))) | (apply o_end; (solve | (conv => lhs; simp only [zdr, inl, Nat.reduceEqDiff, or_false, or_true, ↓reduceIte]))) | apply g_seq | apply g_region | apply g_next | apply g_block | apply g_out | (apply g_true; (solve | (conv => lhs; simp only [zva, ↓reduceIte, Nat.reduceEqDiff, e1, bsh]))) | (apply g_false; (solve | (conv => lhs; simp only [zva, ↓reduceIte, Nat.reduceEqDiff, e1, bsh]))) | apply g_here | (apply g_past; (solve | decide)) | apply g_exit | apply g_retc | apply g_retb | apply g_ret | apply g_done)
    rw [ecast]
    (apply o_call; (solve | (conv => lhs; simp only [Callee.find, List.map_cons, List.map_nil, List.cons_append, List.nil_append, zva, ↓reduceIte, Nat.reduceEqDiff])))
    · exact (build_run hE (fun f hf' => hf f (by simp only [needBuildF, List.mem_append]; exact .inr hf')) hm8 hok (by simp; omega) 256 (pm - 1) h2 v (by omega) (by omega) (by omega) L2.2.1 (tb.keep w L2.1) (by have := L2.2.2; omega) ht2).lower (show h.size ≤ h2.size from L2.2.2)
    rintro x h3 ⟨L3, p⟩
    (conv => arg 8; simp only [zfr, Nat.reduceEqDiff, Nat.reduceLT, ↓reduceIte])
    have L23 := L2.trans L3
    cases hb : buildF (ts.map natT) (pm - 1) with
    | none =>
      rw [hb] at p
      subst p
      repeat' (first | (apply o_op; (solve | (conv => lhs; simp (disch := first | omega | (simp only [Val.cells, List.all_cons, List.all_nil, Val.one, Bool.and_self])) only [zev, zex, Val.one, List.length_cons, List.length_nil, Nat.reduceAdd, Option.map_some, Option.map_none, List.map_cons, List.map_nil, zva, ↓reduceIte, Nat.reduceEqDiff])); (solve | (conv => lhs; simp only [zfr, Nat.reduceEqDiff, Nat.reduceLT, ↓reduceIte]))) | (apply o_yes; (solve | (conv => lhs; simp only [zva, ↓reduceIte, Nat.reduceEqDiff])); (solve | rfl)) | (apply o_no; (solve | (conv => lhs; simp only [zva, ↓reduceIte, Nat.reduceEqDiff])); (solve | decide); (solve | (conv => lhs; simp only [zfr, Nat.reduceEqDiff, Nat.reduceLT, ↓reduceIte]))) | (apply o_not; (solve | (conv => lhs; simp only [zva, ↓reduceIte, Nat.reduceEqDiff])); (solve | (conv => lhs; simp only [zfr, Nat.reduceEqDiff, Nat.reduceLT, ↓reduceIte]))) | (apply o_if; (solve | (conv => lhs; simp only [zva, ↓reduceIte, Nat.reduceEqDiff])); (solve | (intro hbb; conv => lhs; simp (disch := first | omega | (simp only [Val.cells, List.all_cons, List.all_nil, Val.one, Bool.and_self])) only [zev, zex, Val.one, List.length_cons, List.length_nil, Nat.reduceAdd, Option.map_some, Option.map_none, List.map_cons, List.map_nil, zva, ↓reduceIte, Nat.reduceEqDiff, hbb])); (solve | (conv => lhs; simp only [zfr, Nat.reduceEqDiff, Nat.reduceLT, ↓reduceIte]))) | (apply o_end; (solve | (conv => lhs; simp only [zdr, inl, Nat.reduceEqDiff, or_false, or_true, ↓reduceIte]))) | apply g_seq | apply g_region | apply g_next | apply g_block | apply g_out | (apply g_true; (solve | (conv => lhs; simp only [zva, ↓reduceIte, Nat.reduceEqDiff]))) | (apply g_false; (solve | (conv => lhs; simp only [zva, ↓reduceIte, Nat.reduceEqDiff]))) | apply g_here | (apply g_past; (solve | decide)) | apply g_exit | apply g_retc | apply g_retb | apply g_ret | apply g_done)
      exact ⟨.inr rfl, _, rfl, rfl, L23⟩
    | some t =>
      rw [hb] at p
      obtain ⟨tv, _⟩ := (buildF_spec (l := ts.map natT) (fun x hx => (hok x hx).ne) (s := pm - 1) (by omega) (by omega)).1 t hb
      have p' := p
      obtain ⟨ty, cs, rfl, hty⟩ := TreeAt.iface p
      repeat' (first | (apply o_op; (solve | (conv => lhs; simp (disch := first | omega | (simp only [Val.cells, List.all_cons, List.all_nil, Val.one, Bool.and_self])) only [zev, zex, Val.one, List.length_cons, List.length_nil, Nat.reduceAdd, Option.map_some, Option.map_none, List.map_cons, List.map_nil, zva, ↓reduceIte, Nat.reduceEqDiff])); (solve | (conv => lhs; simp only [zfr, Nat.reduceEqDiff, Nat.reduceLT, ↓reduceIte]))) | (apply o_yes; (solve | (conv => lhs; simp only [zva, ↓reduceIte, Nat.reduceEqDiff])); (solve | rfl)) | (apply o_no; (solve | (conv => lhs; simp only [zva, ↓reduceIte, Nat.reduceEqDiff])); (solve | decide); (solve | (conv => lhs; simp only [zfr, Nat.reduceEqDiff, Nat.reduceLT, ↓reduceIte]))) | (apply o_not; (solve | (conv => lhs; simp only [zva, ↓reduceIte, Nat.reduceEqDiff])); (solve | (conv => lhs; simp only [zfr, Nat.reduceEqDiff, Nat.reduceLT, ↓reduceIte]))) | (apply o_if; (solve | (conv => lhs; simp only [zva, ↓reduceIte, Nat.reduceEqDiff])); (solve | (intro hbb; conv => lhs; simp (disch := first | omega | (simp only [Val.cells, List.all_cons, List.all_nil, Val.one, Bool.and_self])) only [zev, zex, Val.one, List.length_cons, List.length_nil, Nat.reduceAdd, Option.map_some, Option.map_none, List.map_cons, List.map_nil, zva, ↓reduceIte, Nat.reduceEqDiff, hbb])); (solve | (conv => lhs; simp only [zfr, Nat.reduceEqDiff, Nat.reduceLT, ↓reduceIte]))) | (apply o_end; (solve | (conv => lhs; simp only [zdr, inl, Nat.reduceEqDiff, or_false, or_true, ↓reduceIte]))) | apply g_seq | apply g_region | apply g_next | apply g_block | apply g_out | (apply g_true; (solve | (conv => lhs; simp only [zva, ↓reduceIte, Nat.reduceEqDiff]))) | (apply g_false; (solve | (conv => lhs; simp only [zva, ↓reduceIte, Nat.reduceEqDiff]))) | apply g_here | (apply g_past; (solve | decide)) | apply g_exit | apply g_retc | apply g_retb | apply g_ret | apply g_done)
      refine o_text (textOk hE (fun f hf' => hf f (by simp only [needBuildF, List.mem_append]; exact .inl (.inr hf'))) tv.ok) L3.2.1 L23.2.2 (tb.keep w L23.1) (by simp only [zva, ↓reduceIte, Nat.reduceEqDiff]) p' (fun j hj => hj.2) fun h4 L4 => ?_
      (conv => arg 8; simp only [zfr, Nat.reduceEqDiff, Nat.reduceLT, ↓reduceIte])
      repeat' (first | (apply o_op; (solve | (conv => lhs; simp (disch := first | omega | (simp only [Val.cells, List.all_cons, List.all_nil, Val.one, Bool.and_self])) only [zev, zex, Val.one, List.length_cons, List.length_nil, Nat.reduceAdd, Option.map_some, Option.map_none, List.map_cons, List.map_nil, zva, ↓reduceIte, Nat.reduceEqDiff])); (solve | (conv => lhs; simp only [zfr, Nat.reduceEqDiff, Nat.reduceLT, ↓reduceIte]))) | (apply o_yes; (solve | (conv => lhs; simp only [zva, ↓reduceIte, Nat.reduceEqDiff])); (solve | rfl)) | (apply o_no; (solve | (conv => lhs; simp only [zva, ↓reduceIte, Nat.reduceEqDiff])); (solve | decide); (solve | (conv => lhs; simp only [zfr, Nat.reduceEqDiff, Nat.reduceLT, ↓reduceIte]))) | (apply o_not; (solve | (conv => lhs; simp only [zva, ↓reduceIte, Nat.reduceEqDiff])); (solve | (conv => lhs; simp only [zfr, Nat.reduceEqDiff, Nat.reduceLT, ↓reduceIte]))) | (apply o_if; (solve | (conv => lhs; simp only [zva, ↓reduceIte, Nat.reduceEqDiff])); (solve | (intro hbb; conv => lhs; simp (disch := first | omega | (simp only [Val.cells, List.all_cons, List.all_nil, Val.one, Bool.and_self])) only [zev, zex, Val.one, List.length_cons, List.length_nil, Nat.reduceAdd, Option.map_some, Option.map_none, List.map_cons, List.map_nil, zva, ↓reduceIte, Nat.reduceEqDiff, hbb])); (solve | (conv => lhs; simp only [zfr, Nat.reduceEqDiff, Nat.reduceLT, ↓reduceIte]))) | (apply o_end; (solve | (conv => lhs; simp only [zdr, inl, Nat.reduceEqDiff, or_false, or_true, ↓reduceIte]))) | apply g_seq | apply g_region | apply g_next | apply g_block | apply g_out | (apply g_true; (solve | (conv => lhs; simp only [zva, ↓reduceIte, Nat.reduceEqDiff]))) | (apply g_false; (solve | (conv => lhs; simp only [zva, ↓reduceIte, Nat.reduceEqDiff]))) | apply g_here | (apply g_past; (solve | decide)) | apply g_exit | apply g_retc | apply g_retb | apply g_ret | apply g_done)
      exact ⟨.inr rfl, _, rfl, rfl, L23.trans L4⟩
  · have e1 : (askedErr n ts != 0) = true := by simp [e0]
    repeat' (first | (apply o_op; (solve | (conv => lhs; simp (disch := first | omega | (simp only [Val.cells, List.all_cons, List.all_nil, Val.one, Bool.and_self])) only [zev, zex, Val.one, List.length_cons, List.length_nil, Nat.reduceAdd, Option.map_some, Option.map_none, List.map_cons, List.map_nil, zva, ↓reduceIte, Nat.reduceEqDiff, e1])); (solve | (conv => lhs; simp only [zfr, Nat.reduceEqDiff, Nat.reduceLT, ↓reduceIte]))) | (apply o_yes; (solve | (conv => lhs; simp only [zva, ↓reduceIte, Nat.reduceEqDiff, e1])); (solve | rfl)) | (apply o_no; (solve | (conv => lhs; simp only [zva, ↓reduceIte, Nat.reduceEqDiff, e1])); (solve | decide); (solve | (conv => lhs; simp only [zfr, Nat.reduceEqDiff, Nat.reduceLT, ↓reduceIte]))) | (apply o_not; (solve | (conv => lhs; simp only [zva, ↓reduceIte, Nat.reduceEqDiff])); (solve | (conv => lhs; simp only [zfr, Nat.reduceEqDiff, Nat.reduceLT, ↓reduceIte]))) | (apply o_if; (solve | (conv => lhs; simp only [zva, ↓reduceIte, Nat.reduceEqDiff])); (solve | (intro hbb; conv => lhs; simp (disch := first | omega | (simp only [Val.cells, List.all_cons, List.all_nil, Val.one, Bool.and_self])) only [zev, zex, Val.one, List.length_cons, List.length_nil, Nat.reduceAdd, Option.map_some, Option.map_none, List.map_cons, List.map_nil, zva, ↓reduceIte, Nat.reduceEqDiff, hbb, e1])); (solve | (conv => lhs; simp only [zfr, Nat.reduceEqDiff, Nat.reduceLT, ↓reduceIte]))) | (apply o_end; (solve | (conv => lhs; simp only [zdr, inl, Nat.reduceEqDiff, or_false, or_true, ↓reduceIte]))) | apply g_seq | apply g_region | apply g_next | apply g_block | apply g_out | (apply g_true; (solve | (conv => lhs; simp only [zva, ↓reduceIte, Nat.reduceEqDiff, e1]))) | (apply g_false; (solve | (conv => lhs; simp only [zva, ↓reduceIte, Nat.reduceEqDiff, e1]))) | apply g_here | (apply g_past; (solve | decide)) | apply g_exit | apply g_retc | apply g_retb | apply g_ret | apply g_done)
    exact ⟨.inr rfl, _, rfl, by simp [tuple, Frame.get, buildR, e0], L2⟩
end Gc
end
section
/- Contracts: with, Closure. -/
set_option linter.unusedVariables false
set_option linter.unusedSimpArgs false
namespace Gc
variable {E : Env} {base kept : Nat} {h : Heap}
/-- A slice of triples whose block is known. -/
def TripsOk (h : Heap) (v : Val) (l : List I3) : Prop :=
  (v = .nils ∧ l = []) ∨ ∃ k o c b, v = .slice k o l.length c ∧ h.get k = some b ∧ o + l.length * 3 ≤ b.cells.length ∧ (b.cells.drop o).take (l.length * 3) = cells3 l ∧ (c = none → b.rw = true ∧ b.esz = 3) ∧ (∀ c', c = some c' → l.length ≤ c')
theorem TripsOk.at {h : Heap} {v : Val} {l : List I3} (t : TripsOk h v l) : TriplesAt h v l := by
  rcases t with ⟨rfl, rfl⟩ | ⟨k, o, c, b, rfl, h1, h2, h3, _⟩
  · exact ⟨by simp, rfl⟩
  · exact ⟨by simp, by rw [spread_slice h1 h2, h3]⟩
theorem TripsOk.keep {P : Nat → Prop} {h h' : Heap} {v : Val} {l : List I3} (t : TripsOk h v l) (hb : v.blkIn P ∨ True) (hk : ∀ k b, h.get k = some b → v.apart k ∨ h'.get k = some b) (hk' : ∀ k o n c b, v = .slice k o n c → h.get k = some b → h'.get k = some b) : TripsOk h' v l := by
  rcases t with ⟨rfl, rfl⟩ | ⟨k, o, c, b, rfl, h1, h2⟩
  · exact .inl ⟨rfl, rfl⟩
  · exact .inr ⟨k, o, c, b, rfl, hk' k o _ c b rfl h1, h2⟩
theorem TripsOk.left {h h' : Heap} {v : Val} {l : List I3} (t : TripsOk h v l) (w : h.Wf) (L : Left' h h') : TripsOk h' v l := by
  rcases t with ⟨rfl, rfl⟩ | ⟨k, o, c, b, rfl, h1, h2⟩
  · exact .inl ⟨rfl, rfl⟩
  · exact .inr ⟨k, o, c, b, rfl, by rw [L.1 k (w.lt h1)]; exact h1, h2⟩
theorem TripsOk.keepN {N : Nat} {h h' : Heap} {v : Val} {l : List I3} (t : TripsOk h v l) (w : h.Wf) (hN : h.size ≤ N) (k : Keep (· < N) h h') : TripsOk h' v l := by
  rcases t with ⟨rfl, rfl⟩ | ⟨q, o, c, b, rfl, h1, h2⟩
  · exact .inl ⟨rfl, rfl⟩
  · exact .inr ⟨q, o, c, b, rfl, by rw [k q (Nat.lt_of_lt_of_le (w.lt h1) hN)]; exact h1, h2⟩
end Gc
end
section
/- Contracts: the reader of the specification. -/
set_option linter.unusedVariables false
set_option linter.unusedSimpArgs false
namespace Gc
variable {E : Env} {base kept : Nat} {h : Heap}
/-- The list of parts that the specification's reader has. -/
def RListAt (N : Nat) (h : Heap) (v : Val) (acc : List Tr) : Prop :=
  (v = .nils ∧ acc = []) ∨ ∃ k ds, v = .slice k 0 acc.length none ∧ N ≤ k ∧ h.get k = some ⟨ds, true, 2⟩ ∧ ds.length = acc.length * 2 ∧ ds.all Val.one = true ∧ RsAt (fun j => N ≤ j ∧ j < h.size ∧ j ≠ k) h acc ds
theorem RsAt.length {P : Nat → Prop} {h : Heap} : ∀ {l : List Tr} {ds : List Val}, RsAt P h l ds → ds.length = l.length * 2
  | [], ds, e => by simp only [RsAt] at e; simp [e]
  | t :: l, ds, e => by
    simp only [RsAt] at e
    obtain ⟨a, b, r, rfl, _, e⟩ := e
    simp [e.length]
    omega
theorem RsAt.one {P : Nat → Prop} {h : Heap} : ∀ {l : List Tr} {ds : List Val}, RsAt P h l ds → ds.all Val.one = true
  | [], ds, e => by simp only [RsAt] at e; simp [e]
  | t :: l, ds, e => by
    simp only [RsAt] at e
    obtain ⟨a, b, r, rfl, e1, e⟩ := e
    simp [e.one, e1.one]
theorem RsAt.snoc {P : Nat → Prop} {h : Heap} {t : Tr} {a b : Val} (ht : RAt P h t a b) : ∀ {l : List Tr} {ds : List Val}, RsAt P h l ds → RsAt P h (l ++ [t]) (ds ++ [a, b])
  | [], ds, e => by
    simp only [RsAt] at e
    subst e
    exact ⟨a, b, [], rfl, ht, rfl⟩
  | u :: l, ds, e => by
    simp only [RsAt] at e
    obtain ⟨x, y, r, rfl, e1, e⟩ := e
    exact ⟨x, y, r ++ [a, b], rfl, e1, RsAt.snoc ht e⟩
theorem RListAt.acc {N b : Nat} {h : Heap} {v : Val} {acc : List Tr} (a : RListAt N h v acc) (hb : b ≤ N) : ∃ ds, Acc b h 2 v acc.length ds ∧ (∀ P : Nat → Prop, (∀ j, N ≤ j ∧ j < h.size ∧ v.apart j → P j) → RsAt P h acc ds) := by
  rcases a with ⟨rfl, rfl⟩ | ⟨k, ds, rfl, h1, h2, h3, h4, h5⟩
  · exact ⟨[], Acc.nil, fun P _ => rfl⟩
  · exact ⟨ds, ⟨h3, h4, .inr ⟨k, rfl, by omega, h2⟩⟩, fun P hP => RsAt.keep (fun _ _ => rfl) (fun j hj => hP j hj) _ _ h5⟩
theorem RListAt.keep {N : Nat} {h h' : Heap} {v : Val} {acc : List Tr} (a : RListAt N h v acc) (w : h.Wf) (hk : ∀ j, N ≤ j → j < h.size → h'.get j = h.get j) (hs : h.size ≤ h'.size) : RListAt N h' v acc := by
  rcases a with ⟨rfl, rfl⟩ | ⟨k, ds, rfl, h1, h2, h3, h4, h5⟩
  · exact .inl ⟨rfl, rfl⟩
  · exact .inr ⟨k, ds, rfl, h1, by rw [hk k h1 (w.lt h2)]; exact h2, h3, h4, RsAt.keep (fun j hj => hk j hj.1 hj.2.1) (fun j hj => ⟨hj.1, Nat.lt_of_lt_of_le hj.2.1 hs, hj.2.2⟩) _ _ h5⟩
theorem RListAt.snoc {N : Nat} {h2 : Heap} {v a b : Val} {acc : List Tr} {t : Tr} {P : Nat → Prop} (A : RListAt N h2 v acc) (hN : N ≤ h2.size) (w : h2.Wf) (hb : base ≤ N) (hP : ∀ j, P j → N ≤ j ∧ j < h2.size ∧ v.apart j) (ht : RAt P h2 t a b) (hl : acc.length ≤ 1000) :
    ∃ h' k, appendV (h2.push (some ⟨[a, b], true, 2⟩)) base 2 32 none v (.slice h2.size 0 1 (some 1)) = some (.slice k 0 (acc.length + 1) none, h') ∧ RListAt N h' (.slice k 0 (acc.length + 1) none) (acc ++ [t]) ∧ h'.Wf ∧ h2.size < k ∧ k < h'.size ∧ (∀ j, j < N → h'.get j = h2.get j) := by
  obtain ⟨o1, o2⟩ := ht.one
  obtain ⟨ds, A1, A2⟩ := A.acc hb
  obtain ⟨h', k, a1, a2, a3, a4, a5, a6, a7, a8⟩ := append_own (bytes := 32) (x := [a, b]) w (Nat.le_trans hb hN) A1 rfl (by simp [o1, o2]) (by omega) (by omega) (by unfold maxRoom; omega)
  have hR : RsAt (fun j => N ≤ j ∧ j < h2.size ∧ v.apart j) h2 (acc ++ [t]) (ds ++ [a, b]) := RsAt.snoc (RAt.keep (fun _ _ => rfl) hP _ _ _ ht) (A2 _ fun j hj => hj)
  refine ⟨h', k, a1, .inr ⟨k, ds ++ [a, b], by simp, by omega, a2, by simpa using a3, a4, RsAt.keep (fun j hj => a8 j hj.2.1 hj.2.2) (fun j hj => ⟨hj.1, by have := hj.2.1; omega, by have := hj.2.1; omega⟩) _ _ hR⟩, a5, a6, a7, fun j hj => a8 j (by omega) ?_⟩
  rcases A with ⟨rfl, rfl⟩ | ⟨q, ds', rfl, b1, _⟩
  · trivial
  · simp only [Val.apart]; omega
end Gc
end
section
/- Contracts: the specification's trees and Shows; the statements' helpers. -/
set_option linter.unusedVariables false
set_option linter.unusedSimpArgs false
namespace Gc
variable {E : Env} {base kept : Nat} {h : Heap}
/-! ### Helpers of the statements -/
theorem few_run {l : List Nat} (hE : E.Has tabs05 l) (hf : F.law05_few ∈ l) {v : Val} {ts : List I3} (ht : TriplesAt h v ts) {s : List UInt8} :
    CallV E base F.law05_few [v, .str s] h fun r h' => r = .bool (decide (ts.length ≤ 100) && decide (s.length ≤ 100)) ∧ h' = h := by
  refine c_begin hE hf rfl (by decide) (by decide) ?_
  simp only [T.law05_few, Frame.enterFrom, Nat.zero_add, Nat.reduceAdd]
  have e1 := ht.len
  repeat' (first | (apply o_op; (solve | (conv => lhs; simp (disch := first | omega | (simp only [Val.cells, List.all_cons, List.all_nil, Val.one, Bool.and_self])) only [zev, zex, Val.one, List.length_cons, List.length_nil, Nat.reduceAdd, Option.map_some, Option.map_none, List.map_cons, List.map_nil, zva, ↓reduceIte, Nat.reduceEqDiff, e1])); (solve | (conv => lhs; simp only [zfr, Nat.reduceEqDiff, Nat.reduceLT, ↓reduceIte]))) | (apply o_yes; (solve | (conv => lhs; simp only [zva, ↓reduceIte, Nat.reduceEqDiff, e1])); (solve | rfl)) | (apply o_no; (solve | (conv => lhs; simp only [zva, ↓reduceIte, Nat.reduceEqDiff, e1])); (solve | decide); (solve | (conv => lhs; simp only [zfr, Nat.reduceEqDiff, Nat.reduceLT, ↓reduceIte]))) | (apply o_not; (solve | (conv => lhs; simp only [zva, ↓reduceIte, Nat.reduceEqDiff])); (solve | (conv => lhs; simp only [zfr, Nat.reduceEqDiff, Nat.reduceLT, ↓reduceIte]))) | (apply o_if; (solve | (conv => lhs; simp only [zva, ↓reduceIte, Nat.reduceEqDiff])); (solve | (intro hbb; conv => lhs; simp (disch := first | omega | (simp only [Val.cells, List.all_cons, List.all_nil, Val.one, Bool.and_self])) only [zev, zex, Val.one, List.length_cons, List.length_nil, Nat.reduceAdd, Option.map_some, Option.map_none, List.map_cons, List.map_nil, zva, ↓reduceIte, Nat.reduceEqDiff, hbb, e1])); (solve | (conv => lhs; simp only [zfr, Nat.reduceEqDiff, Nat.reduceLT, ↓reduceIte]))) | (apply o_end; (solve | (conv => lhs; simp only [zdr, inl, Nat.reduceEqDiff, or_false, or_true, ↓reduceIte]))) | apply g_seq | apply g_region | apply g_next | apply g_block | apply g_out | (apply g_true; (solve | (conv => lhs; simp only [zva, ↓reduceIte, Nat.reduceEqDiff, e1]))) | (apply g_false; (solve | (conv => lhs; simp only [zva, ↓reduceIte, Nat.reduceEqDiff, e1]))) | apply g_here | (apply g_past; (solve | decide)) | apply g_exit | apply g_retc | apply g_retb | apply g_ret | apply g_done)
  refine ⟨.inr rfl, _, rfl, ?_, rfl⟩
  simp only [tuple, Frame.get, if_true]
  congr 2
  · by_cases hh : ts.length ≤ 100
    · rw [decide_eq_true hh, decide_eq_true (by omega)]
    · rw [decide_eq_false hh, decide_eq_false (by omega)]
  · by_cases hh : s.length ≤ 100
    · rw [decide_eq_true hh, decide_eq_true (by omega)]
    · rw [decide_eq_false hh, decide_eq_false (by omega)]
theorem isBytes_self : ∀ l : List Nat, isBytes (bytesOf l) l = true
  | [] => rfl
  | a :: l => by
    have := isBytes_self l
    simp only [bytesOf, List.map_cons, isBytes, beq_self_eq_true, Bool.true_and] at this ⊢
    exact this
theorem alive_run {l : List Nat} (hE : E.Has tabs05 l) (hf : F.law05_alive ∈ l) (tb : Tables h) : CallV E base F.law05_alive [] h fun r h' => r = .bool true ∧ h' = h := by
  refine c_told ?_ ⟨rfl, rfl⟩
  rw [(hE _ hf).2.1]
  obtain ⟨⟨b, hb, hb'⟩, ⟨c, hc, hc'⟩⟩ := tb
  have e1 : tabOk h 0 tab32 = true := by simp only [tabOk, hb, hb', isBytes_self]
  have e2 : tabOk h 1 tab64 = true := by simp only [tabOk, hc, hc', isBytes_self]
  simp only [tabs05, told05, e1, e2, List.isEmpty_nil, Bool.and_self, if_true]
  rw [if_neg (by decide)]
end Gc
end
section
/- The plain laws of Build, Shows and Knot: a tree is built just where some tree shows the triples. -/
set_option linter.unusedVariables false
set_option linter.unusedSimpArgs false
namespace Gc
theorem pow_sub_lt {m : Nat} (h : m ≤ 8) : 2 ^ m - 1 < 256 := by
  have h1 : 2 ^ m ≤ 2 ^ 8 := Nat.pow_le_pow_right (by omega) h
  have h2 : 0 < 2 ^ m := Nat.pow_pos (by omega)
  omega
theorem pow_sub_ne {m : Nat} (h : 1 ≤ m) : 2 ^ m - 1 ≠ 0 := by
  have h1 : 2 ^ 1 ≤ 2 ^ m := Nat.pow_le_pow_right (by omega) h
  omega
theorem inS_full {m : Nat} {x : T3} (h : okT m x) : InS (2 ^ m - 1) x := by
  obtain ⟨h1, h2, h3, h4, h5⟩ := h
  refine ⟨?_, ?_, ?_⟩ <;> rw [Nat.testBit_two_pow_sub_one] <;> simp <;> omega
theorem treeI_text {m : Nat} (h1 : 1 ≤ m) (h8 : m ≤ 8) {t : Tr} (v : t.V) (hs : t.set = 2 ^ m - 1) : treeI (m : Int) t.text = some t := by
  unfold treeI
  rw [if_pos (by omega)]
  exact (treeOf_iff (by simpa using h8)).2 ⟨v, by simpa using hs, rfl⟩
theorem showsI_iff {m : Nat} {t : Tr} (v : t.V) (hs : t.set = 2 ^ m - 1) {ts : List T3} (hok : ∀ x ∈ ts, okT m x) : (ts.map toI).all (showsI t) = true ↔ ∀ x ∈ ts, LShows t.cl x := by
  rw [List.all_eq_true]
  constructor
  · intro h x hx
    have := h (toI x) (List.mem_map_of_mem hx)
    rw [showsI_toI] at this
    exact (v.shows_iff (hs ▸ inS_full (hok x hx))).1 this
  · intro h y hy
    obtain ⟨x, hx, rfl⟩ := List.mem_map.1 hy
    rw [showsI_toI]
    exact (v.shows_iff (hs ▸ inS_full (hok x hx))).2 (h x hx)
/-- Build succeeds: its tree shows the triples. Build fails: no tree shows them. -/
theorem build_law {n : Int} {ts : List I3} (h : askedErr n ts = 0) :
    ((buildR n ts).2 = 0 ∧ ∃ t, treeI n (buildR n ts).1 = some t ∧ ts.all (showsI t) = true) ∨
    (buildR n ts = ([], 10) ∧ ∀ s t, treeI n s = some t → ts.all (showsI t) = false) := by
  obtain ⟨m, rfl, h1, h8, hlen, hts, hok⟩ := askedErr_ok h
  generalize hl : ts.map natT = l at hts hok
  have hne : ∀ x ∈ l, x.1 ≠ x.2.1 := fun x hx => by have := (hok x hx).1; omega
  have hsp := buildF_spec hne (pow_sub_ne h1) (pow_sub_lt h8)
  have hb : buildR (m : Int) ts = match buildF l (2 ^ m - 1) with | some t => (t.text, 0) | none => ([], 10) := by
    unfold buildR
    rw [if_neg (by simp [h]), hl]
    simp only [Int.toNat_natCast]
    all_goals rfl
  cases hf : buildF l (2 ^ m - 1) with
  | some t =>
    rw [hf] at hb
    obtain ⟨v, hs, hx, _⟩ := hsp.1 t hf
    refine .inl ⟨by rw [hb], t, by rw [hb]; exact treeI_text h1 h8 v hs, ?_⟩
    rw [hts]
    exact (showsI_iff v hs hok).2 fun x hx' => hx x hx' (inS_full (hok x hx'))
  | none =>
    rw [hf] at hb
    refine .inr ⟨hb, fun s t ht => ?_⟩
    rw [Bool.eq_false_iff]
    intro hall
    obtain ⟨v, hs, _, _, _⟩ := treeI_V ht
    have hs : t.set = 2 ^ m - 1 := by simpa using hs
    rw [hts] at hall
    exact hsp.2 hf (lam_good v.lam ((showsI_iff v hs hok).1 hall) _)
/-- Shows where nothing is wrong. -/
theorem showsR_ok {n : Int} {s : List UInt8} {ts : List I3} {t : Tr} (ht : treeI n s = some t) (h : listErr n ts = 0) : showsR n s ts = (ts.all (showsI t), 0) := by
  unfold showsR
  rw [if_neg (by rw [readErr_one.2 ⟨t, ht⟩]; simp), if_neg (by simp [h]), ht]
theorem showsR_read {n : Int} {s : List UInt8} {ts : List I3} (h : readErr n [s] ≠ 0) : showsR n s ts = (false, readErr n [s]) := by
  unfold showsR
  rw [if_pos h]
theorem asked_list {n : Int} {ts : List I3} (hn : 1 ≤ n ∧ n ≤ 8) : askedErr n ts = listErr n ts := by
  unfold askedErr
  rw [if_pos hn]
theorem list_add {n : Int} {ts : List I3} {m : I3} (h60 : ts.length < 60) (h : listErr n ts = 0) (hm : isTriple n m = true) : listErr n (ts ++ [m]) = 0 ∧ listErr n [m] = 0 := by
  obtain ⟨h1, h2⟩ := listErr_ok.1 h
  refine ⟨listErr_ok.2 ⟨by simp; omega, by simp [h2, hm]⟩, listErr_ok.2 ⟨by simp, by simp [hm]⟩⟩
/-- The law of More. -/
theorem more_law {n : Int} {ts : List I3} {m : I3} {s : List UInt8} (hn : 1 ≤ n ∧ n ≤ 8) (h60 : ts.length < 60) (h : listErr n ts = 0) (hm : isTriple n m = true) :
    ((buildR n (ts ++ [m])).2 = 0 → (buildR n ts).2 = 0 ∧ showsR n (buildR n (ts ++ [m])).1 ts = (true, 0)) ∧
    ((buildR n ts).2 = 0 → (showsR n (buildR n ts).1 [m]).2 = 0 ∧ ((showsR n (buildR n ts).1 [m]).1 = true → (buildR n (ts ++ [m])).2 = 0)) ∧
    (showsR n s (ts ++ [m])).2 = (showsR n s ts).2 ∧ ((showsR n s (ts ++ [m])).1 = true → (showsR n s ts).1 = true) := by
  obtain ⟨ha, h1⟩ := list_add h60 h hm
  have b := build_law (n := n) (ts := ts) (by rw [asked_list hn, h])
  have b' := build_law (n := n) (ts := ts ++ [m]) (by rw [asked_list hn, ha])
  refine ⟨fun h0 => ?_, fun h0 => ?_, ?_⟩
  · rcases b' with ⟨_, t, ht, hall⟩ | ⟨he, _⟩
    · rw [List.all_append, Bool.and_eq_true] at hall
      refine ⟨?_, by rw [showsR_ok ht h, hall.1]⟩
      rcases b with ⟨e, _⟩ | ⟨_, hno⟩
      · exact e
      · rw [hno _ t ht] at hall
        exact absurd hall.1 (by simp)
    · rw [he] at h0
      exact absurd h0 (by simp)
  · rcases b with ⟨_, t, ht, hall⟩ | ⟨he, _⟩
    · rw [showsR_ok ht h1]
      refine ⟨rfl, fun hs => ?_⟩
      rcases b' with ⟨e, _⟩ | ⟨_, hno⟩
      · exact e
      · have := hno _ t ht
        rw [List.all_append, hall, Bool.true_and] at this
        rw [this] at hs
        cases hs
    · rw [he] at h0
      exact absurd h0 (by simp)
  · by_cases hr : readErr n [s] = 0
    · obtain ⟨t, ht⟩ := readErr_one.1 hr
      rw [showsR_ok ht ha, showsR_ok ht h]
      refine ⟨rfl, fun hall => ?_⟩
      simp only [List.all_append, Bool.and_eq_true] at hall
      exact hall.1
    · rw [showsR_read hr, showsR_read hr]
      exact ⟨rfl, id⟩
end Gc
end
section
/- A copy of a list of triples and one more, as the statements make it. -/
set_option linter.unusedVariables false
set_option linter.unusedSimpArgs false
namespace Gc
variable {E : Env} {base kept : Nat} {h : Heap}
theorem lay_slot {H : Heap} {s : Nat} {b : Blk} (h1 : base ≤ s) (h2 : s < H.size) (h3 : H.has s = true) (h4 : H.get s = none) : H.lay base (some s) b = some (s, H.set s (some b)) := by
  simp only [Heap.lay]
  rw [if_pos ⟨h1, h2, h3, by rw [h4]; rfl⟩]
theorem res3_get (w : h.Wf) (k : Nat) : (h.reserve 3).get k = h.get k := by
  simp only [Heap.reserve, Heap.get_push, Heap.size_push]
  repeat' split
  all_goals first | rfl | (subst_vars; exact (w _ (by omega)).symm)
theorem res3_has (h : Heap) (i : Nat) (hi : i < 3) : (h.reserve 3).has (h.size + i) = true := by
  simp only [Heap.reserve, Heap.push, Heap.has, Heap.size]
  match i, hi with
  | 0, _ => simp
  | 1, _ => simp
  | 2, _ => simp
theorem own_more {v : Val} {ts : List I3} {m : I3} (w : h.Wf) (hb : base ≤ h.size) (ht : TriplesAt h v ts) (hl : ts.length ≤ 100) :
    ∃ hA sv2 hB hC k4 hD, buildSliceV (h.reserve 3) base (some h.size) 3 0 (fill [] []) = some (.slice h.size 0 0 (some 0), hA) ∧
      appendV hA base 3 24 (some (h.size + 1)) (.slice h.size 0 0 (some 0)) v = some (sv2, hB) ∧
      buildSliceV hB base (some (h.size + 2)) 3 1 (fill [.int .i64 0, .int .i64 0, .int .i64 0] [(0, 3, .agg (cell3 m))]) = some (.slice (h.size + 2) 0 1 (some 1), hC) ∧
      appendV hC base 3 24 none sv2 (.slice (h.size + 2) 0 1 (some 1)) = some (.slice k4 0 (ts.length + 1) none, hD) ∧ hD.get k4 = some ⟨cells3 (ts ++ [m]), true, 3⟩ ∧ Left' h hD := by
  have sR : (h.reserve 3).size = h.size + 3 := by simp [Heap.reserve]
  have wR : (h.reserve 3).Wf := fun k hk => by rw [res3_get w]; exact w k (by omega)
  have f2 : fill [Val.int .i64 0, .int .i64 0, .int .i64 0] [(0, 3, .agg (cell3 m))] = some (cell3 m) := rfl
  have c3 : (cell3 m).all Val.one = true := rfl
  have LA : Left' h ((h.reserve 3).set h.size (some ⟨[], true, 3⟩)) := by
    refine ⟨fun k hk => ?_, wf_set wR (by omega) _, by rw [Heap.size_set _ _ _ (by omega)]; omega⟩
    rw [get_set_ne (by omega), res3_get w]
  have hsp := (ht.left w LA).2
  have zA : ((h.reserve 3).set h.size (some ⟨[], true, 3⟩)).size = h.size + 3 := by rw [Heap.size_set _ _ _ (by omega), sR]
  have a1 : buildSliceV (h.reserve 3) base (some h.size) 3 0 (fill [] []) = some (.slice h.size 0 0 (some 0), (h.reserve 3).set h.size (some ⟨[], true, 3⟩)) := by
    have : fill [] [] = some [] := rfl
    rw [this]
    simp only [buildSliceV, List.all_nil, if_true]
    rw [lay_slot hb (by omega) (res3_has h 0 (by omega)) (by rw [res3_get w]; exact w _ (Nat.le_refl _))]
    rfl
  generalize hhA : (h.reserve 3).set h.size (some ⟨[], true, 3⟩) = hA at a1 LA hsp zA
  have hasA : ∀ i, i < 3 → hA.has (h.size + i) = true := fun i hi => by subst hhA; exact Heap.has_set _ _ _ _ (res3_has h i hi)
  have gA0 : hA.get h.size = some ⟨[], true, 3⟩ := by subst hhA; exact get_set_self
  have gA : ∀ k, k ≠ h.size → hA.get k = h.get k := fun k hk => by subst hhA; rw [get_set_ne hk, res3_get w]
  by_cases h0 : ts.length = 0
  · have : ts = [] := List.eq_nil_of_length_eq_zero h0
    subst this
    have a2 : appendV hA base 3 24 (some (h.size + 1)) (.slice h.size 0 0 (some 0)) v = some (.slice h.size 0 0 (some 0), hA) := by
      simp only [appendV, hsp, appendOp, List.length_nil]
      rw [if_neg (by simp [cells3]), if_pos trivial]
    have a3 : buildSliceV hA base (some (h.size + 2)) 3 1 (some (cell3 m)) = some (.slice (h.size + 2) 0 1 (some 1), hA.set (h.size + 2) (some ⟨cell3 m, true, 3⟩)) := by
      simp only [buildSliceV, c3, if_true]
      rw [lay_slot (by omega) (by omega) (hasA 2 (by omega)) (by rw [gA _ (by omega)]; exact w _ (by omega))]
      rfl
    have sx : spread (hA.set (h.size + 2) (some ⟨cell3 m, true, 3⟩)) 3 (.slice (h.size + 2) 0 1 (some 1)) = some (1, cell3 m) := by
      rw [spread_slice get_set_self (by simp [cell3])]
      rfl
    have zC : (hA.set (h.size + 2) (some ⟨cell3 m, true, 3⟩)).size = h.size + 3 := by rw [Heap.size_set _ _ _ (by omega), zA]
    have wC : (hA.set (h.size + 2) (some ⟨cell3 m, true, 3⟩)).Wf := wf_set LA.2.1 (by omega) _
    refine ⟨hA, _, hA, hA.set (h.size + 2) (some ⟨cell3 m, true, 3⟩), (hA.set (h.size + 2) (some ⟨cell3 m, true, 3⟩)).size, (hA.set (h.size + 2) (some ⟨cell3 m, true, 3⟩)).push (some ⟨cells3 ([] ++ [m]), true, 3⟩), a1, a2, by rw [f2]; exact a3, ?_, get_push_self, ?_⟩
    · simp only [appendV, sx, appendOp]
      rw [if_neg (by simp [cell3, Val.one]), if_neg (by omega)]
      rw [get_set_ne (by omega), gA0]
      simp only
      rw [if_neg (by simp only [Decidable.not_not, Nat.zero_mul]; exact ⟨by simp, by unfold maxRoom; omega⟩), if_neg (by omega)]
      simp [Heap.lay, cells3]
    · refine ⟨fun k hk => ?_, wf_push wC _, by rw [Heap.size_push, zC]; omega⟩
      rw [get_push_lt (by omega), get_set_ne (by omega), gA _ (by omega)]
  · have a2 : appendV hA base 3 24 (some (h.size + 1)) (.slice h.size 0 0 (some 0)) v = some (.slice (h.size + 1) 0 (0 + ts.length) none, hA.set (h.size + 1) (some ⟨[] ++ cells3 ts, true, 3⟩)) := by
      simp only [appendV, hsp, appendOp]
      rw [if_neg (by simp only [Decidable.not_not]; exact ⟨by omega, by omega, cells3_length, cells3_one⟩), if_neg h0]
      simp only [gA0]
      rw [if_neg (by simp only [Decidable.not_not, Nat.zero_mul]; exact ⟨by simp, by unfold maxRoom; omega⟩), if_neg (by omega)]
      rw [lay_slot (by omega) (by omega) (hasA 1 (by omega)) (by rw [gA _ (by omega)]; exact w _ (by omega))]
      simp
    generalize hhB : hA.set (h.size + 1) (some ⟨[] ++ cells3 ts, true, 3⟩) = hB at a2
    have zB : hB.size = h.size + 3 := by subst hhB; rw [Heap.size_set _ _ _ (by omega), zA]
    have wB : hB.Wf := by subst hhB; exact wf_set LA.2.1 (by omega) _
    have gB1 : hB.get (h.size + 1) = some ⟨cells3 ts, true, 3⟩ := by subst hhB; exact get_set_self
    have gB : ∀ k, k ≠ h.size + 1 → hB.get k = hA.get k := fun k hk => by subst hhB; rw [get_set_ne hk]
    have hasB : hB.has (h.size + 2) = true := by subst hhB; exact Heap.has_set _ _ _ _ (hasA 2 (by omega))
    have a3 : buildSliceV hB base (some (h.size + 2)) 3 1 (some (cell3 m)) = some (.slice (h.size + 2) 0 1 (some 1), hB.set (h.size + 2) (some ⟨cell3 m, true, 3⟩)) := by
      simp only [buildSliceV, c3, if_true]
      rw [lay_slot (by omega) (by omega) hasB (by rw [gB _ (by omega), gA _ (by omega)]; exact w _ (by omega))]
      rfl
    generalize hhC : hB.set (h.size + 2) (some ⟨cell3 m, true, 3⟩) = hC at a3
    have sx : spread hC 3 (.slice (h.size + 2) 0 1 (some 1)) = some (1, cell3 m) := by
      subst hhC
      rw [spread_slice get_set_self (by simp [cell3])]
      rfl
    have zC : hC.size = h.size + 3 := by subst hhC; rw [Heap.size_set _ _ _ (by omega), zB]
    have wC : hC.Wf := by subst hhC; exact wf_set wB (by omega) _
    have gC1 : hC.get (h.size + 1) = some ⟨cells3 ts, true, 3⟩ := by subst hhC; rw [get_set_ne (by omega), gB1]
    have gC : ∀ k, k < h.size → hC.get k = h.get k := fun k hk => by subst hhC; rw [get_set_ne (by omega), gB _ (by omega), gA _ (by omega)]
    refine ⟨hA, _, hB, hC, hC.size, (hC.set (h.size + 1) (some .dead)).push (some ⟨cells3 ts ++ cell3 m, true, 3⟩), a1, a2, by rw [f2]; exact a3, ?_, ?_, ?_⟩
    · simp only [appendV, sx, appendOp, Nat.zero_add]
      rw [if_neg (by simp [cell3, Val.one]), if_neg (by omega)]
      simp only [gC1]
      rw [if_neg (by simp only [Decidable.not_not]; exact ⟨by rw [cells3_length]; omega, by unfold maxRoom; omega⟩), if_pos ⟨by omega, trivial, trivial, trivial⟩]
      simp only [Heap.lay, Option.map_some, List.drop_zero]
      rw [List.take_of_length_le (by rw [cells3_length]; exact Nat.le_refl _), Heap.size_set _ _ _ (by omega)]
    · rw [Heap.get_push, if_pos (by rw [Heap.size_set _ _ _ (by omega)]), cells3_append]
      simp [cells3]
    · refine ⟨fun k hk => ?_, wf_push (wf_set wC (by omega) _) _, by rw [Heap.size_push, Heap.size_set _ _ _ (by omega)]; omega⟩
      rw [get_push_lt (by rw [Heap.size_set _ _ _ (by omega)]; omega), get_set_ne (by omega), gC k hk]
end Gc
end
section
/- The statement BreedMore: the law's function returns true. -/
set_option linter.unusedVariables false
set_option linter.unusedSimpArgs false
namespace Gc
variable {E : Env} {base kept : Nat} {h : Heap}
def needLawMore : List Nat := [F.law05_BreedMore, F.law05_few, F.law05_alive, F.ref05_List, F.ref05_IsTriple] ++ (needBuildF ++ needShowsF)
theorem BreedMore_run {l : List Nat} (hE : E.Has tabs05 l) (hf : ∀ f ∈ needLawMore, f ∈ l) (w : h.Wf) (tb : Tables h) (h2s : 2 ≤ h.size) {n : Int} {s : List UInt8} {v : Val} {ts : List I3} {m : I3} (ht : TriplesAt h v ts) :
    CallV E h.size F.law05_BreedMore [.int .i64 n, v, .agg (cell3 m), .str s] h fun r h' => r = .bool true ∧ Left' h h' := by
  have hfB : ∀ f ∈ needBuildF, f ∈ l := fun f hf' => hf f (by simp only [needLawMore, List.mem_append]; exact .inr (.inl hf'))
  have hfS : ∀ f ∈ needShowsF, f ∈ l := fun f hf' => hf f (by simp only [needLawMore, List.mem_append]; exact .inr (.inr hf'))
  refine c_begin hE (hf _ (by decide)) rfl (by decide) (by decide) ?_
  simp only [T.law05_BreedMore, Frame.enterFrom, Nat.zero_add, Nat.reduceAdd]
  have x0 : boxV h h.size none (.agg (cell3 m)) = some (.ptr h.size 0, h.push (some ⟨cell3 m, true, 0⟩)) := boxV_new rfl
  have L1 := left_push w (some ⟨cell3 m, true, 0⟩)
  have gm : (h.push (some ⟨cell3 m, true, 0⟩)).get h.size = some ⟨cell3 m, true, 0⟩ := get_push_self
  have sz1 : h.size < (h.push (some ⟨cell3 m, true, 0⟩)).size := by simp
  generalize h.push (some ⟨cell3 m, true, 0⟩) = h1 at x0 L1 gm sz1
  have e1 := (ht.left w L1).len
  by_cases c1 : ts.length ≥ 60
  · have d1 : decide ((ts.length : Int) ≥ 60) = true := decide_eq_true (by omega)
    repeat' (first | (apply o_op; (solve | (conv => lhs; simp (disch := first | omega | (simp only [Val.cells, List.all_cons, List.all_nil, Val.one, Bool.and_self])) only [zev, zex, Val.one, List.length_cons, List.length_nil, Nat.reduceAdd, Option.map_some, Option.map_none, List.map_cons, List.map_nil, zva, ↓reduceIte, Nat.reduceEqDiff, x0, e1, d1])); (solve | (conv => lhs; simp only [zfr, Nat.reduceEqDiff, Nat.reduceLT, ↓reduceIte]))) | (apply o_yes; (solve | (conv => lhs; simp only [zva, ↓reduceIte, Nat.reduceEqDiff, x0, e1, d1])); (solve | rfl)) | (apply o_no; (solve | (conv => lhs; simp only [zva, ↓reduceIte, Nat.reduceEqDiff, x0, e1, d1])); (solve | decide); (solve | (conv => lhs; simp only [zfr, Nat.reduceEqDiff, Nat.reduceLT, ↓reduceIte]))) | (apply o_not; (solve | (conv => lhs; simp only [zva, ↓reduceIte, Nat.reduceEqDiff])); (solve | (conv => lhs; simp only [zfr, Nat.reduceEqDiff, Nat.reduceLT, ↓reduceIte]))) | (apply o_if; (solve | (conv => lhs; simp only [zva, ↓reduceIte, Nat.reduceEqDiff])); (solve | (intro hbb; conv => lhs; simp (disch := first | omega | (simp only [Val.cells, List.all_cons, List.all_nil, Val.one, Bool.and_self])) only [zev, zex, Val.one, List.length_cons, List.length_nil, Nat.reduceAdd, Option.map_some, Option.map_none, List.map_cons, List.map_nil, zva, ↓reduceIte, Nat.reduceEqDiff, hbb, x0, e1, d1])); (solve | (conv => lhs; simp only [zfr, Nat.reduceEqDiff, Nat.reduceLT, ↓reduceIte]))) | (apply o_end; (solve | (conv => lhs; simp only [zdr, inl, Nat.reduceEqDiff, or_false, or_true, ↓reduceIte]))) | apply g_seq | apply g_region | apply g_next | apply g_block | apply g_out | (apply g_true; (solve | (conv => lhs; simp only [zva, ↓reduceIte, Nat.reduceEqDiff, x0, e1, d1]))) | (apply g_false; (solve | (conv => lhs; simp only [zva, ↓reduceIte, Nat.reduceEqDiff, x0, e1, d1]))) | apply g_here | (apply g_past; (solve | decide)) | apply g_exit | apply g_retc | apply g_retb | apply g_ret | apply g_done)
    (apply o_call; (solve | (conv => lhs; simp only [Callee.find, List.map_cons, List.map_nil, List.cons_append, List.nil_append, zva, ↓reduceIte, Nat.reduceEqDiff])))
    · exact alive_run hE (hf _ (by decide)) (tb.keep w L1.1)
    rintro _ h' ⟨rfl, e⟩
    have e := e.symm
    subst e
    (conv => arg 8; simp only [zfr, Nat.reduceEqDiff, Nat.reduceLT, ↓reduceIte])
    repeat' (first | (apply o_op; (solve | (conv => lhs; simp (disch := first | omega | (simp only [Val.cells, List.all_cons, List.all_nil, Val.one, Bool.and_self])) only [zev, zex, Val.one, List.length_cons, List.length_nil, Nat.reduceAdd, Option.map_some, Option.map_none, List.map_cons, List.map_nil, zva, ↓reduceIte, Nat.reduceEqDiff])); (solve | (conv => lhs; simp only [zfr, Nat.reduceEqDiff, Nat.reduceLT, ↓reduceIte]))) | (apply o_yes; (solve | (conv => lhs; simp only [zva, ↓reduceIte, Nat.reduceEqDiff])); (solve | rfl)) | (apply o_no; (solve | (conv => lhs; simp only [zva, ↓reduceIte, Nat.reduceEqDiff])); (solve | decide); (solve | (conv => lhs; simp only [zfr, Nat.reduceEqDiff, Nat.reduceLT, ↓reduceIte]))) | (apply o_not; (solve | (conv => lhs; simp only [zva, ↓reduceIte, Nat.reduceEqDiff])); (solve | (conv => lhs; simp only [zfr, Nat.reduceEqDiff, Nat.reduceLT, ↓reduceIte]))) | (apply o_if; (solve | (conv => lhs; simp only [zva, ↓reduceIte, Nat.reduceEqDiff])); (solve | (intro hbb; conv => lhs; simp (disch := first | omega | (simp only [Val.cells, List.all_cons, List.all_nil, Val.one, Bool.and_self])) only [zev, zex, Val.one, List.length_cons, List.length_nil, Nat.reduceAdd, Option.map_some, Option.map_none, List.map_cons, List.map_nil, zva, ↓reduceIte, Nat.reduceEqDiff, hbb])); (solve | (conv => lhs; simp only [zfr, Nat.reduceEqDiff, Nat.reduceLT, ↓reduceIte]))) | (apply o_end; (solve | (conv => lhs; simp only [zdr, inl, Nat.reduceEqDiff, or_false, or_true, ↓reduceIte]))) | apply g_seq | apply g_region | apply g_next | apply g_block | apply g_out | (apply g_true; (solve | (conv => lhs; simp only [zva, ↓reduceIte, Nat.reduceEqDiff]))) | (apply g_false; (solve | (conv => lhs; simp only [zva, ↓reduceIte, Nat.reduceEqDiff]))) | apply g_here | (apply g_past; (solve | decide)) | apply g_exit | apply g_retc | apply g_retb | apply g_ret | apply g_done)
    exact ⟨.inr rfl, _, rfl, rfl, L1⟩
  have d1 : decide ((ts.length : Int) ≥ 60) = false := decide_eq_false (by omega)
  repeat' (first | (apply o_op; (solve | (conv => lhs; simp (disch := first | omega | (simp only [Val.cells, List.all_cons, List.all_nil, Val.one, Bool.and_self])) only [zev, zex, Val.one, List.length_cons, List.length_nil, Nat.reduceAdd, Option.map_some, Option.map_none, List.map_cons, List.map_nil, zva, ↓reduceIte, Nat.reduceEqDiff, x0, e1, d1])); (solve | (conv => lhs; simp only [zfr, Nat.reduceEqDiff, Nat.reduceLT, ↓reduceIte]))) | (apply o_yes; (solve | (conv => lhs; simp only [zva, ↓reduceIte, Nat.reduceEqDiff, x0, e1, d1])); (solve | rfl)) | (apply o_no; (solve | (conv => lhs; simp only [zva, ↓reduceIte, Nat.reduceEqDiff, x0, e1, d1])); (solve | decide); (solve | (conv => lhs; simp only [zfr, Nat.reduceEqDiff, Nat.reduceLT, ↓reduceIte]))) | (apply o_not; (solve | (conv => lhs; simp only [zva, ↓reduceIte, Nat.reduceEqDiff])); (solve | (conv => lhs; simp only [zfr, Nat.reduceEqDiff, Nat.reduceLT, ↓reduceIte]))) | (apply o_if; (solve | (conv => lhs; simp only [zva, ↓reduceIte, Nat.reduceEqDiff])); (solve | (intro hbb; conv => lhs; simp (disch := first | omega | (simp only [Val.cells, List.all_cons, List.all_nil, Val.one, Bool.and_self])) only [zev, zex, Val.one, List.length_cons, List.length_nil, Nat.reduceAdd, Option.map_some, Option.map_none, List.map_cons, List.map_nil, zva, ↓reduceIte, Nat.reduceEqDiff, hbb, x0, e1, d1])); (solve | (conv => lhs; simp only [zfr, Nat.reduceEqDiff, Nat.reduceLT, ↓reduceIte]))) | (apply o_end; (solve | (conv => lhs; simp only [zdr, inl, Nat.reduceEqDiff, or_false, or_true, ↓reduceIte]))) | apply g_seq | apply g_region | apply g_next | apply g_block | apply g_out | (apply g_true; (solve | (conv => lhs; simp only [zva, ↓reduceIte, Nat.reduceEqDiff, x0, e1, d1]))) | (apply g_false; (solve | (conv => lhs; simp only [zva, ↓reduceIte, Nat.reduceEqDiff, x0, e1, d1]))) | apply g_here | (apply g_past; (solve | decide)) | apply g_exit | apply g_retc | apply g_retb | apply g_ret | apply g_done)
  (apply o_call; (solve | (conv => lhs; simp only [Callee.find, List.map_cons, List.map_nil, List.cons_append, List.nil_append, zva, ↓reduceIte, Nat.reduceEqDiff])))
  · exact few_run hE (hf _ (by decide)) (v := .nils) (ts := []) ⟨by simp, rfl⟩
  rintro _ h' ⟨rfl, e⟩
  have e := e.symm
  subst e
  (conv => arg 8; simp only [zfr, Nat.reduceEqDiff, Nat.reduceLT, ↓reduceIte])
  simp only [List.length_nil, Nat.zero_le, decide_true, Bool.true_and]
  by_cases c2 : s.length ≤ 100
  case neg =>
    rw [decide_eq_false c2]
    repeat' (first | (apply o_op; (solve | (conv => lhs; simp (disch := first | omega | (simp only [Val.cells, List.all_cons, List.all_nil, Val.one, Bool.and_self])) only [zev, zex, Val.one, List.length_cons, List.length_nil, Nat.reduceAdd, Option.map_some, Option.map_none, List.map_cons, List.map_nil, zva, ↓reduceIte, Nat.reduceEqDiff])); (solve | (conv => lhs; simp only [zfr, Nat.reduceEqDiff, Nat.reduceLT, ↓reduceIte]))) | (apply o_yes; (solve | (conv => lhs; simp only [zva, ↓reduceIte, Nat.reduceEqDiff])); (solve | rfl)) | (apply o_no; (solve | (conv => lhs; simp only [zva, ↓reduceIte, Nat.reduceEqDiff])); (solve | decide); (solve | (conv => lhs; simp only [zfr, Nat.reduceEqDiff, Nat.reduceLT, ↓reduceIte]))) | (apply o_not; (solve | (conv => lhs; simp only [zva, ↓reduceIte, Nat.reduceEqDiff])); (solve | (conv => lhs; simp only [zfr, Nat.reduceEqDiff, Nat.reduceLT, ↓reduceIte]))) | (apply o_if; (solve | (conv => lhs; simp only [zva, ↓reduceIte, Nat.reduceEqDiff])); (solve | (intro hbb; conv => lhs; simp (disch := first | omega | (simp only [Val.cells, List.all_cons, List.all_nil, Val.one, Bool.and_self])) only [zev, zex, Val.one, List.length_cons, List.length_nil, Nat.reduceAdd, Option.map_some, Option.map_none, List.map_cons, List.map_nil, zva, ↓reduceIte, Nat.reduceEqDiff, hbb])); (solve | (conv => lhs; simp only [zfr, Nat.reduceEqDiff, Nat.reduceLT, ↓reduceIte]))) | (apply o_end; (solve | (conv => lhs; simp only [zdr, inl, Nat.reduceEqDiff, or_false, or_true, ↓reduceIte]))) | apply g_seq | apply g_region | apply g_next | apply g_block | apply g_out | (apply g_true; (solve | (conv => lhs; simp only [zva, ↓reduceIte, Nat.reduceEqDiff]))) | (apply g_false; (solve | (conv => lhs; simp only [zva, ↓reduceIte, Nat.reduceEqDiff]))) | apply g_here | (apply g_past; (solve | decide)) | apply g_exit | apply g_retc | apply g_retb | apply g_ret | apply g_done)
    (apply o_call; (solve | (conv => lhs; simp only [Callee.find, List.map_cons, List.map_nil, List.cons_append, List.nil_append, zva, ↓reduceIte, Nat.reduceEqDiff])))
    · exact alive_run hE (hf _ (by decide)) (tb.keep w L1.1)
    rintro _ h' ⟨rfl, e⟩
    have e := e.symm
    subst e
    (conv => arg 8; simp only [zfr, Nat.reduceEqDiff, Nat.reduceLT, ↓reduceIte])
    repeat' (first | (apply o_op; (solve | (conv => lhs; simp (disch := first | omega | (simp only [Val.cells, List.all_cons, List.all_nil, Val.one, Bool.and_self])) only [zev, zex, Val.one, List.length_cons, List.length_nil, Nat.reduceAdd, Option.map_some, Option.map_none, List.map_cons, List.map_nil, zva, ↓reduceIte, Nat.reduceEqDiff])); (solve | (conv => lhs; simp only [zfr, Nat.reduceEqDiff, Nat.reduceLT, ↓reduceIte]))) | (apply o_yes; (solve | (conv => lhs; simp only [zva, ↓reduceIte, Nat.reduceEqDiff])); (solve | rfl)) | (apply o_no; (solve | (conv => lhs; simp only [zva, ↓reduceIte, Nat.reduceEqDiff])); (solve | decide); (solve | (conv => lhs; simp only [zfr, Nat.reduceEqDiff, Nat.reduceLT, ↓reduceIte]))) | (apply o_not; (solve | (conv => lhs; simp only [zva, ↓reduceIte, Nat.reduceEqDiff])); (solve | (conv => lhs; simp only [zfr, Nat.reduceEqDiff, Nat.reduceLT, ↓reduceIte]))) | (apply o_if; (solve | (conv => lhs; simp only [zva, ↓reduceIte, Nat.reduceEqDiff])); (solve | (intro hbb; conv => lhs; simp (disch := first | omega | (simp only [Val.cells, List.all_cons, List.all_nil, Val.one, Bool.and_self])) only [zev, zex, Val.one, List.length_cons, List.length_nil, Nat.reduceAdd, Option.map_some, Option.map_none, List.map_cons, List.map_nil, zva, ↓reduceIte, Nat.reduceEqDiff, hbb])); (solve | (conv => lhs; simp only [zfr, Nat.reduceEqDiff, Nat.reduceLT, ↓reduceIte]))) | (apply o_end; (solve | (conv => lhs; simp only [zdr, inl, Nat.reduceEqDiff, or_false, or_true, ↓reduceIte]))) | apply g_seq | apply g_region | apply g_next | apply g_block | apply g_out | (apply g_true; (solve | (conv => lhs; simp only [zva, ↓reduceIte, Nat.reduceEqDiff]))) | (apply g_false; (solve | (conv => lhs; simp only [zva, ↓reduceIte, Nat.reduceEqDiff]))) | apply g_here | (apply g_past; (solve | decide)) | apply g_exit | apply g_retc | apply g_retb | apply g_ret | apply g_done)
    exact ⟨.inr rfl, _, rfl, rfl, L1⟩
  rw [decide_eq_true c2]
  by_cases c3 : n < 1
  · have d3 : decide (n < 1) = true := decide_eq_true c3
    repeat' (first | (apply o_op; (solve | (conv => lhs; simp (disch := first | omega | (simp only [Val.cells, List.all_cons, List.all_nil, Val.one, Bool.and_self])) only [zev, zex, Val.one, List.length_cons, List.length_nil, Nat.reduceAdd, Option.map_some, Option.map_none, List.map_cons, List.map_nil, zva, ↓reduceIte, Nat.reduceEqDiff, d3])); (solve | (conv => lhs; simp only [zfr, Nat.reduceEqDiff, Nat.reduceLT, ↓reduceIte]))) | (apply o_yes; (solve | (conv => lhs; simp only [zva, ↓reduceIte, Nat.reduceEqDiff, d3])); (solve | rfl)) | (apply o_no; (solve | (conv => lhs; simp only [zva, ↓reduceIte, Nat.reduceEqDiff, d3])); (solve | decide); (solve | (conv => lhs; simp only [zfr, Nat.reduceEqDiff, Nat.reduceLT, ↓reduceIte]))) | (apply o_not; (solve | (conv => lhs; simp only [zva, ↓reduceIte, Nat.reduceEqDiff])); (solve | (conv => lhs; simp only [zfr, Nat.reduceEqDiff, Nat.reduceLT, ↓reduceIte]))) | (apply o_if; (solve | (conv => lhs; simp only [zva, ↓reduceIte, Nat.reduceEqDiff])); (solve | (intro hbb; conv => lhs; simp (disch := first | omega | (simp only [Val.cells, List.all_cons, List.all_nil, Val.one, Bool.and_self])) only [zev, zex, Val.one, List.length_cons, List.length_nil, Nat.reduceAdd, Option.map_some, Option.map_none, List.map_cons, List.map_nil, zva, ↓reduceIte, Nat.reduceEqDiff, hbb, d3])); (solve | (conv => lhs; simp only [zfr, Nat.reduceEqDiff, Nat.reduceLT, ↓reduceIte]))) | (apply o_end; (solve | (conv => lhs; simp only [zdr, inl, Nat.reduceEqDiff, or_false, or_true, ↓reduceIte]))) | apply g_seq | apply g_region | apply g_next | apply g_block | apply g_out | (apply g_true; (solve | (conv => lhs; simp only [zva, ↓reduceIte, Nat.reduceEqDiff, d3]))) | (apply g_false; (solve | (conv => lhs; simp only [zva, ↓reduceIte, Nat.reduceEqDiff, d3]))) | apply g_here | (apply g_past; (solve | decide)) | apply g_exit | apply g_retc | apply g_retb | apply g_ret | apply g_done)
    (apply o_call; (solve | (conv => lhs; simp only [Callee.find, List.map_cons, List.map_nil, List.cons_append, List.nil_append, zva, ↓reduceIte, Nat.reduceEqDiff])))
    · exact alive_run hE (hf _ (by decide)) (tb.keep w L1.1)
    rintro _ h' ⟨rfl, e⟩
    have e := e.symm
    subst e
    (conv => arg 8; simp only [zfr, Nat.reduceEqDiff, Nat.reduceLT, ↓reduceIte])
    repeat' (first | (apply o_op; (solve | (conv => lhs; simp (disch := first | omega | (simp only [Val.cells, List.all_cons, List.all_nil, Val.one, Bool.and_self])) only [zev, zex, Val.one, List.length_cons, List.length_nil, Nat.reduceAdd, Option.map_some, Option.map_none, List.map_cons, List.map_nil, zva, ↓reduceIte, Nat.reduceEqDiff])); (solve | (conv => lhs; simp only [zfr, Nat.reduceEqDiff, Nat.reduceLT, ↓reduceIte]))) | (apply o_yes; (solve | (conv => lhs; simp only [zva, ↓reduceIte, Nat.reduceEqDiff])); (solve | rfl)) | (apply o_no; (solve | (conv => lhs; simp only [zva, ↓reduceIte, Nat.reduceEqDiff])); (solve | decide); (solve | (conv => lhs; simp only [zfr, Nat.reduceEqDiff, Nat.reduceLT, ↓reduceIte]))) | (apply o_not; (solve | (conv => lhs; simp only [zva, ↓reduceIte, Nat.reduceEqDiff])); (solve | (conv => lhs; simp only [zfr, Nat.reduceEqDiff, Nat.reduceLT, ↓reduceIte]))) | (apply o_if; (solve | (conv => lhs; simp only [zva, ↓reduceIte, Nat.reduceEqDiff])); (solve | (intro hbb; conv => lhs; simp (disch := first | omega | (simp only [Val.cells, List.all_cons, List.all_nil, Val.one, Bool.and_self])) only [zev, zex, Val.one, List.length_cons, List.length_nil, Nat.reduceAdd, Option.map_some, Option.map_none, List.map_cons, List.map_nil, zva, ↓reduceIte, Nat.reduceEqDiff, hbb])); (solve | (conv => lhs; simp only [zfr, Nat.reduceEqDiff, Nat.reduceLT, ↓reduceIte]))) | (apply o_end; (solve | (conv => lhs; simp only [zdr, inl, Nat.reduceEqDiff, or_false, or_true, ↓reduceIte]))) | apply g_seq | apply g_region | apply g_next | apply g_block | apply g_out | (apply g_true; (solve | (conv => lhs; simp only [zva, ↓reduceIte, Nat.reduceEqDiff]))) | (apply g_false; (solve | (conv => lhs; simp only [zva, ↓reduceIte, Nat.reduceEqDiff]))) | apply g_here | (apply g_past; (solve | decide)) | apply g_exit | apply g_retc | apply g_retb | apply g_ret | apply g_done)
    exact ⟨.inr rfl, _, rfl, rfl, L1⟩
  have d3 : decide (n < 1) = false := decide_eq_false c3
  by_cases c4 : n > 8
  · have d4 : decide (n > 8) = true := decide_eq_true c4
    repeat' (first | (apply o_op; (solve | (conv => lhs; simp (disch := first | omega | (simp only [Val.cells, List.all_cons, List.all_nil, Val.one, Bool.and_self])) only [zev, zex, Val.one, List.length_cons, List.length_nil, Nat.reduceAdd, Option.map_some, Option.map_none, List.map_cons, List.map_nil, zva, ↓reduceIte, Nat.reduceEqDiff, d3, d4])); (solve | (conv => lhs; simp only [zfr, Nat.reduceEqDiff, Nat.reduceLT, ↓reduceIte]))) | (apply o_yes; (solve | (conv => lhs; simp only [zva, ↓reduceIte, Nat.reduceEqDiff, d3, d4])); (solve | rfl)) | (apply o_no; (solve | (conv => lhs; simp only [zva, ↓reduceIte, Nat.reduceEqDiff, d3, d4])); (solve | decide); (solve | (conv => lhs; simp only [zfr, Nat.reduceEqDiff, Nat.reduceLT, ↓reduceIte]))) | (apply o_not; (solve | (conv => lhs; simp only [zva, ↓reduceIte, Nat.reduceEqDiff])); (solve | (conv => lhs; simp only [zfr, Nat.reduceEqDiff, Nat.reduceLT, ↓reduceIte]))) | (apply o_if; (solve | (conv => lhs; simp only [zva, ↓reduceIte, Nat.reduceEqDiff])); (solve | (intro hbb; conv => lhs; simp (disch := first | omega | (simp only [Val.cells, List.all_cons, List.all_nil, Val.one, Bool.and_self])) only [zev, zex, Val.one, List.length_cons, List.length_nil, Nat.reduceAdd, Option.map_some, Option.map_none, List.map_cons, List.map_nil, zva, ↓reduceIte, Nat.reduceEqDiff, hbb, d3, d4])); (solve | (conv => lhs; simp only [zfr, Nat.reduceEqDiff, Nat.reduceLT, ↓reduceIte]))) | (apply o_end; (solve | (conv => lhs; simp only [zdr, inl, Nat.reduceEqDiff, or_false, or_true, ↓reduceIte]))) | apply g_seq | apply g_region | apply g_next | apply g_block | apply g_out | (apply g_true; (solve | (conv => lhs; simp only [zva, ↓reduceIte, Nat.reduceEqDiff, d3, d4]))) | (apply g_false; (solve | (conv => lhs; simp only [zva, ↓reduceIte, Nat.reduceEqDiff, d3, d4]))) | apply g_here | (apply g_past; (solve | decide)) | apply g_exit | apply g_retc | apply g_retb | apply g_ret | apply g_done)
    (apply o_call; (solve | (conv => lhs; simp only [Callee.find, List.map_cons, List.map_nil, List.cons_append, List.nil_append, zva, ↓reduceIte, Nat.reduceEqDiff])))
    · exact alive_run hE (hf _ (by decide)) (tb.keep w L1.1)
    rintro _ h' ⟨rfl, e⟩
    have e := e.symm
    subst e
    (conv => arg 8; simp only [zfr, Nat.reduceEqDiff, Nat.reduceLT, ↓reduceIte])
    repeat' (first | (apply o_op; (solve | (conv => lhs; simp (disch := first | omega | (simp only [Val.cells, List.all_cons, List.all_nil, Val.one, Bool.and_self])) only [zev, zex, Val.one, List.length_cons, List.length_nil, Nat.reduceAdd, Option.map_some, Option.map_none, List.map_cons, List.map_nil, zva, ↓reduceIte, Nat.reduceEqDiff])); (solve | (conv => lhs; simp only [zfr, Nat.reduceEqDiff, Nat.reduceLT, ↓reduceIte]))) | (apply o_yes; (solve | (conv => lhs; simp only [zva, ↓reduceIte, Nat.reduceEqDiff])); (solve | rfl)) | (apply o_no; (solve | (conv => lhs; simp only [zva, ↓reduceIte, Nat.reduceEqDiff])); (solve | decide); (solve | (conv => lhs; simp only [zfr, Nat.reduceEqDiff, Nat.reduceLT, ↓reduceIte]))) | (apply o_not; (solve | (conv => lhs; simp only [zva, ↓reduceIte, Nat.reduceEqDiff])); (solve | (conv => lhs; simp only [zfr, Nat.reduceEqDiff, Nat.reduceLT, ↓reduceIte]))) | (apply o_if; (solve | (conv => lhs; simp only [zva, ↓reduceIte, Nat.reduceEqDiff])); (solve | (intro hbb; conv => lhs; simp (disch := first | omega | (simp only [Val.cells, List.all_cons, List.all_nil, Val.one, Bool.and_self])) only [zev, zex, Val.one, List.length_cons, List.length_nil, Nat.reduceAdd, Option.map_some, Option.map_none, List.map_cons, List.map_nil, zva, ↓reduceIte, Nat.reduceEqDiff, hbb])); (solve | (conv => lhs; simp only [zfr, Nat.reduceEqDiff, Nat.reduceLT, ↓reduceIte]))) | (apply o_end; (solve | (conv => lhs; simp only [zdr, inl, Nat.reduceEqDiff, or_false, or_true, ↓reduceIte]))) | apply g_seq | apply g_region | apply g_next | apply g_block | apply g_out | (apply g_true; (solve | (conv => lhs; simp only [zva, ↓reduceIte, Nat.reduceEqDiff]))) | (apply g_false; (solve | (conv => lhs; simp only [zva, ↓reduceIte, Nat.reduceEqDiff]))) | apply g_here | (apply g_past; (solve | decide)) | apply g_exit | apply g_retc | apply g_retb | apply g_ret | apply g_done)
    exact ⟨.inr rfl, _, rfl, rfl, L1⟩
  have d4 : decide (n > 8) = false := decide_eq_false c4
  repeat' (first | (apply o_op; (solve | (conv => lhs; simp (disch := first | omega | (simp only [Val.cells, List.all_cons, List.all_nil, Val.one, Bool.and_self])) only [zev, zex, Val.one, List.length_cons, List.length_nil, Nat.reduceAdd, Option.map_some, Option.map_none, List.map_cons, List.map_nil, zva, ↓reduceIte, Nat.reduceEqDiff, d3, d4])); (solve | (conv => lhs; simp only [zfr, Nat.reduceEqDiff, Nat.reduceLT, ↓reduceIte]))) | (apply o_yes; (solve | (conv => lhs; simp only [zva, ↓reduceIte, Nat.reduceEqDiff, d3, d4])); (solve | rfl)) | (apply o_no; (solve | (conv => lhs; simp only [zva, ↓reduceIte, Nat.reduceEqDiff, d3, d4])); (solve | decide); (solve | (conv => lhs; simp only [zfr, Nat.reduceEqDiff, Nat.reduceLT, ↓reduceIte]))) | (apply o_not; (solve | (conv => lhs; simp only [zva, ↓reduceIte, Nat.reduceEqDiff])); (solve | (conv => lhs; simp only [zfr, Nat.reduceEqDiff, Nat.reduceLT, ↓reduceIte]))) | (apply o_if; (solve | (conv => lhs; simp only [zva, ↓reduceIte, Nat.reduceEqDiff])); (solve | (intro hbb; conv => lhs; simp (disch := first | omega | (simp only [Val.cells, List.all_cons, List.all_nil, Val.one, Bool.and_self])) only [zev, zex, Val.one, List.length_cons, List.length_nil, Nat.reduceAdd, Option.map_some, Option.map_none, List.map_cons, List.map_nil, zva, ↓reduceIte, Nat.reduceEqDiff, hbb, d3, d4])); (solve | (conv => lhs; simp only [zfr, Nat.reduceEqDiff, Nat.reduceLT, ↓reduceIte]))) | (apply o_end; (solve | (conv => lhs; simp only [zdr, inl, Nat.reduceEqDiff, or_false, or_true, ↓reduceIte]))) | apply g_seq | apply g_region | apply g_next | apply g_block | apply g_out | (apply g_true; (solve | (conv => lhs; simp only [zva, ↓reduceIte, Nat.reduceEqDiff, d3, d4]))) | (apply g_false; (solve | (conv => lhs; simp only [zva, ↓reduceIte, Nat.reduceEqDiff, d3, d4]))) | apply g_here | (apply g_past; (solve | decide)) | apply g_exit | apply g_retc | apply g_retb | apply g_ret | apply g_done)
  (apply o_call; (solve | (conv => lhs; simp only [Callee.find, List.map_cons, List.map_nil, List.cons_append, List.nil_append, zva, ↓reduceIte, Nat.reduceEqDiff])))
  · exact (list_run hE (fun f hf' => hf f (by revert f; decide)) L1.2.1 (ht.left w L1) (by omega)).lower (show h.size ≤ h1.size from L1.2.2)
  rintro _ h2 ⟨rfl, L2⟩
  (conv => arg 8; simp only [zfr, Nat.reduceEqDiff, Nat.reduceLT, ↓reduceIte])
  have L12 := L1.trans L2
  by_cases c5 : listErr n ts = 0
  case neg =>
    have d5 : (listErr n ts != 0) = true := by simpa using c5
    repeat' (first | (apply o_op; (solve | (conv => lhs; simp (disch := first | omega | (simp only [Val.cells, List.all_cons, List.all_nil, Val.one, Bool.and_self])) only [zev, zex, Val.one, List.length_cons, List.length_nil, Nat.reduceAdd, Option.map_some, Option.map_none, List.map_cons, List.map_nil, zva, ↓reduceIte, Nat.reduceEqDiff, d5])); (solve | (conv => lhs; simp only [zfr, Nat.reduceEqDiff, Nat.reduceLT, ↓reduceIte]))) | (apply o_yes; (solve | (conv => lhs; simp only [zva, ↓reduceIte, Nat.reduceEqDiff, d5])); (solve | rfl)) | (apply o_no; (solve | (conv => lhs; simp only [zva, ↓reduceIte, Nat.reduceEqDiff, d5])); (solve | decide); (solve | (conv => lhs; simp only [zfr, Nat.reduceEqDiff, Nat.reduceLT, ↓reduceIte]))) | (apply o_not; (solve | (conv => lhs; simp only [zva, ↓reduceIte, Nat.reduceEqDiff])); (solve | (conv => lhs; simp only [zfr, Nat.reduceEqDiff, Nat.reduceLT, ↓reduceIte]))) | (apply o_if; (solve | (conv => lhs; simp only [zva, ↓reduceIte, Nat.reduceEqDiff])); (solve | (intro hbb; conv => lhs; simp (disch := first | omega | (simp only [Val.cells, List.all_cons, List.all_nil, Val.one, Bool.and_self])) only [zev, zex, Val.one, List.length_cons, List.length_nil, Nat.reduceAdd, Option.map_some, Option.map_none, List.map_cons, List.map_nil, zva, ↓reduceIte, Nat.reduceEqDiff, hbb, d5])); (solve | (conv => lhs; simp only [zfr, Nat.reduceEqDiff, Nat.reduceLT, ↓reduceIte]))) | (apply o_end; (solve | (conv => lhs; simp only [zdr, inl, Nat.reduceEqDiff, or_false, or_true, ↓reduceIte]))) | apply g_seq | apply g_region | apply g_next | apply g_block | apply g_out | (apply g_true; (solve | (conv => lhs; simp only [zva, ↓reduceIte, Nat.reduceEqDiff, d5]))) | (apply g_false; (solve | (conv => lhs; simp only [zva, ↓reduceIte, Nat.reduceEqDiff, d5]))) | apply g_here | (apply g_past; (solve | decide)) | apply g_exit | apply g_retc | apply g_retb | apply g_ret | apply g_done)
    (apply o_call; (solve | (conv => lhs; simp only [Callee.find, List.map_cons, List.map_nil, List.cons_append, List.nil_append, zva, ↓reduceIte, Nat.reduceEqDiff])))
    · exact alive_run hE (hf _ (by decide)) (tb.keep w L12.1)
    rintro _ h' ⟨rfl, e⟩
    have e := e.symm
    subst e
    (conv => arg 8; simp only [zfr, Nat.reduceEqDiff, Nat.reduceLT, ↓reduceIte])
    repeat' (first | (apply o_op; (solve | (conv => lhs; simp (disch := first | omega | (simp only [Val.cells, List.all_cons, List.all_nil, Val.one, Bool.and_self])) only [zev, zex, Val.one, List.length_cons, List.length_nil, Nat.reduceAdd, Option.map_some, Option.map_none, List.map_cons, List.map_nil, zva, ↓reduceIte, Nat.reduceEqDiff])); (solve | (conv => lhs; simp only [zfr, Nat.reduceEqDiff, Nat.reduceLT, ↓reduceIte]))) | (apply o_yes; (solve | (conv => lhs; simp only [zva, ↓reduceIte, Nat.reduceEqDiff])); (solve | rfl)) | (apply o_no; (solve | (conv => lhs; simp only [zva, ↓reduceIte, Nat.reduceEqDiff])); (solve | decide); (solve | (conv => lhs; simp only [zfr, Nat.reduceEqDiff, Nat.reduceLT, ↓reduceIte]))) | (apply o_not; (solve | (conv => lhs; simp only [zva, ↓reduceIte, Nat.reduceEqDiff])); (solve | (conv => lhs; simp only [zfr, Nat.reduceEqDiff, Nat.reduceLT, ↓reduceIte]))) | (apply o_if; (solve | (conv => lhs; simp only [zva, ↓reduceIte, Nat.reduceEqDiff])); (solve | (intro hbb; conv => lhs; simp (disch := first | omega | (simp only [Val.cells, List.all_cons, List.all_nil, Val.one, Bool.and_self])) only [zev, zex, Val.one, List.length_cons, List.length_nil, Nat.reduceAdd, Option.map_some, Option.map_none, List.map_cons, List.map_nil, zva, ↓reduceIte, Nat.reduceEqDiff, hbb])); (solve | (conv => lhs; simp only [zfr, Nat.reduceEqDiff, Nat.reduceLT, ↓reduceIte]))) | (apply o_end; (solve | (conv => lhs; simp only [zdr, inl, Nat.reduceEqDiff, or_false, or_true, ↓reduceIte]))) | apply g_seq | apply g_region | apply g_next | apply g_block | apply g_out | (apply g_true; (solve | (conv => lhs; simp only [zva, ↓reduceIte, Nat.reduceEqDiff]))) | (apply g_false; (solve | (conv => lhs; simp only [zva, ↓reduceIte, Nat.reduceEqDiff]))) | apply g_here | (apply g_past; (solve | decide)) | apply g_exit | apply g_retc | apply g_retb | apply g_ret | apply g_done)
    exact ⟨.inr rfl, _, rfl, rfl, L12⟩
  rw [c5]
  have gm2 : h2.get h.size = some ⟨cell3 m, true, 0⟩ := (L2.1 _ sz1).trans gm
  have lm2 : h2.load true 3 h.size 0 = some (.agg (cell3 m)) := load_agg gm2 (by simp [cell3]) rfl
  repeat' (first | (apply o_op; (solve | (conv => lhs; simp (disch := first | omega | (simp only [Val.cells, List.all_cons, List.all_nil, Val.one, Bool.and_self])) only [zev, zex, Val.one, List.length_cons, List.length_nil, Nat.reduceAdd, Option.map_some, Option.map_none, List.map_cons, List.map_nil, zva, ↓reduceIte, Nat.reduceEqDiff, bne_self_eq_false, lm2])); (solve | (conv => lhs; simp only [zfr, Nat.reduceEqDiff, Nat.reduceLT, ↓reduceIte]))) | (apply o_yes; (solve | (conv => lhs; simp only [zva, ↓reduceIte, Nat.reduceEqDiff, bne_self_eq_false, lm2])); (solve | rfl)) | (apply o_no; (solve | (conv => lhs; simp only [zva, ↓reduceIte, Nat.reduceEqDiff, bne_self_eq_false, lm2])); (solve | decide); (solve | (conv => lhs; simp only [zfr, Nat.reduceEqDiff, Nat.reduceLT, ↓reduceIte]))) | (apply o_not; (solve | (conv => lhs; simp only [zva, ↓reduceIte, Nat.reduceEqDiff])); (solve | (conv => lhs; simp only [zfr, Nat.reduceEqDiff, Nat.reduceLT, ↓reduceIte]))) | (apply o_if; (solve | (conv => lhs; simp only [zva, ↓reduceIte, Nat.reduceEqDiff])); (solve | (intro hbb; conv => lhs; simp (disch := first | omega | (simp only [Val.cells, List.all_cons, List.all_nil, Val.one, Bool.and_self])) only [zev, zex, Val.one, List.length_cons, List.length_nil, Nat.reduceAdd, Option.map_some, Option.map_none, List.map_cons, List.map_nil, zva, ↓reduceIte, Nat.reduceEqDiff, hbb, bne_self_eq_false, lm2])); (solve | (conv => lhs; simp only [zfr, Nat.reduceEqDiff, Nat.reduceLT, ↓reduceIte]))) | (apply o_end; (solve | (conv => lhs; simp only [zdr, inl, Nat.reduceEqDiff, or_false, or_true, ↓reduceIte]))) | apply g_seq | apply g_region | apply g_next | apply g_block | apply g_out | (apply g_true; (solve | (conv => lhs; simp only [zva, ↓reduceIte, Nat.reduceEqDiff, bne_self_eq_false, lm2]))) | (apply g_false; (solve | (conv => lhs; simp only [zva, ↓reduceIte, Nat.reduceEqDiff, bne_self_eq_false, lm2]))) | apply g_here | (apply g_past; (solve | decide)) | apply g_exit | apply g_retc | apply g_retb | apply g_ret | apply g_done)
  (apply o_call; (solve | (conv => lhs; simp only [Callee.find, List.map_cons, List.map_nil, List.cons_append, List.nil_append, zva, ↓reduceIte, Nat.reduceEqDiff])))
  · exact (isTriple_run hE (hf _ (by decide)) L2.2.1).lower (show h.size ≤ h2.size from L12.2.2)
  rintro _ h3 ⟨rfl, L3⟩
  (conv => arg 8; simp only [zfr, Nat.reduceEqDiff, Nat.reduceLT, ↓reduceIte])
  have L13 := L12.trans L3
  cases c6 : isTriple n m
  · repeat' (first | (apply o_op; (solve | (conv => lhs; simp (disch := first | omega | (simp only [Val.cells, List.all_cons, List.all_nil, Val.one, Bool.and_self])) only [zev, zex, Val.one, List.length_cons, List.length_nil, Nat.reduceAdd, Option.map_some, Option.map_none, List.map_cons, List.map_nil, zva, ↓reduceIte, Nat.reduceEqDiff])); (solve | (conv => lhs; simp only [zfr, Nat.reduceEqDiff, Nat.reduceLT, ↓reduceIte]))) | (apply o_yes; (solve | (conv => lhs; simp only [zva, ↓reduceIte, Nat.reduceEqDiff])); (solve | rfl)) | (apply o_no; (solve | (conv => lhs; simp only [zva, ↓reduceIte, Nat.reduceEqDiff])); (solve | decide); (solve | (conv => lhs; simp only [zfr, Nat.reduceEqDiff, Nat.reduceLT, ↓reduceIte]))) | (apply o_not; (solve | (conv => lhs; simp only [zva, ↓reduceIte, Nat.reduceEqDiff])); (solve | (conv => lhs; simp only [zfr, Nat.reduceEqDiff, Nat.reduceLT, ↓reduceIte]))) | (apply o_if; (solve | (conv => lhs; simp only [zva, ↓reduceIte, Nat.reduceEqDiff])); (solve | (intro hbb; conv => lhs; simp (disch := first | omega | (simp only [Val.cells, List.all_cons, List.all_nil, Val.one, Bool.and_self])) only [zev, zex, Val.one, List.length_cons, List.length_nil, Nat.reduceAdd, Option.map_some, Option.map_none, List.map_cons, List.map_nil, zva, ↓reduceIte, Nat.reduceEqDiff, hbb])); (solve | (conv => lhs; simp only [zfr, Nat.reduceEqDiff, Nat.reduceLT, ↓reduceIte]))) | (apply o_end; (solve | (conv => lhs; simp only [zdr, inl, Nat.reduceEqDiff, or_false, or_true, ↓reduceIte]))) | apply g_seq | apply g_region | apply g_next | apply g_block | apply g_out | (apply g_true; (solve | (conv => lhs; simp only [zva, ↓reduceIte, Nat.reduceEqDiff]))) | (apply g_false; (solve | (conv => lhs; simp only [zva, ↓reduceIte, Nat.reduceEqDiff]))) | apply g_here | (apply g_past; (solve | decide)) | apply g_exit | apply g_retc | apply g_retb | apply g_ret | apply g_done)
    (apply o_call; (solve | (conv => lhs; simp only [Callee.find, List.map_cons, List.map_nil, List.cons_append, List.nil_append, zva, ↓reduceIte, Nat.reduceEqDiff])))
    · exact alive_run hE (hf _ (by decide)) (tb.keep w L13.1)
    rintro _ h' ⟨rfl, e⟩
    have e := e.symm
    subst e
    (conv => arg 8; simp only [zfr, Nat.reduceEqDiff, Nat.reduceLT, ↓reduceIte])
    repeat' (first | (apply o_op; (solve | (conv => lhs; simp (disch := first | omega | (simp only [Val.cells, List.all_cons, List.all_nil, Val.one, Bool.and_self])) only [zev, zex, Val.one, List.length_cons, List.length_nil, Nat.reduceAdd, Option.map_some, Option.map_none, List.map_cons, List.map_nil, zva, ↓reduceIte, Nat.reduceEqDiff])); (solve | (conv => lhs; simp only [zfr, Nat.reduceEqDiff, Nat.reduceLT, ↓reduceIte]))) | (apply o_yes; (solve | (conv => lhs; simp only [zva, ↓reduceIte, Nat.reduceEqDiff])); (solve | rfl)) | (apply o_no; (solve | (conv => lhs; simp only [zva, ↓reduceIte, Nat.reduceEqDiff])); (solve | decide); (solve | (conv => lhs; simp only [zfr, Nat.reduceEqDiff, Nat.reduceLT, ↓reduceIte]))) | (apply o_not; (solve | (conv => lhs; simp only [zva, ↓reduceIte, Nat.reduceEqDiff])); (solve | (conv => lhs; simp only [zfr, Nat.reduceEqDiff, Nat.reduceLT, ↓reduceIte]))) | (apply o_if; (solve | (conv => lhs; simp only [zva, ↓reduceIte, Nat.reduceEqDiff])); (solve | (intro hbb; conv => lhs; simp (disch := first | omega | (simp only [Val.cells, List.all_cons, List.all_nil, Val.one, Bool.and_self])) only [zev, zex, Val.one, List.length_cons, List.length_nil, Nat.reduceAdd, Option.map_some, Option.map_none, List.map_cons, List.map_nil, zva, ↓reduceIte, Nat.reduceEqDiff, hbb])); (solve | (conv => lhs; simp only [zfr, Nat.reduceEqDiff, Nat.reduceLT, ↓reduceIte]))) | (apply o_end; (solve | (conv => lhs; simp only [zdr, inl, Nat.reduceEqDiff, or_false, or_true, ↓reduceIte]))) | apply g_seq | apply g_region | apply g_next | apply g_block | apply g_out | (apply g_true; (solve | (conv => lhs; simp only [zva, ↓reduceIte, Nat.reduceEqDiff]))) | (apply g_false; (solve | (conv => lhs; simp only [zva, ↓reduceIte, Nat.reduceEqDiff]))) | apply g_here | (apply g_past; (solve | decide)) | apply g_exit | apply g_retc | apply g_retb | apply g_ret | apply g_done)
    exact ⟨.inr rfl, _, rfl, rfl, L13⟩
  obtain ⟨k1, k2, k3, k4⟩ := more_law (s := s) (by omega) (by omega) c5 c6
  have gm3 : h3.get h.size = some ⟨cell3 m, true, 0⟩ := (L3.1 _ (by have := L2.2.2; omega)).trans gm2
  have lm3 : (h3.reserve 3).load true 3 h.size 0 = some (.agg (cell3 m)) := load_agg ((res3_get L3.2.1 _).trans gm3) (by simp [cell3]) rfl
  obtain ⟨hA, sv2, hB, hC, k5, hD, a1, a2, a3, a4, a5, LD⟩ := own_more (base := h.size) (m := m) L3.2.1 L13.2.2 (ht.left w L13) (by omega)
  have L1D := L13.trans LD
  repeat' (first | (apply o_op; (solve | (conv => lhs; simp (disch := first | omega | (simp only [Val.cells, List.all_cons, List.all_nil, Val.one, Bool.and_self])) only [zev, zex, Val.one, List.length_cons, List.length_nil, Nat.reduceAdd, Option.map_some, Option.map_none, List.map_cons, List.map_nil, zva, ↓reduceIte, Nat.reduceEqDiff])); (solve | (conv => lhs; simp only [zfr, Nat.reduceEqDiff, Nat.reduceLT, ↓reduceIte]))) | (apply o_yes; (solve | (conv => lhs; simp only [zva, ↓reduceIte, Nat.reduceEqDiff])); (solve | rfl)) | (apply o_no; (solve | (conv => lhs; simp only [zva, ↓reduceIte, Nat.reduceEqDiff])); (solve | decide); (solve | (conv => lhs; simp only [zfr, Nat.reduceEqDiff, Nat.reduceLT, ↓reduceIte]))) | (apply o_not; (solve | (conv => lhs; simp only [zva, ↓reduceIte, Nat.reduceEqDiff])); (solve | (conv => lhs; simp only [zfr, Nat.reduceEqDiff, Nat.reduceLT, ↓reduceIte]))) | (apply o_if; (solve | (conv => lhs; simp only [zva, ↓reduceIte, Nat.reduceEqDiff])); (solve | (intro hbb; conv => lhs; simp (disch := first | omega | (simp only [Val.cells, List.all_cons, List.all_nil, Val.one, Bool.and_self])) only [zev, zex, Val.one, List.length_cons, List.length_nil, Nat.reduceAdd, Option.map_some, Option.map_none, List.map_cons, List.map_nil, zva, ↓reduceIte, Nat.reduceEqDiff, hbb])); (solve | (conv => lhs; simp only [zfr, Nat.reduceEqDiff, Nat.reduceLT, ↓reduceIte]))) | (apply o_end; (solve | (conv => lhs; simp only [zdr, inl, Nat.reduceEqDiff, or_false, or_true, ↓reduceIte]))) | apply g_seq | apply g_region | apply g_next | apply g_block | apply g_out | (apply g_true; (solve | (conv => lhs; simp only [zva, ↓reduceIte, Nat.reduceEqDiff]))) | (apply g_false; (solve | (conv => lhs; simp only [zva, ↓reduceIte, Nat.reduceEqDiff]))) | apply g_here | (apply g_past; (solve | decide)) | apply g_exit | apply g_retc | apply g_retb | apply g_ret | apply g_done)
  apply g_regionk
  repeat' (first | (apply o_op; (solve | (conv => lhs; simp (disch := first | omega | (simp only [Val.cells, List.all_cons, List.all_nil, Val.one, Bool.and_self])) only [zev, zex, Val.one, List.length_cons, List.length_nil, Nat.reduceAdd, Option.map_some, Option.map_none, List.map_cons, List.map_nil, zva, ↓reduceIte, Nat.reduceEqDiff, lm3, a1, a2, a3, a4])); (solve | (conv => lhs; simp only [zfr, Nat.reduceEqDiff, Nat.reduceLT, ↓reduceIte]))) | (apply o_yes; (solve | (conv => lhs; simp only [zva, ↓reduceIte, Nat.reduceEqDiff, lm3, a1, a2, a3, a4])); (solve | rfl)) | (apply o_no; (solve | (conv => lhs; simp only [zva, ↓reduceIte, Nat.reduceEqDiff, lm3, a1, a2, a3, a4])); (solve | decide); (solve | (conv => lhs; simp only [zfr, Nat.reduceEqDiff, Nat.reduceLT, ↓reduceIte]))) | (apply o_not; (solve | (conv => lhs; simp only [zva, ↓reduceIte, Nat.reduceEqDiff])); (solve | (conv => lhs; simp only [zfr, Nat.reduceEqDiff, Nat.reduceLT, ↓reduceIte]))) | (apply o_if; (solve | (conv => lhs; simp only [zva, ↓reduceIte, Nat.reduceEqDiff])); (solve | (intro hbb; conv => lhs; simp (disch := first | omega | (simp only [Val.cells, List.all_cons, List.all_nil, Val.one, Bool.and_self])) only [zev, zex, Val.one, List.length_cons, List.length_nil, Nat.reduceAdd, Option.map_some, Option.map_none, List.map_cons, List.map_nil, zva, ↓reduceIte, Nat.reduceEqDiff, hbb, lm3, a1, a2, a3, a4])); (solve | (conv => lhs; simp only [zfr, Nat.reduceEqDiff, Nat.reduceLT, ↓reduceIte]))) | (apply o_end; (solve | (conv => lhs; simp only [zdr, inl, Nat.reduceEqDiff, or_false, or_true, ↓reduceIte]))) | apply g_seq | apply g_region | apply g_next | apply g_block | apply g_out | (apply g_true; (solve | (conv => lhs; simp only [zva, ↓reduceIte, Nat.reduceEqDiff, lm3, a1, a2, a3, a4]))) | (apply g_false; (solve | (conv => lhs; simp only [zva, ↓reduceIte, Nat.reduceEqDiff, lm3, a1, a2, a3, a4]))) | apply g_here | (apply g_past; (solve | decide)) | apply g_exit | apply g_retc | apply g_retb | apply g_ret | apply g_done)
  (apply o_call; (solve | (conv => lhs; simp only [Callee.find, List.map_cons, List.map_nil, List.cons_append, List.nil_append, zva, ↓reduceIte, Nat.reduceEqDiff])))
  · exact (Build_run hE hfB LD.2.1 (tb.keep w L1D.1) (by have := L1D.2.2; omega) (ht.left w L1D) (by omega)).lower (show h.size ≤ hD.size from L1D.2.2)
  rintro _ h5 ⟨rfl, L5⟩
  (conv => arg 8; simp only [zfr, Nat.reduceEqDiff, Nat.reduceLT, ↓reduceIte])
  have L15 := L1D.trans L5
  have hall : TriplesAt hD (.slice k5 0 (ts.length + 1) none) (ts ++ [m]) := by
    refine ⟨by simp, ?_⟩
    rw [spread_slice a5 (by simp [cells3_length])]
    simp only [List.drop_zero, List.length_append, List.length_singleton]
    rw [List.take_of_length_le (by rw [cells3_length]; simp)]
  repeat' (first | (apply o_op; (solve | (conv => lhs; simp (disch := first | omega | (simp only [Val.cells, List.all_cons, List.all_nil, Val.one, Bool.and_self])) only [zev, zex, Val.one, List.length_cons, List.length_nil, Nat.reduceAdd, Option.map_some, Option.map_none, List.map_cons, List.map_nil, zva, ↓reduceIte, Nat.reduceEqDiff])); (solve | (conv => lhs; simp only [zfr, Nat.reduceEqDiff, Nat.reduceLT, ↓reduceIte]))) | (apply o_yes; (solve | (conv => lhs; simp only [zva, ↓reduceIte, Nat.reduceEqDiff])); (solve | rfl)) | (apply o_no; (solve | (conv => lhs; simp only [zva, ↓reduceIte, Nat.reduceEqDiff])); (solve | decide); (solve | (conv => lhs; simp only [zfr, Nat.reduceEqDiff, Nat.reduceLT, ↓reduceIte]))) | (apply o_not; (solve | (conv => lhs; simp only [zva, ↓reduceIte, Nat.reduceEqDiff])); (solve | (conv => lhs; simp only [zfr, Nat.reduceEqDiff, Nat.reduceLT, ↓reduceIte]))) | (apply o_if; (solve | (conv => lhs; simp only [zva, ↓reduceIte, Nat.reduceEqDiff])); (solve | (intro hbb; conv => lhs; simp (disch := first | omega | (simp only [Val.cells, List.all_cons, List.all_nil, Val.one, Bool.and_self])) only [zev, zex, Val.one, List.length_cons, List.length_nil, Nat.reduceAdd, Option.map_some, Option.map_none, List.map_cons, List.map_nil, zva, ↓reduceIte, Nat.reduceEqDiff, hbb])); (solve | (conv => lhs; simp only [zfr, Nat.reduceEqDiff, Nat.reduceLT, ↓reduceIte]))) | (apply o_end; (solve | (conv => lhs; simp only [zdr, inl, Nat.reduceEqDiff, or_false, or_true, ↓reduceIte]))) | apply g_seq | apply g_region | apply g_next | apply g_block | apply g_out | (apply g_true; (solve | (conv => lhs; simp only [zva, ↓reduceIte, Nat.reduceEqDiff]))) | (apply g_false; (solve | (conv => lhs; simp only [zva, ↓reduceIte, Nat.reduceEqDiff]))) | apply g_here | (apply g_past; (solve | decide)) | apply g_exit | apply g_retc | apply g_retb | apply g_ret | apply g_done)
  (apply o_call; (solve | (conv => lhs; simp only [Callee.find, List.map_cons, List.map_nil, List.cons_append, List.nil_append, zva, ↓reduceIte, Nat.reduceEqDiff])))
  · exact (Build_run hE hfB L5.2.1 (tb.keep w L15.1) (by have := L15.2.2; omega) (hall.left LD.2.1 L5) (by simp only [List.length_append, List.length_singleton]; omega)).lower (show h.size ≤ h5.size from L15.2.2)
  rintro _ h6 ⟨rfl, L6⟩
  (conv => arg 8; simp only [zfr, Nat.reduceEqDiff, Nat.reduceLT, ↓reduceIte])
  have L16 := L15.trans L6
  have LD6 := L5.trans L6
  have hszD : h.size < hD.size := by have := L13.2.2; have := L2.2.2; have := L3.2.2; have := LD.2.2; omega
  have gmD : hD.get h.size = some ⟨cell3 m, true, 0⟩ := (LD.1 _ (by have := L2.2.2; have := L3.2.2; omega)).trans gm3
  have one : ∀ {hX : Heap}, Left' hD hX → hX.load true 3 h.size 0 = some (.agg (cell3 m)) := fun L => load_agg ((L.1 _ hszD).trans gmD) (by simp [cell3]) rfl
  have f2 : fill [Val.int .i64 0, .int .i64 0, .int .i64 0] [(0, 3, .agg (cell3 m))] = some (cell3 m) := rfl
  have bs : ∀ (hX : Heap), buildSliceV hX h.size none 3 1 (some (cell3 m)) = some (.slice hX.size 0 1 (some 1), hX.push (some ⟨cell3 m, true, 3⟩)) := fun hX => buildSliceV_new rfl
  have hone : ∀ (hX : Heap), TriplesAt (hX.push (some ⟨cell3 m, true, 3⟩)) (.slice hX.size 0 1 (some 1)) [m] := fun hX => by
    refine ⟨by simp, ?_⟩
    rw [spread_slice get_push_self (by simp [cell3])]
    simp [cells3, cell3]
  by_cases f0 : (buildR n (ts ++ [m])).2 = 0
  · obtain ⟨q1, q2⟩ := k1 f0
    simp only [f0, q1]
    repeat' (first | (apply o_op; (solve | (conv => lhs; simp (disch := first | omega | (simp only [Val.cells, List.all_cons, List.all_nil, Val.one, Bool.and_self])) only [zev, zex, Val.one, List.length_cons, List.length_nil, Nat.reduceAdd, Option.map_some, Option.map_none, List.map_cons, List.map_nil, zva, ↓reduceIte, Nat.reduceEqDiff, beq_self_eq_true])); (solve | (conv => lhs; simp only [zfr, Nat.reduceEqDiff, Nat.reduceLT, ↓reduceIte]))) | (apply o_yes; (solve | (conv => lhs; simp only [zva, ↓reduceIte, Nat.reduceEqDiff, beq_self_eq_true])); (solve | rfl)) | (apply o_no; (solve | (conv => lhs; simp only [zva, ↓reduceIte, Nat.reduceEqDiff, beq_self_eq_true])); (solve | decide); (solve | (conv => lhs; simp only [zfr, Nat.reduceEqDiff, Nat.reduceLT, ↓reduceIte]))) | (apply o_not; (solve | (conv => lhs; simp only [zva, ↓reduceIte, Nat.reduceEqDiff])); (solve | (conv => lhs; simp only [zfr, Nat.reduceEqDiff, Nat.reduceLT, ↓reduceIte]))) | (apply o_if; (solve | (conv => lhs; simp only [zva, ↓reduceIte, Nat.reduceEqDiff])); (solve | (intro hbb; conv => lhs; simp (disch := first | omega | (simp only [Val.cells, List.all_cons, List.all_nil, Val.one, Bool.and_self])) only [zev, zex, Val.one, List.length_cons, List.length_nil, Nat.reduceAdd, Option.map_some, Option.map_none, List.map_cons, List.map_nil, zva, ↓reduceIte, Nat.reduceEqDiff, hbb, beq_self_eq_true])); (solve | (conv => lhs; simp only [zfr, Nat.reduceEqDiff, Nat.reduceLT, ↓reduceIte]))) | (apply o_end; (solve | (conv => lhs; simp only [zdr, inl, Nat.reduceEqDiff, or_false, or_true, ↓reduceIte]))) | apply g_seq | apply g_region | apply g_next | apply g_block | apply g_out | (apply g_true; (solve | (conv => lhs; simp only [zva, ↓reduceIte, Nat.reduceEqDiff, beq_self_eq_true]))) | (apply g_false; (solve | (conv => lhs; simp only [zva, ↓reduceIte, Nat.reduceEqDiff, beq_self_eq_true]))) | apply g_here | (apply g_past; (solve | decide)) | apply g_exit | apply g_retc | apply g_retb | apply g_ret | apply g_done)
    (apply o_call; (solve | (conv => lhs; simp only [Callee.find, List.map_cons, List.map_nil, List.cons_append, List.nil_append, zva, ↓reduceIte, Nat.reduceEqDiff])))
    · exact (Shows_run hE hfS L6.2.1 (tb.keep w L16.1) (by have := L16.2.2; omega) (ht.left w L16) (by first | omega | (simp only [List.length_append, List.length_singleton]; omega))).lower (show h.size ≤ h6.size from L16.2.2)
    rintro _ h7 ⟨rfl, L7⟩
    (conv => arg 8; simp only [zfr, Nat.reduceEqDiff, Nat.reduceLT, ↓reduceIte])
    have L17 := L16.trans L7
    have LD7 := LD6.trans L7
    simp only [q2]
    have p1 := left_push L7.2.1 (some ⟨cell3 m, true, 3⟩)
    have lx := one LD7
    have L1p := L17.trans p1
    repeat' (first | (apply o_op; (solve | (conv => lhs; simp (disch := first | omega | (simp only [Val.cells, List.all_cons, List.all_nil, Val.one, Bool.and_self])) only [zev, zex, Val.one, List.length_cons, List.length_nil, Nat.reduceAdd, Option.map_some, Option.map_none, List.map_cons, List.map_nil, zva, ↓reduceIte, Nat.reduceEqDiff, bne_self_eq_false, beq_self_eq_true, Bool.not_true, lx, f2, bs])); (solve | (conv => lhs; simp only [zfr, Nat.reduceEqDiff, Nat.reduceLT, ↓reduceIte]))) | (apply o_yes; (solve | (conv => lhs; simp only [zva, ↓reduceIte, Nat.reduceEqDiff, bne_self_eq_false, beq_self_eq_true, Bool.not_true, lx, f2, bs])); (solve | rfl)) | (apply o_no; (solve | (conv => lhs; simp only [zva, ↓reduceIte, Nat.reduceEqDiff, bne_self_eq_false, beq_self_eq_true, Bool.not_true, lx, f2, bs])); (solve | decide); (solve | (conv => lhs; simp only [zfr, Nat.reduceEqDiff, Nat.reduceLT, ↓reduceIte]))) | (apply o_not; (solve | (conv => lhs; simp only [zva, ↓reduceIte, Nat.reduceEqDiff])); (solve | (conv => lhs; simp only [zfr, Nat.reduceEqDiff, Nat.reduceLT, ↓reduceIte]))) | (apply o_if; (solve | (conv => lhs; simp only [zva, ↓reduceIte, Nat.reduceEqDiff])); (solve | (intro hbb; conv => lhs; simp (disch := first | omega | (simp only [Val.cells, List.all_cons, List.all_nil, Val.one, Bool.and_self])) only [zev, zex, Val.one, List.length_cons, List.length_nil, Nat.reduceAdd, Option.map_some, Option.map_none, List.map_cons, List.map_nil, zva, ↓reduceIte, Nat.reduceEqDiff, hbb, bne_self_eq_false, beq_self_eq_true, Bool.not_true, lx, f2, bs])); (solve | (conv => lhs; simp only [zfr, Nat.reduceEqDiff, Nat.reduceLT, ↓reduceIte]))) | (apply o_end; (solve | (conv => lhs; simp only [zdr, inl, Nat.reduceEqDiff, or_false, or_true, ↓reduceIte]))) | apply g_seq | apply g_region | apply g_next | apply g_block | apply g_out | (apply g_true; (solve | (conv => lhs; simp only [zva, ↓reduceIte, Nat.reduceEqDiff, bne_self_eq_false, beq_self_eq_true, Bool.not_true, lx, f2, bs]))) | (apply g_false; (solve | (conv => lhs; simp only [zva, ↓reduceIte, Nat.reduceEqDiff, bne_self_eq_false, beq_self_eq_true, Bool.not_true, lx, f2, bs]))) | apply g_here | (apply g_past; (solve | decide)) | apply g_exit | apply g_retc | apply g_retb | apply g_ret | apply g_done)
    (apply o_call; (solve | (conv => lhs; simp only [Callee.find, List.map_cons, List.map_nil, List.cons_append, List.nil_append, zva, ↓reduceIte, Nat.reduceEqDiff])))
    · exact (Shows_run hE hfS p1.2.1 (tb.keep w L1p.1) (by have := L1p.2.2; omega) (hone h7) (by first | omega | (simp only [List.length_append, List.length_singleton]; omega))).lower (show h.size ≤ (h7.push (some ⟨cell3 m, true, 3⟩)).size from L1p.2.2)
    rintro _ h8 ⟨rfl, L8⟩
    (conv => arg 8; simp only [zfr, Nat.reduceEqDiff, Nat.reduceLT, ↓reduceIte])
    have L18 := L1p.trans L8
    have LD8 := (LD7.trans p1).trans L8
    obtain ⟨k21, k22⟩ := k2 q1
    simp only [k21]
    cases his : (showsR n (buildR n ts).1 [m]).1
    · repeat' (first | (apply o_op; (solve | (conv => lhs; simp (disch := first | omega | (simp only [Val.cells, List.all_cons, List.all_nil, Val.one, Bool.and_self])) only [zev, zex, Val.one, List.length_cons, List.length_nil, Nat.reduceAdd, Option.map_some, Option.map_none, List.map_cons, List.map_nil, zva, ↓reduceIte, Nat.reduceEqDiff, bne_self_eq_false])); (solve | (conv => lhs; simp only [zfr, Nat.reduceEqDiff, Nat.reduceLT, ↓reduceIte]))) | (apply o_yes; (solve | (conv => lhs; simp only [zva, ↓reduceIte, Nat.reduceEqDiff, bne_self_eq_false])); (solve | rfl)) | (apply o_no; (solve | (conv => lhs; simp only [zva, ↓reduceIte, Nat.reduceEqDiff, bne_self_eq_false])); (solve | decide); (solve | (conv => lhs; simp only [zfr, Nat.reduceEqDiff, Nat.reduceLT, ↓reduceIte]))) | (apply o_not; (solve | (conv => lhs; simp only [zva, ↓reduceIte, Nat.reduceEqDiff])); (solve | (conv => lhs; simp only [zfr, Nat.reduceEqDiff, Nat.reduceLT, ↓reduceIte]))) | (apply o_if; (solve | (conv => lhs; simp only [zva, ↓reduceIte, Nat.reduceEqDiff])); (solve | (intro hbb; conv => lhs; simp (disch := first | omega | (simp only [Val.cells, List.all_cons, List.all_nil, Val.one, Bool.and_self])) only [zev, zex, Val.one, List.length_cons, List.length_nil, Nat.reduceAdd, Option.map_some, Option.map_none, List.map_cons, List.map_nil, zva, ↓reduceIte, Nat.reduceEqDiff, hbb, bne_self_eq_false])); (solve | (conv => lhs; simp only [zfr, Nat.reduceEqDiff, Nat.reduceLT, ↓reduceIte]))) | (apply o_end; (solve | (conv => lhs; simp only [zdr, inl, Nat.reduceEqDiff, or_false, or_true, ↓reduceIte]))) | apply g_seq | apply g_region | apply g_next | apply g_block | apply g_out | (apply g_true; (solve | (conv => lhs; simp only [zva, ↓reduceIte, Nat.reduceEqDiff, bne_self_eq_false]))) | (apply g_false; (solve | (conv => lhs; simp only [zva, ↓reduceIte, Nat.reduceEqDiff, bne_self_eq_false]))) | apply g_here | (apply g_past; (solve | decide)) | apply g_exit | apply g_retc | apply g_retb | apply g_ret | apply g_done)
      repeat' (first | (apply o_op; (solve | (conv => lhs; simp (disch := first | omega | (simp only [Val.cells, List.all_cons, List.all_nil, Val.one, Bool.and_self])) only [zev, zex, Val.one, List.length_cons, List.length_nil, Nat.reduceAdd, Option.map_some, Option.map_none, List.map_cons, List.map_nil, zva, ↓reduceIte, Nat.reduceEqDiff])); (solve | (conv => lhs; simp only [zfr, Nat.reduceEqDiff, Nat.reduceLT, ↓reduceIte]))) | (apply o_yes; (solve | (conv => lhs; simp only [zva, ↓reduceIte, Nat.reduceEqDiff])); (solve | rfl)) | (apply o_no; (solve | (conv => lhs; simp only [zva, ↓reduceIte, Nat.reduceEqDiff])); (solve | decide); (solve | (conv => lhs; simp only [zfr, Nat.reduceEqDiff, Nat.reduceLT, ↓reduceIte]))) | (apply o_not; (solve | (conv => lhs; simp only [zva, ↓reduceIte, Nat.reduceEqDiff])); (solve | (conv => lhs; simp only [zfr, Nat.reduceEqDiff, Nat.reduceLT, ↓reduceIte]))) | (apply o_if; (solve | (conv => lhs; simp only [zva, ↓reduceIte, Nat.reduceEqDiff])); (solve | (intro hbb; conv => lhs; simp (disch := first | omega | (simp only [Val.cells, List.all_cons, List.all_nil, Val.one, Bool.and_self])) only [zev, zex, Val.one, List.length_cons, List.length_nil, Nat.reduceAdd, Option.map_some, Option.map_none, List.map_cons, List.map_nil, zva, ↓reduceIte, Nat.reduceEqDiff, hbb])); (solve | (conv => lhs; simp only [zfr, Nat.reduceEqDiff, Nat.reduceLT, ↓reduceIte]))) | (apply o_end; (solve | (conv => lhs; simp only [zdr, inl, Nat.reduceEqDiff, or_false, or_true, ↓reduceIte]))) | apply g_seq | apply g_region | apply g_next | apply g_block | apply g_out | (apply g_true; (solve | (conv => lhs; simp only [zva, ↓reduceIte, Nat.reduceEqDiff]))) | (apply g_false; (solve | (conv => lhs; simp only [zva, ↓reduceIte, Nat.reduceEqDiff]))) | apply g_here | (apply g_past; (solve | decide)) | apply g_exit | apply g_retc | apply g_retb | apply g_ret | apply g_done)
      (apply o_call; (solve | (conv => lhs; simp only [Callee.find, List.map_cons, List.map_nil, List.cons_append, List.nil_append, zva, ↓reduceIte, Nat.reduceEqDiff])))
      · exact (Shows_run hE hfS L8.2.1 (tb.keep w L18.1) (by have := L18.2.2; omega) (hall.left LD.2.1 LD8) (by first | omega | (simp only [List.length_append, List.length_singleton]; omega))).lower (show h.size ≤ h8.size from L18.2.2)
      rintro _ hx ⟨rfl, Lx⟩
      (conv => arg 8; simp only [zfr, Nat.reduceEqDiff, Nat.reduceLT, ↓reduceIte])
      have L1x := L18.trans Lx
      repeat' (first | (apply o_op; (solve | (conv => lhs; simp (disch := first | omega | (simp only [Val.cells, List.all_cons, List.all_nil, Val.one, Bool.and_self])) only [zev, zex, Val.one, List.length_cons, List.length_nil, Nat.reduceAdd, Option.map_some, Option.map_none, List.map_cons, List.map_nil, zva, ↓reduceIte, Nat.reduceEqDiff])); (solve | (conv => lhs; simp only [zfr, Nat.reduceEqDiff, Nat.reduceLT, ↓reduceIte]))) | (apply o_yes; (solve | (conv => lhs; simp only [zva, ↓reduceIte, Nat.reduceEqDiff])); (solve | rfl)) | (apply o_no; (solve | (conv => lhs; simp only [zva, ↓reduceIte, Nat.reduceEqDiff])); (solve | decide); (solve | (conv => lhs; simp only [zfr, Nat.reduceEqDiff, Nat.reduceLT, ↓reduceIte]))) | (apply o_not; (solve | (conv => lhs; simp only [zva, ↓reduceIte, Nat.reduceEqDiff])); (solve | (conv => lhs; simp only [zfr, Nat.reduceEqDiff, Nat.reduceLT, ↓reduceIte]))) | (apply o_if; (solve | (conv => lhs; simp only [zva, ↓reduceIte, Nat.reduceEqDiff])); (solve | (intro hbb; conv => lhs; simp (disch := first | omega | (simp only [Val.cells, List.all_cons, List.all_nil, Val.one, Bool.and_self])) only [zev, zex, Val.one, List.length_cons, List.length_nil, Nat.reduceAdd, Option.map_some, Option.map_none, List.map_cons, List.map_nil, zva, ↓reduceIte, Nat.reduceEqDiff, hbb])); (solve | (conv => lhs; simp only [zfr, Nat.reduceEqDiff, Nat.reduceLT, ↓reduceIte]))) | (apply o_end; (solve | (conv => lhs; simp only [zdr, inl, Nat.reduceEqDiff, or_false, or_true, ↓reduceIte]))) | apply g_seq | apply g_region | apply g_next | apply g_block | apply g_out | (apply g_true; (solve | (conv => lhs; simp only [zva, ↓reduceIte, Nat.reduceEqDiff]))) | (apply g_false; (solve | (conv => lhs; simp only [zva, ↓reduceIte, Nat.reduceEqDiff]))) | apply g_here | (apply g_past; (solve | decide)) | apply g_exit | apply g_retc | apply g_retb | apply g_ret | apply g_done)
      (apply o_call; (solve | (conv => lhs; simp only [Callee.find, List.map_cons, List.map_nil, List.cons_append, List.nil_append, zva, ↓reduceIte, Nat.reduceEqDiff])))
      · exact (Shows_run hE hfS Lx.2.1 (tb.keep w L1x.1) (by have := L1x.2.2; omega) (ht.left w L1x) (by first | omega | (simp only [List.length_append, List.length_singleton]; omega))).lower (show h.size ≤ hx.size from L1x.2.2)
      rintro _ hy ⟨rfl, Ly⟩
      (conv => arg 8; simp only [zfr, Nat.reduceEqDiff, Nat.reduceLT, ↓reduceIte])
      have L1y := L1x.trans Ly
      simp only [k3]
      have kk : ((showsR n s (ts ++ [m])).1 = false) ∨ ((showsR n s (ts ++ [m])).1 = true ∧ (showsR n s ts).1 = true) := by
        cases hxx : (showsR n s (ts ++ [m])).1
        · exact .inl rfl
        · exact .inr ⟨rfl, k4 hxx⟩
      rcases kk with kk | ⟨kk, kk2⟩
      · simp only [kk]
        repeat' (first | (apply o_op; (solve | (conv => lhs; simp (disch := first | omega | (simp only [Val.cells, List.all_cons, List.all_nil, Val.one, Bool.and_self])) only [zev, zex, Val.one, List.length_cons, List.length_nil, Nat.reduceAdd, Option.map_some, Option.map_none, List.map_cons, List.map_nil, zva, ↓reduceIte, Nat.reduceEqDiff, beq_self_eq_true, Bool.not_false])); (solve | (conv => lhs; simp only [zfr, Nat.reduceEqDiff, Nat.reduceLT, ↓reduceIte]))) | (apply o_yes; (solve | (conv => lhs; simp only [zva, ↓reduceIte, Nat.reduceEqDiff, beq_self_eq_true, Bool.not_false])); (solve | rfl)) | (apply o_no; (solve | (conv => lhs; simp only [zva, ↓reduceIte, Nat.reduceEqDiff, beq_self_eq_true, Bool.not_false])); (solve | decide); (solve | (conv => lhs; simp only [zfr, Nat.reduceEqDiff, Nat.reduceLT, ↓reduceIte]))) | (apply o_not; (solve | (conv => lhs; simp only [zva, ↓reduceIte, Nat.reduceEqDiff])); (solve | (conv => lhs; simp only [zfr, Nat.reduceEqDiff, Nat.reduceLT, ↓reduceIte]))) | (apply o_if; (solve | (conv => lhs; simp only [zva, ↓reduceIte, Nat.reduceEqDiff])); (solve | (intro hbb; conv => lhs; simp (disch := first | omega | (simp only [Val.cells, List.all_cons, List.all_nil, Val.one, Bool.and_self])) only [zev, zex, Val.one, List.length_cons, List.length_nil, Nat.reduceAdd, Option.map_some, Option.map_none, List.map_cons, List.map_nil, zva, ↓reduceIte, Nat.reduceEqDiff, hbb, beq_self_eq_true, Bool.not_false])); (solve | (conv => lhs; simp only [zfr, Nat.reduceEqDiff, Nat.reduceLT, ↓reduceIte]))) | (apply o_end; (solve | (conv => lhs; simp only [zdr, inl, Nat.reduceEqDiff, or_false, or_true, ↓reduceIte]))) | apply g_seq | apply g_region | apply g_next | apply g_block | apply g_out | (apply g_true; (solve | (conv => lhs; simp only [zva, ↓reduceIte, Nat.reduceEqDiff, beq_self_eq_true, Bool.not_false]))) | (apply g_false; (solve | (conv => lhs; simp only [zva, ↓reduceIte, Nat.reduceEqDiff, beq_self_eq_true, Bool.not_false]))) | apply g_here | (apply g_past; (solve | decide)) | apply g_exit | apply g_retc | apply g_retb | apply g_ret | apply g_done)
        (apply o_call; (solve | (conv => lhs; simp only [Callee.find, List.map_cons, List.map_nil, List.cons_append, List.nil_append, zva, ↓reduceIte, Nat.reduceEqDiff])))
        · exact alive_run hE (hf _ (by decide)) (tb.keep w L1y.1)
        rintro _ h' ⟨rfl, e⟩
        have e := e.symm
        subst e
        (conv => arg 8; simp only [zfr, Nat.reduceEqDiff, Nat.reduceLT, ↓reduceIte])
        repeat' (first | (apply o_op; (solve | (conv => lhs; simp (disch := first | omega | (simp only [Val.cells, List.all_cons, List.all_nil, Val.one, Bool.and_self])) only [zev, zex, Val.one, List.length_cons, List.length_nil, Nat.reduceAdd, Option.map_some, Option.map_none, List.map_cons, List.map_nil, zva, ↓reduceIte, Nat.reduceEqDiff])); (solve | (conv => lhs; simp only [zfr, Nat.reduceEqDiff, Nat.reduceLT, ↓reduceIte]))) | (apply o_yes; (solve | (conv => lhs; simp only [zva, ↓reduceIte, Nat.reduceEqDiff])); (solve | rfl)) | (apply o_no; (solve | (conv => lhs; simp only [zva, ↓reduceIte, Nat.reduceEqDiff])); (solve | decide); (solve | (conv => lhs; simp only [zfr, Nat.reduceEqDiff, Nat.reduceLT, ↓reduceIte]))) | (apply o_not; (solve | (conv => lhs; simp only [zva, ↓reduceIte, Nat.reduceEqDiff])); (solve | (conv => lhs; simp only [zfr, Nat.reduceEqDiff, Nat.reduceLT, ↓reduceIte]))) | (apply o_if; (solve | (conv => lhs; simp only [zva, ↓reduceIte, Nat.reduceEqDiff])); (solve | (intro hbb; conv => lhs; simp (disch := first | omega | (simp only [Val.cells, List.all_cons, List.all_nil, Val.one, Bool.and_self])) only [zev, zex, Val.one, List.length_cons, List.length_nil, Nat.reduceAdd, Option.map_some, Option.map_none, List.map_cons, List.map_nil, zva, ↓reduceIte, Nat.reduceEqDiff, hbb])); (solve | (conv => lhs; simp only [zfr, Nat.reduceEqDiff, Nat.reduceLT, ↓reduceIte]))) | (apply o_end; (solve | (conv => lhs; simp only [zdr, inl, Nat.reduceEqDiff, or_false, or_true, ↓reduceIte]))) | apply g_seq | apply g_region | apply g_next | apply g_block | apply g_out | (apply g_true; (solve | (conv => lhs; simp only [zva, ↓reduceIte, Nat.reduceEqDiff]))) | (apply g_false; (solve | (conv => lhs; simp only [zva, ↓reduceIte, Nat.reduceEqDiff]))) | apply g_here | (apply g_past; (solve | decide)) | apply g_exit | apply g_retc | apply g_retb | apply g_ret | apply g_done)
        exact ⟨.inr rfl, _, rfl, rfl, L1y⟩
      · simp only [kk, kk2]
        repeat' (first | (apply o_op; (solve | (conv => lhs; simp (disch := first | omega | (simp only [Val.cells, List.all_cons, List.all_nil, Val.one, Bool.and_self])) only [zev, zex, Val.one, List.length_cons, List.length_nil, Nat.reduceAdd, Option.map_some, Option.map_none, List.map_cons, List.map_nil, zva, ↓reduceIte, Nat.reduceEqDiff, beq_self_eq_true, Bool.not_true])); (solve | (conv => lhs; simp only [zfr, Nat.reduceEqDiff, Nat.reduceLT, ↓reduceIte]))) | (apply o_yes; (solve | (conv => lhs; simp only [zva, ↓reduceIte, Nat.reduceEqDiff, beq_self_eq_true, Bool.not_true])); (solve | rfl)) | (apply o_no; (solve | (conv => lhs; simp only [zva, ↓reduceIte, Nat.reduceEqDiff, beq_self_eq_true, Bool.not_true])); (solve | decide); (solve | (conv => lhs; simp only [zfr, Nat.reduceEqDiff, Nat.reduceLT, ↓reduceIte]))) | (apply o_not; (solve | (conv => lhs; simp only [zva, ↓reduceIte, Nat.reduceEqDiff])); (solve | (conv => lhs; simp only [zfr, Nat.reduceEqDiff, Nat.reduceLT, ↓reduceIte]))) | (apply o_if; (solve | (conv => lhs; simp only [zva, ↓reduceIte, Nat.reduceEqDiff])); (solve | (intro hbb; conv => lhs; simp (disch := first | omega | (simp only [Val.cells, List.all_cons, List.all_nil, Val.one, Bool.and_self])) only [zev, zex, Val.one, List.length_cons, List.length_nil, Nat.reduceAdd, Option.map_some, Option.map_none, List.map_cons, List.map_nil, zva, ↓reduceIte, Nat.reduceEqDiff, hbb, beq_self_eq_true, Bool.not_true])); (solve | (conv => lhs; simp only [zfr, Nat.reduceEqDiff, Nat.reduceLT, ↓reduceIte]))) | (apply o_end; (solve | (conv => lhs; simp only [zdr, inl, Nat.reduceEqDiff, or_false, or_true, ↓reduceIte]))) | apply g_seq | apply g_region | apply g_next | apply g_block | apply g_out | (apply g_true; (solve | (conv => lhs; simp only [zva, ↓reduceIte, Nat.reduceEqDiff, beq_self_eq_true, Bool.not_true]))) | (apply g_false; (solve | (conv => lhs; simp only [zva, ↓reduceIte, Nat.reduceEqDiff, beq_self_eq_true, Bool.not_true]))) | apply g_here | (apply g_past; (solve | decide)) | apply g_exit | apply g_retc | apply g_retb | apply g_ret | apply g_done)
        (apply o_call; (solve | (conv => lhs; simp only [Callee.find, List.map_cons, List.map_nil, List.cons_append, List.nil_append, zva, ↓reduceIte, Nat.reduceEqDiff])))
        · exact alive_run hE (hf _ (by decide)) (tb.keep w L1y.1)
        rintro _ h' ⟨rfl, e⟩
        have e := e.symm
        subst e
        (conv => arg 8; simp only [zfr, Nat.reduceEqDiff, Nat.reduceLT, ↓reduceIte])
        repeat' (first | (apply o_op; (solve | (conv => lhs; simp (disch := first | omega | (simp only [Val.cells, List.all_cons, List.all_nil, Val.one, Bool.and_self])) only [zev, zex, Val.one, List.length_cons, List.length_nil, Nat.reduceAdd, Option.map_some, Option.map_none, List.map_cons, List.map_nil, zva, ↓reduceIte, Nat.reduceEqDiff])); (solve | (conv => lhs; simp only [zfr, Nat.reduceEqDiff, Nat.reduceLT, ↓reduceIte]))) | (apply o_yes; (solve | (conv => lhs; simp only [zva, ↓reduceIte, Nat.reduceEqDiff])); (solve | rfl)) | (apply o_no; (solve | (conv => lhs; simp only [zva, ↓reduceIte, Nat.reduceEqDiff])); (solve | decide); (solve | (conv => lhs; simp only [zfr, Nat.reduceEqDiff, Nat.reduceLT, ↓reduceIte]))) | (apply o_not; (solve | (conv => lhs; simp only [zva, ↓reduceIte, Nat.reduceEqDiff])); (solve | (conv => lhs; simp only [zfr, Nat.reduceEqDiff, Nat.reduceLT, ↓reduceIte]))) | (apply o_if; (solve | (conv => lhs; simp only [zva, ↓reduceIte, Nat.reduceEqDiff])); (solve | (intro hbb; conv => lhs; simp (disch := first | omega | (simp only [Val.cells, List.all_cons, List.all_nil, Val.one, Bool.and_self])) only [zev, zex, Val.one, List.length_cons, List.length_nil, Nat.reduceAdd, Option.map_some, Option.map_none, List.map_cons, List.map_nil, zva, ↓reduceIte, Nat.reduceEqDiff, hbb])); (solve | (conv => lhs; simp only [zfr, Nat.reduceEqDiff, Nat.reduceLT, ↓reduceIte]))) | (apply o_end; (solve | (conv => lhs; simp only [zdr, inl, Nat.reduceEqDiff, or_false, or_true, ↓reduceIte]))) | apply g_seq | apply g_region | apply g_next | apply g_block | apply g_out | (apply g_true; (solve | (conv => lhs; simp only [zva, ↓reduceIte, Nat.reduceEqDiff]))) | (apply g_false; (solve | (conv => lhs; simp only [zva, ↓reduceIte, Nat.reduceEqDiff]))) | apply g_here | (apply g_past; (solve | decide)) | apply g_exit | apply g_retc | apply g_retb | apply g_ret | apply g_done)
        exact ⟨.inr rfl, _, rfl, rfl, L1y⟩
    · repeat' (first | (apply o_op; (solve | (conv => lhs; simp (disch := first | omega | (simp only [Val.cells, List.all_cons, List.all_nil, Val.one, Bool.and_self])) only [zev, zex, Val.one, List.length_cons, List.length_nil, Nat.reduceAdd, Option.map_some, Option.map_none, List.map_cons, List.map_nil, zva, ↓reduceIte, Nat.reduceEqDiff, bne_self_eq_false])); (solve | (conv => lhs; simp only [zfr, Nat.reduceEqDiff, Nat.reduceLT, ↓reduceIte]))) | (apply o_yes; (solve | (conv => lhs; simp only [zva, ↓reduceIte, Nat.reduceEqDiff, bne_self_eq_false])); (solve | rfl)) | (apply o_no; (solve | (conv => lhs; simp only [zva, ↓reduceIte, Nat.reduceEqDiff, bne_self_eq_false])); (solve | decide); (solve | (conv => lhs; simp only [zfr, Nat.reduceEqDiff, Nat.reduceLT, ↓reduceIte]))) | (apply o_not; (solve | (conv => lhs; simp only [zva, ↓reduceIte, Nat.reduceEqDiff])); (solve | (conv => lhs; simp only [zfr, Nat.reduceEqDiff, Nat.reduceLT, ↓reduceIte]))) | (apply o_if; (solve | (conv => lhs; simp only [zva, ↓reduceIte, Nat.reduceEqDiff])); (solve | (intro hbb; conv => lhs; simp (disch := first | omega | (simp only [Val.cells, List.all_cons, List.all_nil, Val.one, Bool.and_self])) only [zev, zex, Val.one, List.length_cons, List.length_nil, Nat.reduceAdd, Option.map_some, Option.map_none, List.map_cons, List.map_nil, zva, ↓reduceIte, Nat.reduceEqDiff, hbb, bne_self_eq_false])); (solve | (conv => lhs; simp only [zfr, Nat.reduceEqDiff, Nat.reduceLT, ↓reduceIte]))) | (apply o_end; (solve | (conv => lhs; simp only [zdr, inl, Nat.reduceEqDiff, or_false, or_true, ↓reduceIte]))) | apply g_seq | apply g_region | apply g_next | apply g_block | apply g_out | (apply g_true; (solve | (conv => lhs; simp only [zva, ↓reduceIte, Nat.reduceEqDiff, bne_self_eq_false]))) | (apply g_false; (solve | (conv => lhs; simp only [zva, ↓reduceIte, Nat.reduceEqDiff, bne_self_eq_false]))) | apply g_here | (apply g_past; (solve | decide)) | apply g_exit | apply g_retc | apply g_retb | apply g_ret | apply g_done)
      repeat' (first | (apply o_op; (solve | (conv => lhs; simp (disch := first | omega | (simp only [Val.cells, List.all_cons, List.all_nil, Val.one, Bool.and_self])) only [zev, zex, Val.one, List.length_cons, List.length_nil, Nat.reduceAdd, Option.map_some, Option.map_none, List.map_cons, List.map_nil, zva, ↓reduceIte, Nat.reduceEqDiff])); (solve | (conv => lhs; simp only [zfr, Nat.reduceEqDiff, Nat.reduceLT, ↓reduceIte]))) | (apply o_yes; (solve | (conv => lhs; simp only [zva, ↓reduceIte, Nat.reduceEqDiff])); (solve | rfl)) | (apply o_no; (solve | (conv => lhs; simp only [zva, ↓reduceIte, Nat.reduceEqDiff])); (solve | decide); (solve | (conv => lhs; simp only [zfr, Nat.reduceEqDiff, Nat.reduceLT, ↓reduceIte]))) | (apply o_not; (solve | (conv => lhs; simp only [zva, ↓reduceIte, Nat.reduceEqDiff])); (solve | (conv => lhs; simp only [zfr, Nat.reduceEqDiff, Nat.reduceLT, ↓reduceIte]))) | (apply o_if; (solve | (conv => lhs; simp only [zva, ↓reduceIte, Nat.reduceEqDiff])); (solve | (intro hbb; conv => lhs; simp (disch := first | omega | (simp only [Val.cells, List.all_cons, List.all_nil, Val.one, Bool.and_self])) only [zev, zex, Val.one, List.length_cons, List.length_nil, Nat.reduceAdd, Option.map_some, Option.map_none, List.map_cons, List.map_nil, zva, ↓reduceIte, Nat.reduceEqDiff, hbb])); (solve | (conv => lhs; simp only [zfr, Nat.reduceEqDiff, Nat.reduceLT, ↓reduceIte]))) | (apply o_end; (solve | (conv => lhs; simp only [zdr, inl, Nat.reduceEqDiff, or_false, or_true, ↓reduceIte]))) | apply g_seq | apply g_region | apply g_next | apply g_block | apply g_out | (apply g_true; (solve | (conv => lhs; simp only [zva, ↓reduceIte, Nat.reduceEqDiff]))) | (apply g_false; (solve | (conv => lhs; simp only [zva, ↓reduceIte, Nat.reduceEqDiff]))) | apply g_here | (apply g_past; (solve | decide)) | apply g_exit | apply g_retc | apply g_retb | apply g_ret | apply g_done)
      (apply o_call; (solve | (conv => lhs; simp only [Callee.find, List.map_cons, List.map_nil, List.cons_append, List.nil_append, zva, ↓reduceIte, Nat.reduceEqDiff])))
      · exact (Shows_run hE hfS L8.2.1 (tb.keep w L18.1) (by have := L18.2.2; omega) (hall.left LD.2.1 LD8) (by first | omega | (simp only [List.length_append, List.length_singleton]; omega))).lower (show h.size ≤ h8.size from L18.2.2)
      rintro _ hx ⟨rfl, Lx⟩
      (conv => arg 8; simp only [zfr, Nat.reduceEqDiff, Nat.reduceLT, ↓reduceIte])
      have L1x := L18.trans Lx
      repeat' (first | (apply o_op; (solve | (conv => lhs; simp (disch := first | omega | (simp only [Val.cells, List.all_cons, List.all_nil, Val.one, Bool.and_self])) only [zev, zex, Val.one, List.length_cons, List.length_nil, Nat.reduceAdd, Option.map_some, Option.map_none, List.map_cons, List.map_nil, zva, ↓reduceIte, Nat.reduceEqDiff])); (solve | (conv => lhs; simp only [zfr, Nat.reduceEqDiff, Nat.reduceLT, ↓reduceIte]))) | (apply o_yes; (solve | (conv => lhs; simp only [zva, ↓reduceIte, Nat.reduceEqDiff])); (solve | rfl)) | (apply o_no; (solve | (conv => lhs; simp only [zva, ↓reduceIte, Nat.reduceEqDiff])); (solve | decide); (solve | (conv => lhs; simp only [zfr, Nat.reduceEqDiff, Nat.reduceLT, ↓reduceIte]))) | (apply o_not; (solve | (conv => lhs; simp only [zva, ↓reduceIte, Nat.reduceEqDiff])); (solve | (conv => lhs; simp only [zfr, Nat.reduceEqDiff, Nat.reduceLT, ↓reduceIte]))) | (apply o_if; (solve | (conv => lhs; simp only [zva, ↓reduceIte, Nat.reduceEqDiff])); (solve | (intro hbb; conv => lhs; simp (disch := first | omega | (simp only [Val.cells, List.all_cons, List.all_nil, Val.one, Bool.and_self])) only [zev, zex, Val.one, List.length_cons, List.length_nil, Nat.reduceAdd, Option.map_some, Option.map_none, List.map_cons, List.map_nil, zva, ↓reduceIte, Nat.reduceEqDiff, hbb])); (solve | (conv => lhs; simp only [zfr, Nat.reduceEqDiff, Nat.reduceLT, ↓reduceIte]))) | (apply o_end; (solve | (conv => lhs; simp only [zdr, inl, Nat.reduceEqDiff, or_false, or_true, ↓reduceIte]))) | apply g_seq | apply g_region | apply g_next | apply g_block | apply g_out | (apply g_true; (solve | (conv => lhs; simp only [zva, ↓reduceIte, Nat.reduceEqDiff]))) | (apply g_false; (solve | (conv => lhs; simp only [zva, ↓reduceIte, Nat.reduceEqDiff]))) | apply g_here | (apply g_past; (solve | decide)) | apply g_exit | apply g_retc | apply g_retb | apply g_ret | apply g_done)
      (apply o_call; (solve | (conv => lhs; simp only [Callee.find, List.map_cons, List.map_nil, List.cons_append, List.nil_append, zva, ↓reduceIte, Nat.reduceEqDiff])))
      · exact (Shows_run hE hfS Lx.2.1 (tb.keep w L1x.1) (by have := L1x.2.2; omega) (ht.left w L1x) (by first | omega | (simp only [List.length_append, List.length_singleton]; omega))).lower (show h.size ≤ hx.size from L1x.2.2)
      rintro _ hy ⟨rfl, Ly⟩
      (conv => arg 8; simp only [zfr, Nat.reduceEqDiff, Nat.reduceLT, ↓reduceIte])
      have L1y := L1x.trans Ly
      simp only [k3]
      have kk : ((showsR n s (ts ++ [m])).1 = false) ∨ ((showsR n s (ts ++ [m])).1 = true ∧ (showsR n s ts).1 = true) := by
        cases hxx : (showsR n s (ts ++ [m])).1
        · exact .inl rfl
        · exact .inr ⟨rfl, k4 hxx⟩
      rcases kk with kk | ⟨kk, kk2⟩
      · simp only [kk]
        repeat' (first | (apply o_op; (solve | (conv => lhs; simp (disch := first | omega | (simp only [Val.cells, List.all_cons, List.all_nil, Val.one, Bool.and_self])) only [zev, zex, Val.one, List.length_cons, List.length_nil, Nat.reduceAdd, Option.map_some, Option.map_none, List.map_cons, List.map_nil, zva, ↓reduceIte, Nat.reduceEqDiff, beq_self_eq_true, Bool.not_false])); (solve | (conv => lhs; simp only [zfr, Nat.reduceEqDiff, Nat.reduceLT, ↓reduceIte]))) | (apply o_yes; (solve | (conv => lhs; simp only [zva, ↓reduceIte, Nat.reduceEqDiff, beq_self_eq_true, Bool.not_false])); (solve | rfl)) | (apply o_no; (solve | (conv => lhs; simp only [zva, ↓reduceIte, Nat.reduceEqDiff, beq_self_eq_true, Bool.not_false])); (solve | decide); (solve | (conv => lhs; simp only [zfr, Nat.reduceEqDiff, Nat.reduceLT, ↓reduceIte]))) | (apply o_not; (solve | (conv => lhs; simp only [zva, ↓reduceIte, Nat.reduceEqDiff])); (solve | (conv => lhs; simp only [zfr, Nat.reduceEqDiff, Nat.reduceLT, ↓reduceIte]))) | (apply o_if; (solve | (conv => lhs; simp only [zva, ↓reduceIte, Nat.reduceEqDiff])); (solve | (intro hbb; conv => lhs; simp (disch := first | omega | (simp only [Val.cells, List.all_cons, List.all_nil, Val.one, Bool.and_self])) only [zev, zex, Val.one, List.length_cons, List.length_nil, Nat.reduceAdd, Option.map_some, Option.map_none, List.map_cons, List.map_nil, zva, ↓reduceIte, Nat.reduceEqDiff, hbb, beq_self_eq_true, Bool.not_false])); (solve | (conv => lhs; simp only [zfr, Nat.reduceEqDiff, Nat.reduceLT, ↓reduceIte]))) | (apply o_end; (solve | (conv => lhs; simp only [zdr, inl, Nat.reduceEqDiff, or_false, or_true, ↓reduceIte]))) | apply g_seq | apply g_region | apply g_next | apply g_block | apply g_out | (apply g_true; (solve | (conv => lhs; simp only [zva, ↓reduceIte, Nat.reduceEqDiff, beq_self_eq_true, Bool.not_false]))) | (apply g_false; (solve | (conv => lhs; simp only [zva, ↓reduceIte, Nat.reduceEqDiff, beq_self_eq_true, Bool.not_false]))) | apply g_here | (apply g_past; (solve | decide)) | apply g_exit | apply g_retc | apply g_retb | apply g_ret | apply g_done)
        (apply o_call; (solve | (conv => lhs; simp only [Callee.find, List.map_cons, List.map_nil, List.cons_append, List.nil_append, zva, ↓reduceIte, Nat.reduceEqDiff])))
        · exact alive_run hE (hf _ (by decide)) (tb.keep w L1y.1)
        rintro _ h' ⟨rfl, e⟩
        have e := e.symm
        subst e
        (conv => arg 8; simp only [zfr, Nat.reduceEqDiff, Nat.reduceLT, ↓reduceIte])
        repeat' (first | (apply o_op; (solve | (conv => lhs; simp (disch := first | omega | (simp only [Val.cells, List.all_cons, List.all_nil, Val.one, Bool.and_self])) only [zev, zex, Val.one, List.length_cons, List.length_nil, Nat.reduceAdd, Option.map_some, Option.map_none, List.map_cons, List.map_nil, zva, ↓reduceIte, Nat.reduceEqDiff])); (solve | (conv => lhs; simp only [zfr, Nat.reduceEqDiff, Nat.reduceLT, ↓reduceIte]))) | (apply o_yes; (solve | (conv => lhs; simp only [zva, ↓reduceIte, Nat.reduceEqDiff])); (solve | rfl)) | (apply o_no; (solve | (conv => lhs; simp only [zva, ↓reduceIte, Nat.reduceEqDiff])); (solve | decide); (solve | (conv => lhs; simp only [zfr, Nat.reduceEqDiff, Nat.reduceLT, ↓reduceIte]))) | (apply o_not; (solve | (conv => lhs; simp only [zva, ↓reduceIte, Nat.reduceEqDiff])); (solve | (conv => lhs; simp only [zfr, Nat.reduceEqDiff, Nat.reduceLT, ↓reduceIte]))) | (apply o_if; (solve | (conv => lhs; simp only [zva, ↓reduceIte, Nat.reduceEqDiff])); (solve | (intro hbb; conv => lhs; simp (disch := first | omega | (simp only [Val.cells, List.all_cons, List.all_nil, Val.one, Bool.and_self])) only [zev, zex, Val.one, List.length_cons, List.length_nil, Nat.reduceAdd, Option.map_some, Option.map_none, List.map_cons, List.map_nil, zva, ↓reduceIte, Nat.reduceEqDiff, hbb])); (solve | (conv => lhs; simp only [zfr, Nat.reduceEqDiff, Nat.reduceLT, ↓reduceIte]))) | (apply o_end; (solve | (conv => lhs; simp only [zdr, inl, Nat.reduceEqDiff, or_false, or_true, ↓reduceIte]))) | apply g_seq | apply g_region | apply g_next | apply g_block | apply g_out | (apply g_true; (solve | (conv => lhs; simp only [zva, ↓reduceIte, Nat.reduceEqDiff]))) | (apply g_false; (solve | (conv => lhs; simp only [zva, ↓reduceIte, Nat.reduceEqDiff]))) | apply g_here | (apply g_past; (solve | decide)) | apply g_exit | apply g_retc | apply g_retb | apply g_ret | apply g_done)
        exact ⟨.inr rfl, _, rfl, rfl, L1y⟩
      · simp only [kk, kk2]
        repeat' (first | (apply o_op; (solve | (conv => lhs; simp (disch := first | omega | (simp only [Val.cells, List.all_cons, List.all_nil, Val.one, Bool.and_self])) only [zev, zex, Val.one, List.length_cons, List.length_nil, Nat.reduceAdd, Option.map_some, Option.map_none, List.map_cons, List.map_nil, zva, ↓reduceIte, Nat.reduceEqDiff, beq_self_eq_true, Bool.not_true])); (solve | (conv => lhs; simp only [zfr, Nat.reduceEqDiff, Nat.reduceLT, ↓reduceIte]))) | (apply o_yes; (solve | (conv => lhs; simp only [zva, ↓reduceIte, Nat.reduceEqDiff, beq_self_eq_true, Bool.not_true])); (solve | rfl)) | (apply o_no; (solve | (conv => lhs; simp only [zva, ↓reduceIte, Nat.reduceEqDiff, beq_self_eq_true, Bool.not_true])); (solve | decide); (solve | (conv => lhs; simp only [zfr, Nat.reduceEqDiff, Nat.reduceLT, ↓reduceIte]))) | (apply o_not; (solve | (conv => lhs; simp only [zva, ↓reduceIte, Nat.reduceEqDiff])); (solve | (conv => lhs; simp only [zfr, Nat.reduceEqDiff, Nat.reduceLT, ↓reduceIte]))) | (apply o_if; (solve | (conv => lhs; simp only [zva, ↓reduceIte, Nat.reduceEqDiff])); (solve | (intro hbb; conv => lhs; simp (disch := first | omega | (simp only [Val.cells, List.all_cons, List.all_nil, Val.one, Bool.and_self])) only [zev, zex, Val.one, List.length_cons, List.length_nil, Nat.reduceAdd, Option.map_some, Option.map_none, List.map_cons, List.map_nil, zva, ↓reduceIte, Nat.reduceEqDiff, hbb, beq_self_eq_true, Bool.not_true])); (solve | (conv => lhs; simp only [zfr, Nat.reduceEqDiff, Nat.reduceLT, ↓reduceIte]))) | (apply o_end; (solve | (conv => lhs; simp only [zdr, inl, Nat.reduceEqDiff, or_false, or_true, ↓reduceIte]))) | apply g_seq | apply g_region | apply g_next | apply g_block | apply g_out | (apply g_true; (solve | (conv => lhs; simp only [zva, ↓reduceIte, Nat.reduceEqDiff, beq_self_eq_true, Bool.not_true]))) | (apply g_false; (solve | (conv => lhs; simp only [zva, ↓reduceIte, Nat.reduceEqDiff, beq_self_eq_true, Bool.not_true]))) | apply g_here | (apply g_past; (solve | decide)) | apply g_exit | apply g_retc | apply g_retb | apply g_ret | apply g_done)
        (apply o_call; (solve | (conv => lhs; simp only [Callee.find, List.map_cons, List.map_nil, List.cons_append, List.nil_append, zva, ↓reduceIte, Nat.reduceEqDiff])))
        · exact alive_run hE (hf _ (by decide)) (tb.keep w L1y.1)
        rintro _ h' ⟨rfl, e⟩
        have e := e.symm
        subst e
        (conv => arg 8; simp only [zfr, Nat.reduceEqDiff, Nat.reduceLT, ↓reduceIte])
        repeat' (first | (apply o_op; (solve | (conv => lhs; simp (disch := first | omega | (simp only [Val.cells, List.all_cons, List.all_nil, Val.one, Bool.and_self])) only [zev, zex, Val.one, List.length_cons, List.length_nil, Nat.reduceAdd, Option.map_some, Option.map_none, List.map_cons, List.map_nil, zva, ↓reduceIte, Nat.reduceEqDiff])); (solve | (conv => lhs; simp only [zfr, Nat.reduceEqDiff, Nat.reduceLT, ↓reduceIte]))) | (apply o_yes; (solve | (conv => lhs; simp only [zva, ↓reduceIte, Nat.reduceEqDiff])); (solve | rfl)) | (apply o_no; (solve | (conv => lhs; simp only [zva, ↓reduceIte, Nat.reduceEqDiff])); (solve | decide); (solve | (conv => lhs; simp only [zfr, Nat.reduceEqDiff, Nat.reduceLT, ↓reduceIte]))) | (apply o_not; (solve | (conv => lhs; simp only [zva, ↓reduceIte, Nat.reduceEqDiff])); (solve | (conv => lhs; simp only [zfr, Nat.reduceEqDiff, Nat.reduceLT, ↓reduceIte]))) | (apply o_if; (solve | (conv => lhs; simp only [zva, ↓reduceIte, Nat.reduceEqDiff])); (solve | (intro hbb; conv => lhs; simp (disch := first | omega | (simp only [Val.cells, List.all_cons, List.all_nil, Val.one, Bool.and_self])) only [zev, zex, Val.one, List.length_cons, List.length_nil, Nat.reduceAdd, Option.map_some, Option.map_none, List.map_cons, List.map_nil, zva, ↓reduceIte, Nat.reduceEqDiff, hbb])); (solve | (conv => lhs; simp only [zfr, Nat.reduceEqDiff, Nat.reduceLT, ↓reduceIte]))) | (apply o_end; (solve | (conv => lhs; simp only [zdr, inl, Nat.reduceEqDiff, or_false, or_true, ↓reduceIte]))) | apply g_seq | apply g_region | apply g_next | apply g_block | apply g_out | (apply g_true; (solve | (conv => lhs; simp only [zva, ↓reduceIte, Nat.reduceEqDiff]))) | (apply g_false; (solve | (conv => lhs; simp only [zva, ↓reduceIte, Nat.reduceEqDiff]))) | apply g_here | (apply g_past; (solve | decide)) | apply g_exit | apply g_retc | apply g_retb | apply g_ret | apply g_done)
        exact ⟨.inr rfl, _, rfl, rfl, L1y⟩
  · have df : ((buildR n (ts ++ [m])).2 == 0) = false := by simpa using f0
    have df2 : ((buildR n (ts ++ [m])).2 != 0) = true := by simpa using f0
    by_cases e0 : (buildR n ts).2 = 0
    · simp only [e0]
      have p1 := left_push L6.2.1 (some ⟨cell3 m, true, 3⟩)
      have lx := one LD6
      have L1p := L16.trans p1
      repeat' (first | (apply o_op; (solve | (conv => lhs; simp (disch := first | omega | (simp only [Val.cells, List.all_cons, List.all_nil, Val.one, Bool.and_self])) only [zev, zex, Val.one, List.length_cons, List.length_nil, Nat.reduceAdd, Option.map_some, Option.map_none, List.map_cons, List.map_nil, zva, ↓reduceIte, Nat.reduceEqDiff, df, beq_self_eq_true, lx, f2, bs])); (solve | (conv => lhs; simp only [zfr, Nat.reduceEqDiff, Nat.reduceLT, ↓reduceIte]))) | (apply o_yes; (solve | (conv => lhs; simp only [zva, ↓reduceIte, Nat.reduceEqDiff, df, beq_self_eq_true, lx, f2, bs])); (solve | rfl)) | (apply o_no; (solve | (conv => lhs; simp only [zva, ↓reduceIte, Nat.reduceEqDiff, df, beq_self_eq_true, lx, f2, bs])); (solve | decide); (solve | (conv => lhs; simp only [zfr, Nat.reduceEqDiff, Nat.reduceLT, ↓reduceIte]))) | (apply o_not; (solve | (conv => lhs; simp only [zva, ↓reduceIte, Nat.reduceEqDiff])); (solve | (conv => lhs; simp only [zfr, Nat.reduceEqDiff, Nat.reduceLT, ↓reduceIte]))) | (apply o_if; (solve | (conv => lhs; simp only [zva, ↓reduceIte, Nat.reduceEqDiff])); (solve | (intro hbb; conv => lhs; simp (disch := first | omega | (simp only [Val.cells, List.all_cons, List.all_nil, Val.one, Bool.and_self])) only [zev, zex, Val.one, List.length_cons, List.length_nil, Nat.reduceAdd, Option.map_some, Option.map_none, List.map_cons, List.map_nil, zva, ↓reduceIte, Nat.reduceEqDiff, hbb, df, beq_self_eq_true, lx, f2, bs])); (solve | (conv => lhs; simp only [zfr, Nat.reduceEqDiff, Nat.reduceLT, ↓reduceIte]))) | (apply o_end; (solve | (conv => lhs; simp only [zdr, inl, Nat.reduceEqDiff, or_false, or_true, ↓reduceIte]))) | apply g_seq | apply g_region | apply g_next | apply g_block | apply g_out | (apply g_true; (solve | (conv => lhs; simp only [zva, ↓reduceIte, Nat.reduceEqDiff, df, beq_self_eq_true, lx, f2, bs]))) | (apply g_false; (solve | (conv => lhs; simp only [zva, ↓reduceIte, Nat.reduceEqDiff, df, beq_self_eq_true, lx, f2, bs]))) | apply g_here | (apply g_past; (solve | decide)) | apply g_exit | apply g_retc | apply g_retb | apply g_ret | apply g_done)
      (apply o_call; (solve | (conv => lhs; simp only [Callee.find, List.map_cons, List.map_nil, List.cons_append, List.nil_append, zva, ↓reduceIte, Nat.reduceEqDiff])))
      · exact (Shows_run hE hfS p1.2.1 (tb.keep w L1p.1) (by have := L1p.2.2; omega) (hone h6) (by first | omega | (simp only [List.length_append, List.length_singleton]; omega))).lower (show h.size ≤ (h6.push (some ⟨cell3 m, true, 3⟩)).size from L1p.2.2)
      rintro _ h8 ⟨rfl, L8⟩
      (conv => arg 8; simp only [zfr, Nat.reduceEqDiff, Nat.reduceLT, ↓reduceIte])
      have L18 := L1p.trans L8
      have LD8 := (LD6.trans p1).trans L8
      obtain ⟨k21, k22⟩ := k2 e0
      have his : (showsR n (buildR n ts).1 [m]).1 = false := by
        rw [Bool.eq_false_iff]
        exact fun hh => f0 (k22 hh)
      simp only [k21, his]
      repeat' (first | (apply o_op; (solve | (conv => lhs; simp (disch := first | omega | (simp only [Val.cells, List.all_cons, List.all_nil, Val.one, Bool.and_self])) only [zev, zex, Val.one, List.length_cons, List.length_nil, Nat.reduceAdd, Option.map_some, Option.map_none, List.map_cons, List.map_nil, zva, ↓reduceIte, Nat.reduceEqDiff, bne_self_eq_false])); (solve | (conv => lhs; simp only [zfr, Nat.reduceEqDiff, Nat.reduceLT, ↓reduceIte]))) | (apply o_yes; (solve | (conv => lhs; simp only [zva, ↓reduceIte, Nat.reduceEqDiff, bne_self_eq_false])); (solve | rfl)) | (apply o_no; (solve | (conv => lhs; simp only [zva, ↓reduceIte, Nat.reduceEqDiff, bne_self_eq_false])); (solve | decide); (solve | (conv => lhs; simp only [zfr, Nat.reduceEqDiff, Nat.reduceLT, ↓reduceIte]))) | (apply o_not; (solve | (conv => lhs; simp only [zva, ↓reduceIte, Nat.reduceEqDiff])); (solve | (conv => lhs; simp only [zfr, Nat.reduceEqDiff, Nat.reduceLT, ↓reduceIte]))) | (apply o_if; (solve | (conv => lhs; simp only [zva, ↓reduceIte, Nat.reduceEqDiff])); (solve | (intro hbb; conv => lhs; simp (disch := first | omega | (simp only [Val.cells, List.all_cons, List.all_nil, Val.one, Bool.and_self])) only [zev, zex, Val.one, List.length_cons, List.length_nil, Nat.reduceAdd, Option.map_some, Option.map_none, List.map_cons, List.map_nil, zva, ↓reduceIte, Nat.reduceEqDiff, hbb, bne_self_eq_false])); (solve | (conv => lhs; simp only [zfr, Nat.reduceEqDiff, Nat.reduceLT, ↓reduceIte]))) | (apply o_end; (solve | (conv => lhs; simp only [zdr, inl, Nat.reduceEqDiff, or_false, or_true, ↓reduceIte]))) | apply g_seq | apply g_region | apply g_next | apply g_block | apply g_out | (apply g_true; (solve | (conv => lhs; simp only [zva, ↓reduceIte, Nat.reduceEqDiff, bne_self_eq_false]))) | (apply g_false; (solve | (conv => lhs; simp only [zva, ↓reduceIte, Nat.reduceEqDiff, bne_self_eq_false]))) | apply g_here | (apply g_past; (solve | decide)) | apply g_exit | apply g_retc | apply g_retb | apply g_ret | apply g_done)
      repeat' (first | (apply o_op; (solve | (conv => lhs; simp (disch := first | omega | (simp only [Val.cells, List.all_cons, List.all_nil, Val.one, Bool.and_self])) only [zev, zex, Val.one, List.length_cons, List.length_nil, Nat.reduceAdd, Option.map_some, Option.map_none, List.map_cons, List.map_nil, zva, ↓reduceIte, Nat.reduceEqDiff])); (solve | (conv => lhs; simp only [zfr, Nat.reduceEqDiff, Nat.reduceLT, ↓reduceIte]))) | (apply o_yes; (solve | (conv => lhs; simp only [zva, ↓reduceIte, Nat.reduceEqDiff])); (solve | rfl)) | (apply o_no; (solve | (conv => lhs; simp only [zva, ↓reduceIte, Nat.reduceEqDiff])); (solve | decide); (solve | (conv => lhs; simp only [zfr, Nat.reduceEqDiff, Nat.reduceLT, ↓reduceIte]))) | (apply o_not; (solve | (conv => lhs; simp only [zva, ↓reduceIte, Nat.reduceEqDiff])); (solve | (conv => lhs; simp only [zfr, Nat.reduceEqDiff, Nat.reduceLT, ↓reduceIte]))) | (apply o_if; (solve | (conv => lhs; simp only [zva, ↓reduceIte, Nat.reduceEqDiff])); (solve | (intro hbb; conv => lhs; simp (disch := first | omega | (simp only [Val.cells, List.all_cons, List.all_nil, Val.one, Bool.and_self])) only [zev, zex, Val.one, List.length_cons, List.length_nil, Nat.reduceAdd, Option.map_some, Option.map_none, List.map_cons, List.map_nil, zva, ↓reduceIte, Nat.reduceEqDiff, hbb])); (solve | (conv => lhs; simp only [zfr, Nat.reduceEqDiff, Nat.reduceLT, ↓reduceIte]))) | (apply o_end; (solve | (conv => lhs; simp only [zdr, inl, Nat.reduceEqDiff, or_false, or_true, ↓reduceIte]))) | apply g_seq | apply g_region | apply g_next | apply g_block | apply g_out | (apply g_true; (solve | (conv => lhs; simp only [zva, ↓reduceIte, Nat.reduceEqDiff]))) | (apply g_false; (solve | (conv => lhs; simp only [zva, ↓reduceIte, Nat.reduceEqDiff]))) | apply g_here | (apply g_past; (solve | decide)) | apply g_exit | apply g_retc | apply g_retb | apply g_ret | apply g_done)
      (apply o_call; (solve | (conv => lhs; simp only [Callee.find, List.map_cons, List.map_nil, List.cons_append, List.nil_append, zva, ↓reduceIte, Nat.reduceEqDiff])))
      · exact (Shows_run hE hfS L8.2.1 (tb.keep w L18.1) (by have := L18.2.2; omega) (hall.left LD.2.1 LD8) (by first | omega | (simp only [List.length_append, List.length_singleton]; omega))).lower (show h.size ≤ h8.size from L18.2.2)
      rintro _ hx ⟨rfl, Lx⟩
      (conv => arg 8; simp only [zfr, Nat.reduceEqDiff, Nat.reduceLT, ↓reduceIte])
      have L1x := L18.trans Lx
      repeat' (first | (apply o_op; (solve | (conv => lhs; simp (disch := first | omega | (simp only [Val.cells, List.all_cons, List.all_nil, Val.one, Bool.and_self])) only [zev, zex, Val.one, List.length_cons, List.length_nil, Nat.reduceAdd, Option.map_some, Option.map_none, List.map_cons, List.map_nil, zva, ↓reduceIte, Nat.reduceEqDiff])); (solve | (conv => lhs; simp only [zfr, Nat.reduceEqDiff, Nat.reduceLT, ↓reduceIte]))) | (apply o_yes; (solve | (conv => lhs; simp only [zva, ↓reduceIte, Nat.reduceEqDiff])); (solve | rfl)) | (apply o_no; (solve | (conv => lhs; simp only [zva, ↓reduceIte, Nat.reduceEqDiff])); (solve | decide); (solve | (conv => lhs; simp only [zfr, Nat.reduceEqDiff, Nat.reduceLT, ↓reduceIte]))) | (apply o_not; (solve | (conv => lhs; simp only [zva, ↓reduceIte, Nat.reduceEqDiff])); (solve | (conv => lhs; simp only [zfr, Nat.reduceEqDiff, Nat.reduceLT, ↓reduceIte]))) | (apply o_if; (solve | (conv => lhs; simp only [zva, ↓reduceIte, Nat.reduceEqDiff])); (solve | (intro hbb; conv => lhs; simp (disch := first | omega | (simp only [Val.cells, List.all_cons, List.all_nil, Val.one, Bool.and_self])) only [zev, zex, Val.one, List.length_cons, List.length_nil, Nat.reduceAdd, Option.map_some, Option.map_none, List.map_cons, List.map_nil, zva, ↓reduceIte, Nat.reduceEqDiff, hbb])); (solve | (conv => lhs; simp only [zfr, Nat.reduceEqDiff, Nat.reduceLT, ↓reduceIte]))) | (apply o_end; (solve | (conv => lhs; simp only [zdr, inl, Nat.reduceEqDiff, or_false, or_true, ↓reduceIte]))) | apply g_seq | apply g_region | apply g_next | apply g_block | apply g_out | (apply g_true; (solve | (conv => lhs; simp only [zva, ↓reduceIte, Nat.reduceEqDiff]))) | (apply g_false; (solve | (conv => lhs; simp only [zva, ↓reduceIte, Nat.reduceEqDiff]))) | apply g_here | (apply g_past; (solve | decide)) | apply g_exit | apply g_retc | apply g_retb | apply g_ret | apply g_done)
      (apply o_call; (solve | (conv => lhs; simp only [Callee.find, List.map_cons, List.map_nil, List.cons_append, List.nil_append, zva, ↓reduceIte, Nat.reduceEqDiff])))
      · exact (Shows_run hE hfS Lx.2.1 (tb.keep w L1x.1) (by have := L1x.2.2; omega) (ht.left w L1x) (by first | omega | (simp only [List.length_append, List.length_singleton]; omega))).lower (show h.size ≤ hx.size from L1x.2.2)
      rintro _ hy ⟨rfl, Ly⟩
      (conv => arg 8; simp only [zfr, Nat.reduceEqDiff, Nat.reduceLT, ↓reduceIte])
      have L1y := L1x.trans Ly
      simp only [k3]
      have kk : ((showsR n s (ts ++ [m])).1 = false) ∨ ((showsR n s (ts ++ [m])).1 = true ∧ (showsR n s ts).1 = true) := by
        cases hxx : (showsR n s (ts ++ [m])).1
        · exact .inl rfl
        · exact .inr ⟨rfl, k4 hxx⟩
      rcases kk with kk | ⟨kk, kk2⟩
      · simp only [kk]
        repeat' (first | (apply o_op; (solve | (conv => lhs; simp (disch := first | omega | (simp only [Val.cells, List.all_cons, List.all_nil, Val.one, Bool.and_self])) only [zev, zex, Val.one, List.length_cons, List.length_nil, Nat.reduceAdd, Option.map_some, Option.map_none, List.map_cons, List.map_nil, zva, ↓reduceIte, Nat.reduceEqDiff, beq_self_eq_true, Bool.not_false])); (solve | (conv => lhs; simp only [zfr, Nat.reduceEqDiff, Nat.reduceLT, ↓reduceIte]))) | (apply o_yes; (solve | (conv => lhs; simp only [zva, ↓reduceIte, Nat.reduceEqDiff, beq_self_eq_true, Bool.not_false])); (solve | rfl)) | (apply o_no; (solve | (conv => lhs; simp only [zva, ↓reduceIte, Nat.reduceEqDiff, beq_self_eq_true, Bool.not_false])); (solve | decide); (solve | (conv => lhs; simp only [zfr, Nat.reduceEqDiff, Nat.reduceLT, ↓reduceIte]))) | (apply o_not; (solve | (conv => lhs; simp only [zva, ↓reduceIte, Nat.reduceEqDiff])); (solve | (conv => lhs; simp only [zfr, Nat.reduceEqDiff, Nat.reduceLT, ↓reduceIte]))) | (apply o_if; (solve | (conv => lhs; simp only [zva, ↓reduceIte, Nat.reduceEqDiff])); (solve | (intro hbb; conv => lhs; simp (disch := first | omega | (simp only [Val.cells, List.all_cons, List.all_nil, Val.one, Bool.and_self])) only [zev, zex, Val.one, List.length_cons, List.length_nil, Nat.reduceAdd, Option.map_some, Option.map_none, List.map_cons, List.map_nil, zva, ↓reduceIte, Nat.reduceEqDiff, hbb, beq_self_eq_true, Bool.not_false])); (solve | (conv => lhs; simp only [zfr, Nat.reduceEqDiff, Nat.reduceLT, ↓reduceIte]))) | (apply o_end; (solve | (conv => lhs; simp only [zdr, inl, Nat.reduceEqDiff, or_false, or_true, ↓reduceIte]))) | apply g_seq | apply g_region | apply g_next | apply g_block | apply g_out | (apply g_true; (solve | (conv => lhs; simp only [zva, ↓reduceIte, Nat.reduceEqDiff, beq_self_eq_true, Bool.not_false]))) | (apply g_false; (solve | (conv => lhs; simp only [zva, ↓reduceIte, Nat.reduceEqDiff, beq_self_eq_true, Bool.not_false]))) | apply g_here | (apply g_past; (solve | decide)) | apply g_exit | apply g_retc | apply g_retb | apply g_ret | apply g_done)
        (apply o_call; (solve | (conv => lhs; simp only [Callee.find, List.map_cons, List.map_nil, List.cons_append, List.nil_append, zva, ↓reduceIte, Nat.reduceEqDiff])))
        · exact alive_run hE (hf _ (by decide)) (tb.keep w L1y.1)
        rintro _ h' ⟨rfl, e⟩
        have e := e.symm
        subst e
        (conv => arg 8; simp only [zfr, Nat.reduceEqDiff, Nat.reduceLT, ↓reduceIte])
        repeat' (first | (apply o_op; (solve | (conv => lhs; simp (disch := first | omega | (simp only [Val.cells, List.all_cons, List.all_nil, Val.one, Bool.and_self])) only [zev, zex, Val.one, List.length_cons, List.length_nil, Nat.reduceAdd, Option.map_some, Option.map_none, List.map_cons, List.map_nil, zva, ↓reduceIte, Nat.reduceEqDiff])); (solve | (conv => lhs; simp only [zfr, Nat.reduceEqDiff, Nat.reduceLT, ↓reduceIte]))) | (apply o_yes; (solve | (conv => lhs; simp only [zva, ↓reduceIte, Nat.reduceEqDiff])); (solve | rfl)) | (apply o_no; (solve | (conv => lhs; simp only [zva, ↓reduceIte, Nat.reduceEqDiff])); (solve | decide); (solve | (conv => lhs; simp only [zfr, Nat.reduceEqDiff, Nat.reduceLT, ↓reduceIte]))) | (apply o_not; (solve | (conv => lhs; simp only [zva, ↓reduceIte, Nat.reduceEqDiff])); (solve | (conv => lhs; simp only [zfr, Nat.reduceEqDiff, Nat.reduceLT, ↓reduceIte]))) | (apply o_if; (solve | (conv => lhs; simp only [zva, ↓reduceIte, Nat.reduceEqDiff])); (solve | (intro hbb; conv => lhs; simp (disch := first | omega | (simp only [Val.cells, List.all_cons, List.all_nil, Val.one, Bool.and_self])) only [zev, zex, Val.one, List.length_cons, List.length_nil, Nat.reduceAdd, Option.map_some, Option.map_none, List.map_cons, List.map_nil, zva, ↓reduceIte, Nat.reduceEqDiff, hbb])); (solve | (conv => lhs; simp only [zfr, Nat.reduceEqDiff, Nat.reduceLT, ↓reduceIte]))) | (apply o_end; (solve | (conv => lhs; simp only [zdr, inl, Nat.reduceEqDiff, or_false, or_true, ↓reduceIte]))) | apply g_seq | apply g_region | apply g_next | apply g_block | apply g_out | (apply g_true; (solve | (conv => lhs; simp only [zva, ↓reduceIte, Nat.reduceEqDiff]))) | (apply g_false; (solve | (conv => lhs; simp only [zva, ↓reduceIte, Nat.reduceEqDiff]))) | apply g_here | (apply g_past; (solve | decide)) | apply g_exit | apply g_retc | apply g_retb | apply g_ret | apply g_done)
        exact ⟨.inr rfl, _, rfl, rfl, L1y⟩
      · simp only [kk, kk2]
        repeat' (first | (apply o_op; (solve | (conv => lhs; simp (disch := first | omega | (simp only [Val.cells, List.all_cons, List.all_nil, Val.one, Bool.and_self])) only [zev, zex, Val.one, List.length_cons, List.length_nil, Nat.reduceAdd, Option.map_some, Option.map_none, List.map_cons, List.map_nil, zva, ↓reduceIte, Nat.reduceEqDiff, beq_self_eq_true, Bool.not_true])); (solve | (conv => lhs; simp only [zfr, Nat.reduceEqDiff, Nat.reduceLT, ↓reduceIte]))) | (apply o_yes; (solve | (conv => lhs; simp only [zva, ↓reduceIte, Nat.reduceEqDiff, beq_self_eq_true, Bool.not_true])); (solve | rfl)) | (apply o_no; (solve | (conv => lhs; simp only [zva, ↓reduceIte, Nat.reduceEqDiff, beq_self_eq_true, Bool.not_true])); (solve | decide); (solve | (conv => lhs; simp only [zfr, Nat.reduceEqDiff, Nat.reduceLT, ↓reduceIte]))) | (apply o_not; (solve | (conv => lhs; simp only [zva, ↓reduceIte, Nat.reduceEqDiff])); (solve | (conv => lhs; simp only [zfr, Nat.reduceEqDiff, Nat.reduceLT, ↓reduceIte]))) | (apply o_if; (solve | (conv => lhs; simp only [zva, ↓reduceIte, Nat.reduceEqDiff])); (solve | (intro hbb; conv => lhs; simp (disch := first | omega | (simp only [Val.cells, List.all_cons, List.all_nil, Val.one, Bool.and_self])) only [zev, zex, Val.one, List.length_cons, List.length_nil, Nat.reduceAdd, Option.map_some, Option.map_none, List.map_cons, List.map_nil, zva, ↓reduceIte, Nat.reduceEqDiff, hbb, beq_self_eq_true, Bool.not_true])); (solve | (conv => lhs; simp only [zfr, Nat.reduceEqDiff, Nat.reduceLT, ↓reduceIte]))) | (apply o_end; (solve | (conv => lhs; simp only [zdr, inl, Nat.reduceEqDiff, or_false, or_true, ↓reduceIte]))) | apply g_seq | apply g_region | apply g_next | apply g_block | apply g_out | (apply g_true; (solve | (conv => lhs; simp only [zva, ↓reduceIte, Nat.reduceEqDiff, beq_self_eq_true, Bool.not_true]))) | (apply g_false; (solve | (conv => lhs; simp only [zva, ↓reduceIte, Nat.reduceEqDiff, beq_self_eq_true, Bool.not_true]))) | apply g_here | (apply g_past; (solve | decide)) | apply g_exit | apply g_retc | apply g_retb | apply g_ret | apply g_done)
        (apply o_call; (solve | (conv => lhs; simp only [Callee.find, List.map_cons, List.map_nil, List.cons_append, List.nil_append, zva, ↓reduceIte, Nat.reduceEqDiff])))
        · exact alive_run hE (hf _ (by decide)) (tb.keep w L1y.1)
        rintro _ h' ⟨rfl, e⟩
        have e := e.symm
        subst e
        (conv => arg 8; simp only [zfr, Nat.reduceEqDiff, Nat.reduceLT, ↓reduceIte])
        repeat' (first | (apply o_op; (solve | (conv => lhs; simp (disch := first | omega | (simp only [Val.cells, List.all_cons, List.all_nil, Val.one, Bool.and_self])) only [zev, zex, Val.one, List.length_cons, List.length_nil, Nat.reduceAdd, Option.map_some, Option.map_none, List.map_cons, List.map_nil, zva, ↓reduceIte, Nat.reduceEqDiff])); (solve | (conv => lhs; simp only [zfr, Nat.reduceEqDiff, Nat.reduceLT, ↓reduceIte]))) | (apply o_yes; (solve | (conv => lhs; simp only [zva, ↓reduceIte, Nat.reduceEqDiff])); (solve | rfl)) | (apply o_no; (solve | (conv => lhs; simp only [zva, ↓reduceIte, Nat.reduceEqDiff])); (solve | decide); (solve | (conv => lhs; simp only [zfr, Nat.reduceEqDiff, Nat.reduceLT, ↓reduceIte]))) | (apply o_not; (solve | (conv => lhs; simp only [zva, ↓reduceIte, Nat.reduceEqDiff])); (solve | (conv => lhs; simp only [zfr, Nat.reduceEqDiff, Nat.reduceLT, ↓reduceIte]))) | (apply o_if; (solve | (conv => lhs; simp only [zva, ↓reduceIte, Nat.reduceEqDiff])); (solve | (intro hbb; conv => lhs; simp (disch := first | omega | (simp only [Val.cells, List.all_cons, List.all_nil, Val.one, Bool.and_self])) only [zev, zex, Val.one, List.length_cons, List.length_nil, Nat.reduceAdd, Option.map_some, Option.map_none, List.map_cons, List.map_nil, zva, ↓reduceIte, Nat.reduceEqDiff, hbb])); (solve | (conv => lhs; simp only [zfr, Nat.reduceEqDiff, Nat.reduceLT, ↓reduceIte]))) | (apply o_end; (solve | (conv => lhs; simp only [zdr, inl, Nat.reduceEqDiff, or_false, or_true, ↓reduceIte]))) | apply g_seq | apply g_region | apply g_next | apply g_block | apply g_out | (apply g_true; (solve | (conv => lhs; simp only [zva, ↓reduceIte, Nat.reduceEqDiff]))) | (apply g_false; (solve | (conv => lhs; simp only [zva, ↓reduceIte, Nat.reduceEqDiff]))) | apply g_here | (apply g_past; (solve | decide)) | apply g_exit | apply g_retc | apply g_retb | apply g_ret | apply g_done)
        exact ⟨.inr rfl, _, rfl, rfl, L1y⟩
    · have de : ((buildR n ts).2 == 0) = false := by simpa using e0
      repeat' (first | (apply o_op; (solve | (conv => lhs; simp (disch := first | omega | (simp only [Val.cells, List.all_cons, List.all_nil, Val.one, Bool.and_self])) only [zev, zex, Val.one, List.length_cons, List.length_nil, Nat.reduceAdd, Option.map_some, Option.map_none, List.map_cons, List.map_nil, zva, ↓reduceIte, Nat.reduceEqDiff, df, de])); (solve | (conv => lhs; simp only [zfr, Nat.reduceEqDiff, Nat.reduceLT, ↓reduceIte]))) | (apply o_yes; (solve | (conv => lhs; simp only [zva, ↓reduceIte, Nat.reduceEqDiff, df, de])); (solve | rfl)) | (apply o_no; (solve | (conv => lhs; simp only [zva, ↓reduceIte, Nat.reduceEqDiff, df, de])); (solve | decide); (solve | (conv => lhs; simp only [zfr, Nat.reduceEqDiff, Nat.reduceLT, ↓reduceIte]))) | (apply o_not; (solve | (conv => lhs; simp only [zva, ↓reduceIte, Nat.reduceEqDiff])); (solve | (conv => lhs; simp only [zfr, Nat.reduceEqDiff, Nat.reduceLT, ↓reduceIte]))) | (apply o_if; (solve | (conv => lhs; simp only [zva, ↓reduceIte, Nat.reduceEqDiff])); (solve | (intro hbb; conv => lhs; simp (disch := first | omega | (simp only [Val.cells, List.all_cons, List.all_nil, Val.one, Bool.and_self])) only [zev, zex, Val.one, List.length_cons, List.length_nil, Nat.reduceAdd, Option.map_some, Option.map_none, List.map_cons, List.map_nil, zva, ↓reduceIte, Nat.reduceEqDiff, hbb, df, de])); (solve | (conv => lhs; simp only [zfr, Nat.reduceEqDiff, Nat.reduceLT, ↓reduceIte]))) | (apply o_end; (solve | (conv => lhs; simp only [zdr, inl, Nat.reduceEqDiff, or_false, or_true, ↓reduceIte]))) | apply g_seq | apply g_region | apply g_next | apply g_block | apply g_out | (apply g_true; (solve | (conv => lhs; simp only [zva, ↓reduceIte, Nat.reduceEqDiff, df, de]))) | (apply g_false; (solve | (conv => lhs; simp only [zva, ↓reduceIte, Nat.reduceEqDiff, df, de]))) | apply g_here | (apply g_past; (solve | decide)) | apply g_exit | apply g_retc | apply g_retb | apply g_ret | apply g_done)
      repeat' (first | (apply o_op; (solve | (conv => lhs; simp (disch := first | omega | (simp only [Val.cells, List.all_cons, List.all_nil, Val.one, Bool.and_self])) only [zev, zex, Val.one, List.length_cons, List.length_nil, Nat.reduceAdd, Option.map_some, Option.map_none, List.map_cons, List.map_nil, zva, ↓reduceIte, Nat.reduceEqDiff])); (solve | (conv => lhs; simp only [zfr, Nat.reduceEqDiff, Nat.reduceLT, ↓reduceIte]))) | (apply o_yes; (solve | (conv => lhs; simp only [zva, ↓reduceIte, Nat.reduceEqDiff])); (solve | rfl)) | (apply o_no; (solve | (conv => lhs; simp only [zva, ↓reduceIte, Nat.reduceEqDiff])); (solve | decide); (solve | (conv => lhs; simp only [zfr, Nat.reduceEqDiff, Nat.reduceLT, ↓reduceIte]))) | (apply o_not; (solve | (conv => lhs; simp only [zva, ↓reduceIte, Nat.reduceEqDiff])); (solve | (conv => lhs; simp only [zfr, Nat.reduceEqDiff, Nat.reduceLT, ↓reduceIte]))) | (apply o_if; (solve | (conv => lhs; simp only [zva, ↓reduceIte, Nat.reduceEqDiff])); (solve | (intro hbb; conv => lhs; simp (disch := first | omega | (simp only [Val.cells, List.all_cons, List.all_nil, Val.one, Bool.and_self])) only [zev, zex, Val.one, List.length_cons, List.length_nil, Nat.reduceAdd, Option.map_some, Option.map_none, List.map_cons, List.map_nil, zva, ↓reduceIte, Nat.reduceEqDiff, hbb])); (solve | (conv => lhs; simp only [zfr, Nat.reduceEqDiff, Nat.reduceLT, ↓reduceIte]))) | (apply o_end; (solve | (conv => lhs; simp only [zdr, inl, Nat.reduceEqDiff, or_false, or_true, ↓reduceIte]))) | apply g_seq | apply g_region | apply g_next | apply g_block | apply g_out | (apply g_true; (solve | (conv => lhs; simp only [zva, ↓reduceIte, Nat.reduceEqDiff]))) | (apply g_false; (solve | (conv => lhs; simp only [zva, ↓reduceIte, Nat.reduceEqDiff]))) | apply g_here | (apply g_past; (solve | decide)) | apply g_exit | apply g_retc | apply g_retb | apply g_ret | apply g_done)
      (apply o_call; (solve | (conv => lhs; simp only [Callee.find, List.map_cons, List.map_nil, List.cons_append, List.nil_append, zva, ↓reduceIte, Nat.reduceEqDiff])))
      · exact (Shows_run hE hfS L6.2.1 (tb.keep w L16.1) (by have := L16.2.2; omega) (hall.left LD.2.1 LD6) (by first | omega | (simp only [List.length_append, List.length_singleton]; omega))).lower (show h.size ≤ h6.size from L16.2.2)
      rintro _ hx ⟨rfl, Lx⟩
      (conv => arg 8; simp only [zfr, Nat.reduceEqDiff, Nat.reduceLT, ↓reduceIte])
      have L1x := L16.trans Lx
      repeat' (first | (apply o_op; (solve | (conv => lhs; simp (disch := first | omega | (simp only [Val.cells, List.all_cons, List.all_nil, Val.one, Bool.and_self])) only [zev, zex, Val.one, List.length_cons, List.length_nil, Nat.reduceAdd, Option.map_some, Option.map_none, List.map_cons, List.map_nil, zva, ↓reduceIte, Nat.reduceEqDiff])); (solve | (conv => lhs; simp only [zfr, Nat.reduceEqDiff, Nat.reduceLT, ↓reduceIte]))) | (apply o_yes; (solve | (conv => lhs; simp only [zva, ↓reduceIte, Nat.reduceEqDiff])); (solve | rfl)) | (apply o_no; (solve | (conv => lhs; simp only [zva, ↓reduceIte, Nat.reduceEqDiff])); (solve | decide); (solve | (conv => lhs; simp only [zfr, Nat.reduceEqDiff, Nat.reduceLT, ↓reduceIte]))) | (apply o_not; (solve | (conv => lhs; simp only [zva, ↓reduceIte, Nat.reduceEqDiff])); (solve | (conv => lhs; simp only [zfr, Nat.reduceEqDiff, Nat.reduceLT, ↓reduceIte]))) | (apply o_if; (solve | (conv => lhs; simp only [zva, ↓reduceIte, Nat.reduceEqDiff])); (solve | (intro hbb; conv => lhs; simp (disch := first | omega | (simp only [Val.cells, List.all_cons, List.all_nil, Val.one, Bool.and_self])) only [zev, zex, Val.one, List.length_cons, List.length_nil, Nat.reduceAdd, Option.map_some, Option.map_none, List.map_cons, List.map_nil, zva, ↓reduceIte, Nat.reduceEqDiff, hbb])); (solve | (conv => lhs; simp only [zfr, Nat.reduceEqDiff, Nat.reduceLT, ↓reduceIte]))) | (apply o_end; (solve | (conv => lhs; simp only [zdr, inl, Nat.reduceEqDiff, or_false, or_true, ↓reduceIte]))) | apply g_seq | apply g_region | apply g_next | apply g_block | apply g_out | (apply g_true; (solve | (conv => lhs; simp only [zva, ↓reduceIte, Nat.reduceEqDiff]))) | (apply g_false; (solve | (conv => lhs; simp only [zva, ↓reduceIte, Nat.reduceEqDiff]))) | apply g_here | (apply g_past; (solve | decide)) | apply g_exit | apply g_retc | apply g_retb | apply g_ret | apply g_done)
      (apply o_call; (solve | (conv => lhs; simp only [Callee.find, List.map_cons, List.map_nil, List.cons_append, List.nil_append, zva, ↓reduceIte, Nat.reduceEqDiff])))
      · exact (Shows_run hE hfS Lx.2.1 (tb.keep w L1x.1) (by have := L1x.2.2; omega) (ht.left w L1x) (by first | omega | (simp only [List.length_append, List.length_singleton]; omega))).lower (show h.size ≤ hx.size from L1x.2.2)
      rintro _ hy ⟨rfl, Ly⟩
      (conv => arg 8; simp only [zfr, Nat.reduceEqDiff, Nat.reduceLT, ↓reduceIte])
      have L1y := L1x.trans Ly
      simp only [k3]
      have kk : ((showsR n s (ts ++ [m])).1 = false) ∨ ((showsR n s (ts ++ [m])).1 = true ∧ (showsR n s ts).1 = true) := by
        cases hxx : (showsR n s (ts ++ [m])).1
        · exact .inl rfl
        · exact .inr ⟨rfl, k4 hxx⟩
      rcases kk with kk | ⟨kk, kk2⟩
      · simp only [kk]
        repeat' (first | (apply o_op; (solve | (conv => lhs; simp (disch := first | omega | (simp only [Val.cells, List.all_cons, List.all_nil, Val.one, Bool.and_self])) only [zev, zex, Val.one, List.length_cons, List.length_nil, Nat.reduceAdd, Option.map_some, Option.map_none, List.map_cons, List.map_nil, zva, ↓reduceIte, Nat.reduceEqDiff, beq_self_eq_true, Bool.not_false])); (solve | (conv => lhs; simp only [zfr, Nat.reduceEqDiff, Nat.reduceLT, ↓reduceIte]))) | (apply o_yes; (solve | (conv => lhs; simp only [zva, ↓reduceIte, Nat.reduceEqDiff, beq_self_eq_true, Bool.not_false])); (solve | rfl)) | (apply o_no; (solve | (conv => lhs; simp only [zva, ↓reduceIte, Nat.reduceEqDiff, beq_self_eq_true, Bool.not_false])); (solve | decide); (solve | (conv => lhs; simp only [zfr, Nat.reduceEqDiff, Nat.reduceLT, ↓reduceIte]))) | (apply o_not; (solve | (conv => lhs; simp only [zva, ↓reduceIte, Nat.reduceEqDiff])); (solve | (conv => lhs; simp only [zfr, Nat.reduceEqDiff, Nat.reduceLT, ↓reduceIte]))) | (apply o_if; (solve | (conv => lhs; simp only [zva, ↓reduceIte, Nat.reduceEqDiff])); (solve | (intro hbb; conv => lhs; simp (disch := first | omega | (simp only [Val.cells, List.all_cons, List.all_nil, Val.one, Bool.and_self])) only [zev, zex, Val.one, List.length_cons, List.length_nil, Nat.reduceAdd, Option.map_some, Option.map_none, List.map_cons, List.map_nil, zva, ↓reduceIte, Nat.reduceEqDiff, hbb, beq_self_eq_true, Bool.not_false])); (solve | (conv => lhs; simp only [zfr, Nat.reduceEqDiff, Nat.reduceLT, ↓reduceIte]))) | (apply o_end; (solve | (conv => lhs; simp only [zdr, inl, Nat.reduceEqDiff, or_false, or_true, ↓reduceIte]))) | apply g_seq | apply g_region | apply g_next | apply g_block | apply g_out | (apply g_true; (solve | (conv => lhs; simp only [zva, ↓reduceIte, Nat.reduceEqDiff, beq_self_eq_true, Bool.not_false]))) | (apply g_false; (solve | (conv => lhs; simp only [zva, ↓reduceIte, Nat.reduceEqDiff, beq_self_eq_true, Bool.not_false]))) | apply g_here | (apply g_past; (solve | decide)) | apply g_exit | apply g_retc | apply g_retb | apply g_ret | apply g_done)
        (apply o_call; (solve | (conv => lhs; simp only [Callee.find, List.map_cons, List.map_nil, List.cons_append, List.nil_append, zva, ↓reduceIte, Nat.reduceEqDiff])))
        · exact alive_run hE (hf _ (by decide)) (tb.keep w L1y.1)
        rintro _ h' ⟨rfl, e⟩
        have e := e.symm
        subst e
        (conv => arg 8; simp only [zfr, Nat.reduceEqDiff, Nat.reduceLT, ↓reduceIte])
        repeat' (first | (apply o_op; (solve | (conv => lhs; simp (disch := first | omega | (simp only [Val.cells, List.all_cons, List.all_nil, Val.one, Bool.and_self])) only [zev, zex, Val.one, List.length_cons, List.length_nil, Nat.reduceAdd, Option.map_some, Option.map_none, List.map_cons, List.map_nil, zva, ↓reduceIte, Nat.reduceEqDiff])); (solve | (conv => lhs; simp only [zfr, Nat.reduceEqDiff, Nat.reduceLT, ↓reduceIte]))) | (apply o_yes; (solve | (conv => lhs; simp only [zva, ↓reduceIte, Nat.reduceEqDiff])); (solve | rfl)) | (apply o_no; (solve | (conv => lhs; simp only [zva, ↓reduceIte, Nat.reduceEqDiff])); (solve | decide); (solve | (conv => lhs; simp only [zfr, Nat.reduceEqDiff, Nat.reduceLT, ↓reduceIte]))) | (apply o_not; (solve | (conv => lhs; simp only [zva, ↓reduceIte, Nat.reduceEqDiff])); (solve | (conv => lhs; simp only [zfr, Nat.reduceEqDiff, Nat.reduceLT, ↓reduceIte]))) | (apply o_if; (solve | (conv => lhs; simp only [zva, ↓reduceIte, Nat.reduceEqDiff])); (solve | (intro hbb; conv => lhs; simp (disch := first | omega | (simp only [Val.cells, List.all_cons, List.all_nil, Val.one, Bool.and_self])) only [zev, zex, Val.one, List.length_cons, List.length_nil, Nat.reduceAdd, Option.map_some, Option.map_none, List.map_cons, List.map_nil, zva, ↓reduceIte, Nat.reduceEqDiff, hbb])); (solve | (conv => lhs; simp only [zfr, Nat.reduceEqDiff, Nat.reduceLT, ↓reduceIte]))) | (apply o_end; (solve | (conv => lhs; simp only [zdr, inl, Nat.reduceEqDiff, or_false, or_true, ↓reduceIte]))) | apply g_seq | apply g_region | apply g_next | apply g_block | apply g_out | (apply g_true; (solve | (conv => lhs; simp only [zva, ↓reduceIte, Nat.reduceEqDiff]))) | (apply g_false; (solve | (conv => lhs; simp only [zva, ↓reduceIte, Nat.reduceEqDiff]))) | apply g_here | (apply g_past; (solve | decide)) | apply g_exit | apply g_retc | apply g_retb | apply g_ret | apply g_done)
        exact ⟨.inr rfl, _, rfl, rfl, L1y⟩
      · simp only [kk, kk2]
        repeat' (first | (apply o_op; (solve | (conv => lhs; simp (disch := first | omega | (simp only [Val.cells, List.all_cons, List.all_nil, Val.one, Bool.and_self])) only [zev, zex, Val.one, List.length_cons, List.length_nil, Nat.reduceAdd, Option.map_some, Option.map_none, List.map_cons, List.map_nil, zva, ↓reduceIte, Nat.reduceEqDiff, beq_self_eq_true, Bool.not_true])); (solve | (conv => lhs; simp only [zfr, Nat.reduceEqDiff, Nat.reduceLT, ↓reduceIte]))) | (apply o_yes; (solve | (conv => lhs; simp only [zva, ↓reduceIte, Nat.reduceEqDiff, beq_self_eq_true, Bool.not_true])); (solve | rfl)) | (apply o_no; (solve | (conv => lhs; simp only [zva, ↓reduceIte, Nat.reduceEqDiff, beq_self_eq_true, Bool.not_true])); (solve | decide); (solve | (conv => lhs; simp only [zfr, Nat.reduceEqDiff, Nat.reduceLT, ↓reduceIte]))) | (apply o_not; (solve | (conv => lhs; simp only [zva, ↓reduceIte, Nat.reduceEqDiff])); (solve | (conv => lhs; simp only [zfr, Nat.reduceEqDiff, Nat.reduceLT, ↓reduceIte]))) | (apply o_if; (solve | (conv => lhs; simp only [zva, ↓reduceIte, Nat.reduceEqDiff])); (solve | (intro hbb; conv => lhs; simp (disch := first | omega | (simp only [Val.cells, List.all_cons, List.all_nil, Val.one, Bool.and_self])) only [zev, zex, Val.one, List.length_cons, List.length_nil, Nat.reduceAdd, Option.map_some, Option.map_none, List.map_cons, List.map_nil, zva, ↓reduceIte, Nat.reduceEqDiff, hbb, beq_self_eq_true, Bool.not_true])); (solve | (conv => lhs; simp only [zfr, Nat.reduceEqDiff, Nat.reduceLT, ↓reduceIte]))) | (apply o_end; (solve | (conv => lhs; simp only [zdr, inl, Nat.reduceEqDiff, or_false, or_true, ↓reduceIte]))) | apply g_seq | apply g_region | apply g_next | apply g_block | apply g_out | (apply g_true; (solve | (conv => lhs; simp only [zva, ↓reduceIte, Nat.reduceEqDiff, beq_self_eq_true, Bool.not_true]))) | (apply g_false; (solve | (conv => lhs; simp only [zva, ↓reduceIte, Nat.reduceEqDiff, beq_self_eq_true, Bool.not_true]))) | apply g_here | (apply g_past; (solve | decide)) | apply g_exit | apply g_retc | apply g_retb | apply g_ret | apply g_done)
        (apply o_call; (solve | (conv => lhs; simp only [Callee.find, List.map_cons, List.map_nil, List.cons_append, List.nil_append, zva, ↓reduceIte, Nat.reduceEqDiff])))
        · exact alive_run hE (hf _ (by decide)) (tb.keep w L1y.1)
        rintro _ h' ⟨rfl, e⟩
        have e := e.symm
        subst e
        (conv => arg 8; simp only [zfr, Nat.reduceEqDiff, Nat.reduceLT, ↓reduceIte])
        repeat' (first | (apply o_op; (solve | (conv => lhs; simp (disch := first | omega | (simp only [Val.cells, List.all_cons, List.all_nil, Val.one, Bool.and_self])) only [zev, zex, Val.one, List.length_cons, List.length_nil, Nat.reduceAdd, Option.map_some, Option.map_none, List.map_cons, List.map_nil, zva, ↓reduceIte, Nat.reduceEqDiff])); (solve | (conv => lhs; simp only [zfr, Nat.reduceEqDiff, Nat.reduceLT, ↓reduceIte]))) | (apply o_yes; (solve | (conv => lhs; simp only [zva, ↓reduceIte, Nat.reduceEqDiff])); (solve | rfl)) | (apply o_no; (solve | (conv => lhs; simp only [zva, ↓reduceIte, Nat.reduceEqDiff])); (solve | decide); (solve | (conv => lhs; simp only [zfr, Nat.reduceEqDiff, Nat.reduceLT, ↓reduceIte]))) | (apply o_not; (solve | (conv => lhs; simp only [zva, ↓reduceIte, Nat.reduceEqDiff])); (solve | (conv => lhs; simp only [zfr, Nat.reduceEqDiff, Nat.reduceLT, ↓reduceIte]))) | (apply o_if; (solve | (conv => lhs; simp only [zva, ↓reduceIte, Nat.reduceEqDiff])); (solve | (intro hbb; conv => lhs; simp (disch := first | omega | (simp only [Val.cells, List.all_cons, List.all_nil, Val.one, Bool.and_self])) only [zev, zex, Val.one, List.length_cons, List.length_nil, Nat.reduceAdd, Option.map_some, Option.map_none, List.map_cons, List.map_nil, zva, ↓reduceIte, Nat.reduceEqDiff, hbb])); (solve | (conv => lhs; simp only [zfr, Nat.reduceEqDiff, Nat.reduceLT, ↓reduceIte]))) | (apply o_end; (solve | (conv => lhs; simp only [zdr, inl, Nat.reduceEqDiff, or_false, or_true, ↓reduceIte]))) | apply g_seq | apply g_region | apply g_next | apply g_block | apply g_out | (apply g_true; (solve | (conv => lhs; simp only [zva, ↓reduceIte, Nat.reduceEqDiff]))) | (apply g_false; (solve | (conv => lhs; simp only [zva, ↓reduceIte, Nat.reduceEqDiff]))) | apply g_here | (apply g_past; (solve | decide)) | apply g_exit | apply g_retc | apply g_retb | apply g_ret | apply g_done)
        exact ⟨.inr rfl, _, rfl, rfl, L1y⟩
end Gc
end
section
/- What the closed run of 'alive' needs: on a heap with the two tables alone it returns true (the run itself: GcEnv, per seat). -/
set_option linter.unusedVariables false
namespace Gc
/-- The tables of the texts, with nothing told of 'alive'. -/
def told05' (f : Nat) (args : List Val) (h : Heap) : Option Val := if f = F.strings_Join then joinV h args else none
def tabs05' : Tabs := ⟨tab05, meth05, told05'⟩
def heapT : Heap := [(1, some ⟨bytesOf tab64, false, 1⟩), (0, some ⟨bytesOf tab32, false, 1⟩)]
def retTrue : Option (Res × Heap) → Bool
  | some (.ret (.bool b), _) => b
  | _ => false
end Gc
end
