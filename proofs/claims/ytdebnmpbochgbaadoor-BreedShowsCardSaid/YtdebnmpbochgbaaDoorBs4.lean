/- That the law BreedShows holds of every input (the tied card BreedShowsCardSaid), where the two listed tables lie as the program's text lays them. (Part 4 of this claim's texts.) -/
import Derived.Test.YtdebnmpbochgbaaDoorBs3
set_option linter.unusedSimpArgs false
set_option linter.unusedVariables false
set_option linter.unnecessarySimpa false
section
/- Contracts: trees of the specification in the heap; families in them, and whether they show a triple. -/
set_option linter.unusedVariables false
set_option linter.unusedSimpArgs false
namespace Gc
variable {E : Env} {base kept : Nat} {h : Heap}
mutual
/-- Two cells are a tree of the specification, in blocks of which P speaks. -/
def RAt (P : Nat → Prop) (h : Heap) : Tr → Val → Val → Prop
  | .leaf s, a, b => a = .int .i64 (s : Int) ∧ b = .nils
  | .node s l, a, b => a = .int .i64 (s : Int) ∧ ∃ k o c ds, b = .slice k o l.length c ∧ P k ∧ spread h 2 (.slice k o l.length c) = some (l.length, ds) ∧ RsAt P h l ds
def RsAt (P : Nat → Prop) (h : Heap) : List Tr → List Val → Prop
  | [], ds => ds = []
  | t :: l, ds => ∃ a b r, ds = a :: b :: r ∧ RAt P h t a b ∧ RsAt P h l r
end
mutual
theorem RAt.keep {P Q : Nat → Prop} {h h' : Heap} (hk : ∀ k, P k → h'.get k = h.get k) (hq : ∀ k, P k → Q k) : ∀ (t : Tr) (a b : Val), RAt P h t a b → RAt Q h' t a b
  | .leaf s, a, b, e => by simpa [RAt] using e
  | .node s l, a, b, e => by
    simp only [RAt] at e ⊢
    obtain ⟨e0, k, o, c, ds, e1, e2, e3, e4⟩ := e
    exact ⟨e0, k, o, c, ds, e1, hq k e2, spread_keep (P := P) e3 (.inr e2) hk, RsAt.keep hk hq l ds e4⟩
theorem RsAt.keep {P Q : Nat → Prop} {h h' : Heap} (hk : ∀ k, P k → h'.get k = h.get k) (hq : ∀ k, P k → Q k) : ∀ (l : List Tr) (ds : List Val), RsAt P h l ds → RsAt Q h' l ds
  | [], ds, e => by simpa [RsAt] using e
  | t :: l, ds, e => by
    simp only [RsAt] at e ⊢
    obtain ⟨a, b, r, e1, e2, e3⟩ := e
    exact ⟨a, b, r, e1, RAt.keep hk hq t a b e2, RsAt.keep hk hq l r e3⟩
end
theorem RAt.left {h h' : Heap} {t : Tr} {a b : Val} (e : RAt (· < h.size) h t a b) (L : Left' h h') : RAt (· < h'.size) h' t a b := RAt.keep (fun k p => L.1 k p) (fun k p => Nat.lt_of_lt_of_le p L.2.2) t a b e
theorem RsAt.left {h h' : Heap} {l : List Tr} {ds : List Val} (e : RsAt (· < h.size) h l ds) (L : Left' h h') : RsAt (· < h'.size) h' l ds := RsAt.keep (fun k p => L.1 k p) (fun k p => Nat.lt_of_lt_of_le p L.2.2) l ds e
theorem TreeAt.left {h h' : Heap} {t : Tr} {v : Val} (e : TreeAt (· < h.size) h t v) (L : Left' h h') : TreeAt (· < h'.size) h' t v := TreeAt.keep (fun k p => L.1 k p) (fun k p => Nat.lt_of_lt_of_le p L.2.2) t v e
theorem TreesAt.left {h h' : Heap} {l : List Tr} {vs : List Val} (e : TreesAt (· < h.size) h l vs) (L : Left' h h') : TreesAt (· < h'.size) h' l vs := TreesAt.keep (fun k p => L.1 k p) (fun k p => Nat.lt_of_lt_of_le p L.2.2) l vs e
theorem RsAt.get {P : Nat → Prop} {h : Heap} : ∀ {l : List Tr} {ds : List Val}, RsAt P h l ds → ∀ {i : Nat} {t : Tr}, l[i]? = some t → ∃ a b, (ds.drop (i * 2)).take 2 = [a, b] ∧ RAt P h t a b
  | [], ds, e, i, t, ht => by simp at ht
  | t :: l, ds, e, i, u, ht => by
    simp only [RsAt] at e
    obtain ⟨a, b, r, rfl, e1, e⟩ := e
    cases i with
    | zero => simp at ht; subst ht; exact ⟨a, b, rfl, e1⟩
    | succ i =>
      obtain ⟨a', b', e2, e3⟩ := e.get (i := i) (by simpa using ht)
      refine ⟨a', b', ?_, e3⟩
      rw [show (i + 1) * 2 = 2 + i * 2 by omega, ← List.drop_drop]
      exact e2
theorem RAt.set {P : Nat → Prop} {h : Heap} {t : Tr} {a b : Val} (e : RAt P h t a b) : a = .int .i64 (t.set : Int) := by
  cases t with
  | leaf s => simp only [RAt] at e; exact e.1
  | node s l => simp only [RAt] at e; exact e.1
theorem RAt.one {P : Nat → Prop} {h : Heap} {t : Tr} {a b : Val} (e : RAt P h t a b) : a.one = true ∧ b.one = true := by
  cases t with
  | leaf s => simp only [RAt] at e; obtain ⟨rfl, rfl⟩ := e; exact ⟨rfl, rfl⟩
  | node s l => simp only [RAt] at e; obtain ⟨rfl, k, o, c, ds, rfl, _⟩ := e; exact ⟨rfl, rfl⟩
/-- An element of the parts: where it lies, its set, and itself. -/
theorem spread_get2 {h : Heap} {k o n : Nat} {c : Option Nat} {ds : List Val} {a b : Val} {i : Nat} (e : spread h 2 (.slice k o n c) = some (n, ds)) (hi : i < n) (hv : (ds.drop (i * 2)).take 2 = [a, b]) :
    ∃ p q, indexAddrV h 2 (.slice k o n c) (.int .i64 (i : Int)) = some (.ptr p q, h) ∧ h.load true 2 p q = some (.agg [a, b]) ∧ h.load false 1 p q = some a ∧ h.load false 1 p (q + 1) = some b := by
  obtain ⟨k', o', c', hv', e1, e2⟩ := spread_elem (ki := .i64) (fun s => by simp) e (j := i) hi
  cases hv'
  have h1 : (ds.drop (i * 2)).take 1 = [a] := by
    have := congrArg (List.take 1) hv
    rw [List.take_take] at this
    simpa using this
  refine ⟨_, _, e1, ?_, ?_, ?_⟩
  · rw [e2 true 2 (Nat.le_refl _), hv]; rfl
  · rw [e2 false 1 (by omega), h1]; rfl
  · have hl := spread_length e
    simp only [spread] at e
    rw [if_neg (by omega)] at e
    cases hk : h.get k with
    | none => simp [hk] at e
    | some blk =>
      simp only [hk] at e
      split at e
      case isFalse => cases e
      rename_i hle
      simp only [Option.some.injEq, Prod.mk.injEq, true_and] at e
      subst e
      rw [List.drop_take, List.drop_drop, List.take_take, Nat.min_eq_left (by omega)] at hv
      refine load_one hk ?_
      have := congrArg (fun l => l[1]?) hv
      simp only [List.getElem?_take, List.getElem?_drop] at this
      simpa [Nat.add_assoc] using this
def RFamOk (E : Env) (t : Tr) : Prop := ∀ (h : Heap) (x y : Val) (b : Nat), h.Wf → RAt (· < h.size) h t x y → b < 256 → CallV E h.size F.ref05_family [.agg [x, y], .int .i64 (b : Int)] h fun r h' => r = .int .i64 (t.fam b : Int) ∧ Left' h h'
theorem rfam_run {l : List Nat} (hE : E.Has tabs05 l) (hf : F.ref05_family ∈ l) {t : Tr} (v : t.V) : RFamOk E t := by
  induction v with
  | @leaf d hd =>
    intro h x y b w ht hb
    simp only [RAt] at ht
    obtain ⟨rfl, rfl⟩ := ht
    refine c_begin hE hf rfl (by decide) (by decide) ?_
    simp only [T.ref05_family, Frame.enterFrom, Nat.zero_add, Nat.reduceAdd]
    repeat' (first | (apply o_op; (solve | (conv => lhs; simp (disch := first | omega | (simp only [Val.cells, List.all_cons, List.all_nil, Val.one, Bool.and_self])) only [zev, zex, Val.one, List.length_cons, List.length_nil, Nat.reduceAdd, Option.map_some, Option.map_none, List.map_cons, List.map_nil, zva, ↓reduceIte, Nat.reduceEqDiff])); (solve | (conv => lhs; simp only [zfr, Nat.reduceEqDiff, Nat.reduceLT, ↓reduceIte]))) | (apply o_yes; (solve | (conv => lhs; simp only [zva, ↓reduceIte, Nat.reduceEqDiff])); (solve | rfl)) | (apply o_no; (solve | (conv => lhs; simp only [zva, ↓reduceIte, Nat.reduceEqDiff])); (solve | decide); (solve | (conv => lhs; simp only [zfr, Nat.reduceEqDiff, Nat.reduceLT, ↓reduceIte]))) | (apply o_not; (solve | (conv => lhs; simp only [zva, ↓reduceIte, Nat.reduceEqDiff])); (solve | (conv => lhs; simp only [zfr, Nat.reduceEqDiff, Nat.reduceLT, ↓reduceIte]))) | (apply o_if; (solve | (conv => lhs; simp only [zva, ↓reduceIte, Nat.reduceEqDiff])); (solve | (intro hbb; conv => lhs; simp (disch := first | omega | (simp only [Val.cells, List.all_cons, List.all_nil, Val.one, Bool.and_self])) only [zev, zex, Val.one, List.length_cons, List.length_nil, Nat.reduceAdd, Option.map_some, Option.map_none, List.map_cons, List.map_nil, zva, ↓reduceIte, Nat.reduceEqDiff, hbb])); (solve | (conv => lhs; simp only [zfr, Nat.reduceEqDiff, Nat.reduceLT, ↓reduceIte]))) | (apply o_end; (solve | (conv => lhs; simp only [zdr, inl, Nat.reduceEqDiff, or_false, or_true, ↓reduceIte]))) | apply g_seq | apply g_region | apply g_next | apply g_block | apply g_out | (apply g_true; (solve | (conv => lhs; simp only [zva, ↓reduceIte, Nat.reduceEqDiff]))) | (apply g_false; (solve | (conv => lhs; simp only [zva, ↓reduceIte, Nat.reduceEqDiff]))) | apply g_here | (apply g_past; (solve | decide)) | apply g_exit | apply g_retc | apply g_retb | apply g_ret | apply g_done)
    refine loop_ind (fun m fr h2 => fr = [(1, .int .i64 (b : Int)), (2, .ptr h.size 0), (5, .int .i64 0)] ∧ h2 = h.push (some ⟨[.int .i64 ((2 ^ d : Nat) : Int), .nils], true, 0⟩)) ?_ 0 _ _ ⟨rfl, rfl⟩
    rintro m fr h2 ⟨rfl, rfl⟩ ih
    have d2 : decide ((0 : Int) < 0) = false := rfl
    repeat' (first | (apply o_op; (solve | (conv => lhs; simp (disch := first | omega | (simp only [Val.cells, List.all_cons, List.all_nil, Val.one, Bool.and_self])) only [zev, zex, Val.one, List.length_cons, List.length_nil, Nat.reduceAdd, Option.map_some, Option.map_none, List.map_cons, List.map_nil, zva, ↓reduceIte, Nat.reduceEqDiff, d2])); (solve | (conv => lhs; simp only [zfr, Nat.reduceEqDiff, Nat.reduceLT, ↓reduceIte]))) | (apply o_yes; (solve | (conv => lhs; simp only [zva, ↓reduceIte, Nat.reduceEqDiff, d2])); (solve | rfl)) | (apply o_no; (solve | (conv => lhs; simp only [zva, ↓reduceIte, Nat.reduceEqDiff, d2])); (solve | decide); (solve | (conv => lhs; simp only [zfr, Nat.reduceEqDiff, Nat.reduceLT, ↓reduceIte]))) | (apply o_not; (solve | (conv => lhs; simp only [zva, ↓reduceIte, Nat.reduceEqDiff])); (solve | (conv => lhs; simp only [zfr, Nat.reduceEqDiff, Nat.reduceLT, ↓reduceIte]))) | (apply o_if; (solve | (conv => lhs; simp only [zva, ↓reduceIte, Nat.reduceEqDiff])); (solve | (intro hbb; conv => lhs; simp (disch := first | omega | (simp only [Val.cells, List.all_cons, List.all_nil, Val.one, Bool.and_self])) only [zev, zex, Val.one, List.length_cons, List.length_nil, Nat.reduceAdd, Option.map_some, Option.map_none, List.map_cons, List.map_nil, zva, ↓reduceIte, Nat.reduceEqDiff, hbb, d2])); (solve | (conv => lhs; simp only [zfr, Nat.reduceEqDiff, Nat.reduceLT, ↓reduceIte]))) | (apply o_end; (solve | (conv => lhs; simp only [zdr, inl, Nat.reduceEqDiff, or_false, or_true, ↓reduceIte]))) | apply g_seq | apply g_region | apply g_next | apply g_block | apply g_out | (apply g_true; (solve | (conv => lhs; simp only [zva, ↓reduceIte, Nat.reduceEqDiff, d2]))) | (apply g_false; (solve | (conv => lhs; simp only [zva, ↓reduceIte, Nat.reduceEqDiff, d2]))) | apply g_here | (apply g_past; (solve | decide)) | apply g_exit | apply g_retc | apply g_retb | apply g_ret | apply g_done)
    exact ⟨.inr rfl, _, rfl, rfl, left_push w _⟩
  | @node ts hl h2 hd hs ih =>
    intro h x y b w ht hb
    have ht' := ht
    simp only [RAt] at ht
    obtain ⟨rfl, k, o, c, vs, rfl, hk, hsp, hts⟩ := ht
    refine c_begin hE hf rfl (by decide) (by decide) ?_
    simp only [T.ref05_family, Frame.enterFrom, Nat.zero_add, Nat.reduceAdd]
    have hvn := (Tr.V.node hl h2 hd hs).lt
    simp only [Tr.set] at hvn
    have hlen := few_parts hs
    repeat' (first | (apply o_op; (solve | (conv => lhs; simp (disch := first | omega | (simp only [Val.cells, List.all_cons, List.all_nil, Val.one, Bool.and_self])) only [zev, zex, Val.one, List.length_cons, List.length_nil, Nat.reduceAdd, Option.map_some, Option.map_none, List.map_cons, List.map_nil, zva, ↓reduceIte, Nat.reduceEqDiff])); (solve | (conv => lhs; simp only [zfr, Nat.reduceEqDiff, Nat.reduceLT, ↓reduceIte]))) | (apply o_yes; (solve | (conv => lhs; simp only [zva, ↓reduceIte, Nat.reduceEqDiff])); (solve | rfl)) | (apply o_no; (solve | (conv => lhs; simp only [zva, ↓reduceIte, Nat.reduceEqDiff])); (solve | decide); (solve | (conv => lhs; simp only [zfr, Nat.reduceEqDiff, Nat.reduceLT, ↓reduceIte]))) | (apply o_not; (solve | (conv => lhs; simp only [zva, ↓reduceIte, Nat.reduceEqDiff])); (solve | (conv => lhs; simp only [zfr, Nat.reduceEqDiff, Nat.reduceLT, ↓reduceIte]))) | (apply o_if; (solve | (conv => lhs; simp only [zva, ↓reduceIte, Nat.reduceEqDiff])); (solve | (intro hbb; conv => lhs; simp (disch := first | omega | (simp only [Val.cells, List.all_cons, List.all_nil, Val.one, Bool.and_self])) only [zev, zex, Val.one, List.length_cons, List.length_nil, Nat.reduceAdd, Option.map_some, Option.map_none, List.map_cons, List.map_nil, zva, ↓reduceIte, Nat.reduceEqDiff, hbb])); (solve | (conv => lhs; simp only [zfr, Nat.reduceEqDiff, Nat.reduceLT, ↓reduceIte]))) | (apply o_end; (solve | (conv => lhs; simp only [zdr, inl, Nat.reduceEqDiff, or_false, or_true, ↓reduceIte]))) | apply g_seq | apply g_region | apply g_next | apply g_block | apply g_out | (apply g_true; (solve | (conv => lhs; simp only [zva, ↓reduceIte, Nat.reduceEqDiff]))) | (apply g_false; (solve | (conv => lhs; simp only [zva, ↓reduceIte, Nat.reduceEqDiff]))) | apply g_here | (apply g_past; (solve | decide)) | apply g_exit | apply g_retc | apply g_retb | apply g_ret | apply g_done)
    have L1 := left_push w (some ⟨[.int .i64 (union ts : Int), .slice k o ts.length c], true, 0⟩)
    generalize hh1 : h.push (some ⟨[.int .i64 (union ts : Int), .slice k o ts.length c], true, 0⟩) = h1 at L1
    have g1 : h1.get h.size = some ⟨[.int .i64 (union ts : Int), .slice k o ts.length c], true, 0⟩ := by subst hh1; exact get_push_self
    have hs1 : h.size < h1.size := by subst hh1; simp
    refine loop_ind (fun m fr h2 => ∃ i, i + m = ts.length ∧ fr = [(1, .int .i64 (b : Int)), (2, .ptr h.size 0), (5, .int .i64 (i : Int))] ∧ Left' h1 h2 ∧ ∀ j (hj : j < i) (hj' : j < ts.length), diff b ts[j].set ≠ 0) ?_ ts.length _ _ ⟨0, by omega, rfl, Left'.refl L1.2.1, fun j hj => by omega⟩
    rintro m fr h2 ⟨i, him, rfl, L2, ha⟩ ih2
    have hs2 := L2.2.2
    have g2 : h2.get h.size = some ⟨[.int .i64 (union ts : Int), .slice k o ts.length c], true, 0⟩ := by rw [L2.1 _ hs1]; exact g1
    have la : h2.load false 1 h.size 0 = some (.int .i64 (union ts : Int)) := load_one g2 rfl
    have lb : h2.load false 1 h.size 1 = some (.slice k o ts.length c) := load_one g2 rfl
    by_cases hi : i < ts.length
    · have d2 : decide ((i : Int) < (ts.length : Int)) = true := decide_eq_true (by omega)
      have hts2 := (hts.left L1).left L2
      obtain ⟨a', b', e1, hut⟩ := hts2.get (List.getElem?_eq_getElem hi)
      obtain ⟨p, q, p1, p2, p3, p4⟩ := spread_get2 (spread_left w hsp (L1.trans L2)) hi e1
      have hul := (hl _ (List.getElem_mem hi)).lt
      have hset := hut.set
      subst hset
      repeat' (first | (apply o_op; (solve | (conv => lhs; simp (disch := first | omega | (simp only [Val.cells, List.all_cons, List.all_nil, Val.one, Bool.and_self])) only [zev, zex, Val.one, List.length_cons, List.length_nil, Nat.reduceAdd, Option.map_some, Option.map_none, List.map_cons, List.map_nil, zva, ↓reduceIte, Nat.reduceEqDiff, d2, la, lb, p1, p2, p3])); (solve | (conv => lhs; simp only [zfr, Nat.reduceEqDiff, Nat.reduceLT, ↓reduceIte]))) | (apply o_yes; (solve | (conv => lhs; simp only [zva, ↓reduceIte, Nat.reduceEqDiff, d2, la, lb, p1, p2, p3])); (solve | rfl)) | (apply o_no; (solve | (conv => lhs; simp only [zva, ↓reduceIte, Nat.reduceEqDiff, d2, la, lb, p1, p2, p3])); (solve | decide); (solve | (conv => lhs; simp only [zfr, Nat.reduceEqDiff, Nat.reduceLT, ↓reduceIte]))) | (apply o_not; (solve | (conv => lhs; simp only [zva, ↓reduceIte, Nat.reduceEqDiff])); (solve | (conv => lhs; simp only [zfr, Nat.reduceEqDiff, Nat.reduceLT, ↓reduceIte]))) | (apply o_if; (solve | (conv => lhs; simp only [zva, ↓reduceIte, Nat.reduceEqDiff])); (solve | (intro hbb; conv => lhs; simp (disch := first | omega | (simp only [Val.cells, List.all_cons, List.all_nil, Val.one, Bool.and_self])) only [zev, zex, Val.one, List.length_cons, List.length_nil, Nat.reduceAdd, Option.map_some, Option.map_none, List.map_cons, List.map_nil, zva, ↓reduceIte, Nat.reduceEqDiff, hbb, d2, la, lb, p1, p2, p3])); (solve | (conv => lhs; simp only [zfr, Nat.reduceEqDiff, Nat.reduceLT, ↓reduceIte]))) | (apply o_end; (solve | (conv => lhs; simp only [zdr, inl, Nat.reduceEqDiff, or_false, or_true, ↓reduceIte]))) | apply g_seq | apply g_region | apply g_next | apply g_block | apply g_out | (apply g_true; (solve | (conv => lhs; simp only [zva, ↓reduceIte, Nat.reduceEqDiff, d2, la, lb, p1, p2, p3]))) | (apply g_false; (solve | (conv => lhs; simp only [zva, ↓reduceIte, Nat.reduceEqDiff, d2, la, lb, p1, p2, p3]))) | apply g_here | (apply g_past; (solve | decide)) | apply g_exit | apply g_retc | apply g_retb | apply g_ret | apply g_done)
      by_cases h0 : diff b ts[i].set = 0
      · have e0 : (((diff b ts[i].set : Nat) : Int) == 0) = true := by rw [h0]; rfl
        rw [e0]
        repeat' (first | (apply o_op; (solve | (conv => lhs; simp (disch := first | omega | (simp only [Val.cells, List.all_cons, List.all_nil, Val.one, Bool.and_self])) only [zev, zex, Val.one, List.length_cons, List.length_nil, Nat.reduceAdd, Option.map_some, Option.map_none, List.map_cons, List.map_nil, zva, ↓reduceIte, Nat.reduceEqDiff, la, lb, p1, p2, p3])); (solve | (conv => lhs; simp only [zfr, Nat.reduceEqDiff, Nat.reduceLT, ↓reduceIte]))) | (apply o_yes; (solve | (conv => lhs; simp only [zva, ↓reduceIte, Nat.reduceEqDiff, la, lb, p1, p2, p3])); (solve | rfl)) | (apply o_no; (solve | (conv => lhs; simp only [zva, ↓reduceIte, Nat.reduceEqDiff, la, lb, p1, p2, p3])); (solve | decide); (solve | (conv => lhs; simp only [zfr, Nat.reduceEqDiff, Nat.reduceLT, ↓reduceIte]))) | (apply o_not; (solve | (conv => lhs; simp only [zva, ↓reduceIte, Nat.reduceEqDiff])); (solve | (conv => lhs; simp only [zfr, Nat.reduceEqDiff, Nat.reduceLT, ↓reduceIte]))) | (apply o_if; (solve | (conv => lhs; simp only [zva, ↓reduceIte, Nat.reduceEqDiff])); (solve | (intro hbb; conv => lhs; simp (disch := first | omega | (simp only [Val.cells, List.all_cons, List.all_nil, Val.one, Bool.and_self])) only [zev, zex, Val.one, List.length_cons, List.length_nil, Nat.reduceAdd, Option.map_some, Option.map_none, List.map_cons, List.map_nil, zva, ↓reduceIte, Nat.reduceEqDiff, hbb, la, lb, p1, p2, p3])); (solve | (conv => lhs; simp only [zfr, Nat.reduceEqDiff, Nat.reduceLT, ↓reduceIte]))) | (apply o_end; (solve | (conv => lhs; simp only [zdr, inl, Nat.reduceEqDiff, or_false, or_true, ↓reduceIte]))) | apply g_seq | apply g_region | apply g_next | apply g_block | apply g_out | (apply g_true; (solve | (conv => lhs; simp only [zva, ↓reduceIte, Nat.reduceEqDiff, la, lb, p1, p2, p3]))) | (apply g_false; (solve | (conv => lhs; simp only [zva, ↓reduceIte, Nat.reduceEqDiff, la, lb, p1, p2, p3]))) | apply g_here | (apply g_past; (solve | decide)) | apply g_exit | apply g_retc | apply g_retb | apply g_ret | apply g_done)
        (apply o_call; (solve | (conv => lhs; simp only [Callee.find, List.map_cons, List.map_nil, List.cons_append, List.nil_append, zva, ↓reduceIte, Nat.reduceEqDiff])))
        · exact (ih _ (List.getElem_mem hi) h2 _ _ b L2.2.1 hut hb).lower (show h.size ≤ h2.size by omega)
        rintro _ h3 ⟨rfl, L3⟩
        (conv => arg 8; simp only [zfr, Nat.reduceEqDiff, Nat.reduceLT, ↓reduceIte])
        repeat' (first | (apply o_op; (solve | (conv => lhs; simp (disch := first | omega | (simp only [Val.cells, List.all_cons, List.all_nil, Val.one, Bool.and_self])) only [zev, zex, Val.one, List.length_cons, List.length_nil, Nat.reduceAdd, Option.map_some, Option.map_none, List.map_cons, List.map_nil, zva, ↓reduceIte, Nat.reduceEqDiff])); (solve | (conv => lhs; simp only [zfr, Nat.reduceEqDiff, Nat.reduceLT, ↓reduceIte]))) | (apply o_yes; (solve | (conv => lhs; simp only [zva, ↓reduceIte, Nat.reduceEqDiff])); (solve | rfl)) | (apply o_no; (solve | (conv => lhs; simp only [zva, ↓reduceIte, Nat.reduceEqDiff])); (solve | decide); (solve | (conv => lhs; simp only [zfr, Nat.reduceEqDiff, Nat.reduceLT, ↓reduceIte]))) | (apply o_not; (solve | (conv => lhs; simp only [zva, ↓reduceIte, Nat.reduceEqDiff])); (solve | (conv => lhs; simp only [zfr, Nat.reduceEqDiff, Nat.reduceLT, ↓reduceIte]))) | (apply o_if; (solve | (conv => lhs; simp only [zva, ↓reduceIte, Nat.reduceEqDiff])); (solve | (intro hbb; conv => lhs; simp (disch := first | omega | (simp only [Val.cells, List.all_cons, List.all_nil, Val.one, Bool.and_self])) only [zev, zex, Val.one, List.length_cons, List.length_nil, Nat.reduceAdd, Option.map_some, Option.map_none, List.map_cons, List.map_nil, zva, ↓reduceIte, Nat.reduceEqDiff, hbb])); (solve | (conv => lhs; simp only [zfr, Nat.reduceEqDiff, Nat.reduceLT, ↓reduceIte]))) | (apply o_end; (solve | (conv => lhs; simp only [zdr, inl, Nat.reduceEqDiff, or_false, or_true, ↓reduceIte]))) | apply g_seq | apply g_region | apply g_next | apply g_block | apply g_out | (apply g_true; (solve | (conv => lhs; simp only [zva, ↓reduceIte, Nat.reduceEqDiff]))) | (apply g_false; (solve | (conv => lhs; simp only [zva, ↓reduceIte, Nat.reduceEqDiff]))) | apply g_here | (apply g_past; (solve | decide)) | apply g_exit | apply g_retc | apply g_retb | apply g_ret | apply g_done)
        refine ⟨.inr rfl, _, rfl, ?_, (L1.trans L2).trans L3⟩
        simp only [tuple, Frame.get, Tr.fam]
        rw [famIn_at hi (fun j hj => ha j hj (by omega)) h0]
        rfl
      · have e0 : (((diff b ts[i].set : Nat) : Int) == 0) = false := by simp [h0]
        rw [e0]
        repeat' (first | (apply o_op; (solve | (conv => lhs; simp (disch := first | omega | (simp only [Val.cells, List.all_cons, List.all_nil, Val.one, Bool.and_self])) only [zev, zex, Val.one, List.length_cons, List.length_nil, Nat.reduceAdd, Option.map_some, Option.map_none, List.map_cons, List.map_nil, zva, ↓reduceIte, Nat.reduceEqDiff])); (solve | (conv => lhs; simp only [zfr, Nat.reduceEqDiff, Nat.reduceLT, ↓reduceIte]))) | (apply o_yes; (solve | (conv => lhs; simp only [zva, ↓reduceIte, Nat.reduceEqDiff])); (solve | rfl)) | (apply o_no; (solve | (conv => lhs; simp only [zva, ↓reduceIte, Nat.reduceEqDiff])); (solve | decide); (solve | (conv => lhs; simp only [zfr, Nat.reduceEqDiff, Nat.reduceLT, ↓reduceIte]))) | (apply o_not; (solve | (conv => lhs; simp only [zva, ↓reduceIte, Nat.reduceEqDiff])); (solve | (conv => lhs; simp only [zfr, Nat.reduceEqDiff, Nat.reduceLT, ↓reduceIte]))) | (apply o_if; (solve | (conv => lhs; simp only [zva, ↓reduceIte, Nat.reduceEqDiff])); (solve | (intro hbb; conv => lhs; simp (disch := first | omega | (simp only [Val.cells, List.all_cons, List.all_nil, Val.one, Bool.and_self])) only [zev, zex, Val.one, List.length_cons, List.length_nil, Nat.reduceAdd, Option.map_some, Option.map_none, List.map_cons, List.map_nil, zva, ↓reduceIte, Nat.reduceEqDiff, hbb])); (solve | (conv => lhs; simp only [zfr, Nat.reduceEqDiff, Nat.reduceLT, ↓reduceIte]))) | (apply o_end; (solve | (conv => lhs; simp only [zdr, inl, Nat.reduceEqDiff, or_false, or_true, ↓reduceIte]))) | apply g_seq | apply g_region | apply g_next | apply g_block | apply g_out | (apply g_true; (solve | (conv => lhs; simp only [zva, ↓reduceIte, Nat.reduceEqDiff]))) | (apply g_false; (solve | (conv => lhs; simp only [zva, ↓reduceIte, Nat.reduceEqDiff]))) | apply g_here | (apply g_past; (solve | decide)) | apply g_exit | apply g_retc | apply g_retb | apply g_ret | apply g_done)
        refine ih2 (m - 1) _ _ (by omega) ⟨i + 1, by omega, by simp, L2, fun j hj hj' => ?_⟩
        by_cases e : j = i
        · subst e; exact h0
        · exact ha j (by omega) hj'
    · have d2 : decide ((i : Int) < (ts.length : Int)) = false := decide_eq_false (by omega)
      repeat' (first | (apply o_op; (solve | (conv => lhs; simp (disch := first | omega | (simp only [Val.cells, List.all_cons, List.all_nil, Val.one, Bool.and_self])) only [zev, zex, Val.one, List.length_cons, List.length_nil, Nat.reduceAdd, Option.map_some, Option.map_none, List.map_cons, List.map_nil, zva, ↓reduceIte, Nat.reduceEqDiff, d2, la, lb])); (solve | (conv => lhs; simp only [zfr, Nat.reduceEqDiff, Nat.reduceLT, ↓reduceIte]))) | (apply o_yes; (solve | (conv => lhs; simp only [zva, ↓reduceIte, Nat.reduceEqDiff, d2, la, lb])); (solve | rfl)) | (apply o_no; (solve | (conv => lhs; simp only [zva, ↓reduceIte, Nat.reduceEqDiff, d2, la, lb])); (solve | decide); (solve | (conv => lhs; simp only [zfr, Nat.reduceEqDiff, Nat.reduceLT, ↓reduceIte]))) | (apply o_not; (solve | (conv => lhs; simp only [zva, ↓reduceIte, Nat.reduceEqDiff])); (solve | (conv => lhs; simp only [zfr, Nat.reduceEqDiff, Nat.reduceLT, ↓reduceIte]))) | (apply o_if; (solve | (conv => lhs; simp only [zva, ↓reduceIte, Nat.reduceEqDiff])); (solve | (intro hbb; conv => lhs; simp (disch := first | omega | (simp only [Val.cells, List.all_cons, List.all_nil, Val.one, Bool.and_self])) only [zev, zex, Val.one, List.length_cons, List.length_nil, Nat.reduceAdd, Option.map_some, Option.map_none, List.map_cons, List.map_nil, zva, ↓reduceIte, Nat.reduceEqDiff, hbb, d2, la, lb])); (solve | (conv => lhs; simp only [zfr, Nat.reduceEqDiff, Nat.reduceLT, ↓reduceIte]))) | (apply o_end; (solve | (conv => lhs; simp only [zdr, inl, Nat.reduceEqDiff, or_false, or_true, ↓reduceIte]))) | apply g_seq | apply g_region | apply g_next | apply g_block | apply g_out | (apply g_true; (solve | (conv => lhs; simp only [zva, ↓reduceIte, Nat.reduceEqDiff, d2, la, lb]))) | (apply g_false; (solve | (conv => lhs; simp only [zva, ↓reduceIte, Nat.reduceEqDiff, d2, la, lb]))) | apply g_here | (apply g_past; (solve | decide)) | apply g_exit | apply g_retc | apply g_retb | apply g_ret | apply g_done)
      refine ⟨.inr rfl, _, rfl, ?_, L1.trans L2⟩
      simp only [tuple, Frame.get, Tr.fam]
      rw [famIn_no fun j hj => ha j (by omega) hj]
      rfl
theorem rshows_run {l : List Nat} (hE : E.Has tabs05 l) (hf : ∀ f ∈ [F.ref05_shows, F.ref05_family], f ∈ l) (w : h.Wf) {t : Tr} (tv : t.V) {y z : Val} (ht : RAt (· < h.size) h t y z) {n : Nat} (hn : n ≤ 8) {x : T3} (hx : okT n x) :
    CallV E h.size F.ref05_shows [.agg [y, z], .agg (cell3 (toI x))] h fun r h' => r = .bool (t.shows x) ∧ Left' h h' := by
  refine c_begin hE (hf _ (by simp)) rfl (by decide) (by decide) ?_
  obtain ⟨hp, ha, hb, hc⟩ := hx.pair hn
  obtain ⟨a, b, c⟩ := x
  simp only [pair] at hp
  simp only at ha hb hc
  simp only [T.ref05_shows, Frame.enterFrom, Nat.zero_add, Nat.reduceAdd, cell3, toI]
  obtain ⟨o1, o2⟩ := ht.one
  have q1 : 2 ^ a < 256 := lt_256.2 fun i hi => by rw [← bit_two.1 hi]; exact ha
  have q2 : 2 ^ b < 256 := lt_256.2 fun i hi => by rw [← bit_two.1 hi]; exact hb
  have x0 : boxV h h.size none (.agg [y, z]) = some (.ptr h.size 0, h.push (some ⟨[y, z], true, 0⟩)) := boxV_new (by simp [Val.cells, o1, o2])
  have L0 := left_push w (some ⟨[y, z], true, 0⟩)
  have k0 : (h.push (some ⟨[y, z], true, 0⟩)).get h.size = some ⟨[y, z], true, 0⟩ := get_push_self
  have s0 : h.size < (h.push (some ⟨[y, z], true, 0⟩)).size := by simp
  generalize h.push (some ⟨[y, z], true, 0⟩) = h0 at x0 L0 k0 s0
  have L1 := left_push L0.2.1 (some ⟨[.int .i64 (a : Int), .int .i64 (b : Int), .int .i64 (c : Int)], true, 0⟩)
  have ht1 := (ht.left L0).left L1
  generalize hpa : 2 ^ a = pa at q1
  generalize hpb : 2 ^ b = pb at q2
  have hs1 := L1.2.2
  have b1 : binOp .plain .shl (.int .i64 1) (.int .i64 (a : Int)) = some (.int .i64 (pa : Int)) := by rw [← hpa]; exact b_shl1 (by omega)
  have b2 : binOp .plain .shl (.int .i64 1) (.int .i64 (b : Int)) = some (.int .i64 (pb : Int)) := by rw [← hpb]; exact b_shl1 (by omega)
  have l0 : (h0.push (some ⟨[.int .i64 (a : Int), .int .i64 (b : Int), .int .i64 (c : Int)], true, 0⟩)).load true 2 h.size 0 = some (.agg [y, z]) := load_agg ((get_push_lt s0).trans k0) (by simp) rfl
  repeat' (first | (apply o_op; (solve | (conv => lhs; simp (disch := first | omega | (simp only [Val.cells, List.all_cons, List.all_nil, Val.one, Bool.and_self])) only [zev, zex, Val.one, List.length_cons, List.length_nil, Nat.reduceAdd, Option.map_some, Option.map_none, List.map_cons, List.map_nil, zva, ↓reduceIte, Nat.reduceEqDiff, x0, b1, b2, l0])); (solve | (conv => lhs; simp only [zfr, Nat.reduceEqDiff, Nat.reduceLT, ↓reduceIte]))) | (apply o_yes; (solve | (conv => lhs; simp only [zva, ↓reduceIte, Nat.reduceEqDiff, x0, b1, b2, l0])); (solve | rfl)) | (apply o_no; (solve | (conv => lhs; simp only [zva, ↓reduceIte, Nat.reduceEqDiff, x0, b1, b2, l0])); (solve | decide); (solve | (conv => lhs; simp only [zfr, Nat.reduceEqDiff, Nat.reduceLT, ↓reduceIte]))) | (apply o_not; (solve | (conv => lhs; simp only [zva, ↓reduceIte, Nat.reduceEqDiff])); (solve | (conv => lhs; simp only [zfr, Nat.reduceEqDiff, Nat.reduceLT, ↓reduceIte]))) | (apply o_if; (solve | (conv => lhs; simp only [zva, ↓reduceIte, Nat.reduceEqDiff])); (solve | (intro hbb; conv => lhs; simp (disch := first | omega | (simp only [Val.cells, List.all_cons, List.all_nil, Val.one, Bool.and_self])) only [zev, zex, Val.one, List.length_cons, List.length_nil, Nat.reduceAdd, Option.map_some, Option.map_none, List.map_cons, List.map_nil, zva, ↓reduceIte, Nat.reduceEqDiff, hbb, x0, b1, b2, l0])); (solve | (conv => lhs; simp only [zfr, Nat.reduceEqDiff, Nat.reduceLT, ↓reduceIte]))) | (apply o_end; (solve | (conv => lhs; simp only [zdr, inl, Nat.reduceEqDiff, or_false, or_true, ↓reduceIte]))) | apply g_seq | apply g_region | apply g_next | apply g_block | apply g_out | (apply g_true; (solve | (conv => lhs; simp only [zva, ↓reduceIte, Nat.reduceEqDiff, x0, b1, b2, l0]))) | (apply g_false; (solve | (conv => lhs; simp only [zva, ↓reduceIte, Nat.reduceEqDiff, x0, b1, b2, l0]))) | apply g_here | (apply g_past; (solve | decide)) | apply g_exit | apply g_retc | apply g_retb | apply g_ret | apply g_done)
  (apply o_call; (solve | (conv => lhs; simp only [Callee.find, List.map_cons, List.map_nil, List.cons_append, List.nil_append, zva, ↓reduceIte, Nat.reduceEqDiff])))
  · exact (rfam_run hE (hf _ (by simp)) tv _ _ _ (pa ||| pb) L1.2.1 ht1 (by rw [← hpa, ← hpb]; exact hp)).lower (by split <;> omega)
  rintro _ h3 ⟨rfl, L3⟩
  (conv => arg 8; simp only [zfr, Nat.reduceEqDiff, Nat.reduceLT, ↓reduceIte])
  have hlt := tv.fam_lt (pa ||| pb)
  have hq : t.fam (pa ||| pb) >>> c < 256 := Nat.lt_of_le_of_lt (Nat.shiftRight_le _ _) hlt
  have b0 : binOp .plain .shr (.int .i64 (t.fam (pa ||| pb) : Int)) (.int .i64 (c : Int)) = some (.int .i64 ((t.fam (pa ||| pb) >>> c : Nat) : Int)) := b_shrN (by omega)
  repeat' (first | (apply o_op; (solve | (conv => lhs; simp (disch := first | omega | (simp only [Val.cells, List.all_cons, List.all_nil, Val.one, Bool.and_self])) only [zev, zex, Val.one, List.length_cons, List.length_nil, Nat.reduceAdd, Option.map_some, Option.map_none, List.map_cons, List.map_nil, zva, ↓reduceIte, Nat.reduceEqDiff, b0])); (solve | (conv => lhs; simp only [zfr, Nat.reduceEqDiff, Nat.reduceLT, ↓reduceIte]))) | (apply o_yes; (solve | (conv => lhs; simp only [zva, ↓reduceIte, Nat.reduceEqDiff, b0])); (solve | rfl)) | (apply o_no; (solve | (conv => lhs; simp only [zva, ↓reduceIte, Nat.reduceEqDiff, b0])); (solve | decide); (solve | (conv => lhs; simp only [zfr, Nat.reduceEqDiff, Nat.reduceLT, ↓reduceIte]))) | (apply o_not; (solve | (conv => lhs; simp only [zva, ↓reduceIte, Nat.reduceEqDiff])); (solve | (conv => lhs; simp only [zfr, Nat.reduceEqDiff, Nat.reduceLT, ↓reduceIte]))) | (apply o_if; (solve | (conv => lhs; simp only [zva, ↓reduceIte, Nat.reduceEqDiff])); (solve | (intro hbb; conv => lhs; simp (disch := first | omega | (simp only [Val.cells, List.all_cons, List.all_nil, Val.one, Bool.and_self])) only [zev, zex, Val.one, List.length_cons, List.length_nil, Nat.reduceAdd, Option.map_some, Option.map_none, List.map_cons, List.map_nil, zva, ↓reduceIte, Nat.reduceEqDiff, hbb, b0])); (solve | (conv => lhs; simp only [zfr, Nat.reduceEqDiff, Nat.reduceLT, ↓reduceIte]))) | (apply o_end; (solve | (conv => lhs; simp only [zdr, inl, Nat.reduceEqDiff, or_false, or_true, ↓reduceIte]))) | apply g_seq | apply g_region | apply g_next | apply g_block | apply g_out | (apply g_true; (solve | (conv => lhs; simp only [zva, ↓reduceIte, Nat.reduceEqDiff, b0]))) | (apply g_false; (solve | (conv => lhs; simp only [zva, ↓reduceIte, Nat.reduceEqDiff, b0]))) | apply g_here | (apply g_past; (solve | decide)) | apply g_exit | apply g_retc | apply g_retb | apply g_ret | apply g_done)
  refine ⟨.inr rfl, _, rfl, ?_, (L0.trans L1).trans L3⟩
  simp [tuple, Frame.get, Tr.shows, pair, hpa, hpb]
end Gc
end
section
/- Contracts: searching and deleting in lists of triples, by a function that is given. -/
set_option linter.unusedVariables false
set_option linter.unusedSimpArgs false
namespace Gc
variable {E : Env} {base kept : Nat} {h : Heap}
/-- The function answers p of the triples, wherever the first N blocks are as in h. -/
def Asks (E : Env) (N : Nat) (h : Heap) (f : Nat) (cs : List Val) (ts : List I3) (p : I3 → Bool) : Prop := ∀ t ∈ ts, ∀ h', Keep (· < N) h h' → h'.Wf → N ≤ h'.size → CallV E h'.size f (.agg (cell3 t) :: cs) h' fun r h'' => r = .bool (p t) ∧ Left' h' h''
theorem Asks.keep {E : Env} {N : Nat} {h h' : Heap} {f : Nat} {cs : List Val} {ts : List I3} {p : I3 → Bool} (a : Asks E N h f cs ts p) (k : Keep (· < N) h h') : Asks E N h' f cs ts p := fun t ht h2 k2 => a t ht h2 (k.trans k2)
theorem Left'.keepN {h h' : Heap} {N : Nat} (L : Left' h h') (hN : N ≤ h.size) : Keep (· < N) h h' := L.1.sub fun _ hk => Nat.lt_of_lt_of_le hk hN
theorem index_run {l : List Nat} (hE : E.Has tabs05 l) (hf : F.slices_IndexFunc_Triple ∈ l) (w : h.Wf) {v : Val} {ts : List I3} (ht : TriplesAt h v ts) (hlen : ts.length < 2 ^ 60) {f : Nat} {cs : List Val} {p : I3 → Bool} {N : Nat} (hN : N ≤ h.size) (hp : Asks E N h f cs ts p) :
    CallV E h.size F.slices_IndexFunc_Triple [v, .fn f cs] h fun r h' => r = .int .i64 (match ts.findIdx? p with | some i => (i : Int) | none => -1) ∧ Left' h h' := by
  refine c_begin hE hf rfl (by decide) (by decide) ?_
  simp only [T.slices_IndexFunc_Triple, Frame.enterFrom, Nat.zero_add, Nat.reduceAdd]
  have e1 := ht.len
  repeat' (first | (apply o_op; (solve | (conv => lhs; simp (disch := first | omega | (simp only [Val.cells, List.all_cons, List.all_nil, Val.one, Bool.and_self])) only [zev, zex, Val.one, List.length_cons, List.length_nil, Nat.reduceAdd, Option.map_some, Option.map_none, List.map_cons, List.map_nil, zva, ↓reduceIte, Nat.reduceEqDiff, e1])); (solve | (conv => lhs; simp only [zfr, Nat.reduceEqDiff, Nat.reduceLT, ↓reduceIte]))) | (apply o_yes; (solve | (conv => lhs; simp only [zva, ↓reduceIte, Nat.reduceEqDiff, e1])); (solve | rfl)) | (apply o_no; (solve | (conv => lhs; simp only [zva, ↓reduceIte, Nat.reduceEqDiff, e1])); (solve | decide); (solve | (conv => lhs; simp only [zfr, Nat.reduceEqDiff, Nat.reduceLT, ↓reduceIte]))) | (apply o_not; (solve | (conv => lhs; simp only [zva, ↓reduceIte, Nat.reduceEqDiff])); (solve | (conv => lhs; simp only [zfr, Nat.reduceEqDiff, Nat.reduceLT, ↓reduceIte]))) | (apply o_if; (solve | (conv => lhs; simp only [zva, ↓reduceIte, Nat.reduceEqDiff])); (solve | (intro hbb; conv => lhs; simp (disch := first | omega | (simp only [Val.cells, List.all_cons, List.all_nil, Val.one, Bool.and_self])) only [zev, zex, Val.one, List.length_cons, List.length_nil, Nat.reduceAdd, Option.map_some, Option.map_none, List.map_cons, List.map_nil, zva, ↓reduceIte, Nat.reduceEqDiff, hbb, e1])); (solve | (conv => lhs; simp only [zfr, Nat.reduceEqDiff, Nat.reduceLT, ↓reduceIte]))) | (apply o_end; (solve | (conv => lhs; simp only [zdr, inl, Nat.reduceEqDiff, or_false, or_true, ↓reduceIte]))) | apply g_seq | apply g_region | apply g_next | apply g_block | apply g_out | (apply g_true; (solve | (conv => lhs; simp only [zva, ↓reduceIte, Nat.reduceEqDiff, e1]))) | (apply g_false; (solve | (conv => lhs; simp only [zva, ↓reduceIte, Nat.reduceEqDiff, e1]))) | apply g_here | (apply g_past; (solve | decide)) | apply g_exit | apply g_retc | apply g_retb | apply g_ret | apply g_done)
  refine loop_ind (fun m fr h2 => ∃ i, i + m = ts.length ∧ fr = [(0, v), (1, .fn f cs), (7, .int .i64 (ts.length : Int)), (8, .int .i64 (i : Int))] ∧ Left' h h2 ∧ ∀ j (hj : j < i) (hj' : j < ts.length), p ts[j] = false) ?_ ts.length _ _ ⟨0, by omega, rfl, Left'.refl w, fun j hj => by omega⟩
  rintro m fr h2 ⟨i, him, rfl, L2, ha⟩ ih
  have ht2 := ht.left w L2
  by_cases hi : i < ts.length
  · have d2 : decide ((i : Int) < (ts.length : Int)) = true := decide_eq_true (by omega)
    obtain ⟨q, p1, p2⟩ := ht2.elem hi
    have hs2 := L2.2.2
    repeat' (first | (apply o_op; (solve | (conv => lhs; simp (disch := first | omega | (simp only [Val.cells, List.all_cons, List.all_nil, Val.one, Bool.and_self])) only [zev, zex, Val.one, List.length_cons, List.length_nil, Nat.reduceAdd, Option.map_some, Option.map_none, List.map_cons, List.map_nil, zva, ↓reduceIte, Nat.reduceEqDiff, d2, p1, p2])); (solve | (conv => lhs; simp only [zfr, Nat.reduceEqDiff, Nat.reduceLT, ↓reduceIte]))) | (apply o_yes; (solve | (conv => lhs; simp only [zva, ↓reduceIte, Nat.reduceEqDiff, d2, p1, p2])); (solve | rfl)) | (apply o_no; (solve | (conv => lhs; simp only [zva, ↓reduceIte, Nat.reduceEqDiff, d2, p1, p2])); (solve | decide); (solve | (conv => lhs; simp only [zfr, Nat.reduceEqDiff, Nat.reduceLT, ↓reduceIte]))) | (apply o_not; (solve | (conv => lhs; simp only [zva, ↓reduceIte, Nat.reduceEqDiff])); (solve | (conv => lhs; simp only [zfr, Nat.reduceEqDiff, Nat.reduceLT, ↓reduceIte]))) | (apply o_if; (solve | (conv => lhs; simp only [zva, ↓reduceIte, Nat.reduceEqDiff])); (solve | (intro hbb; conv => lhs; simp (disch := first | omega | (simp only [Val.cells, List.all_cons, List.all_nil, Val.one, Bool.and_self])) only [zev, zex, Val.one, List.length_cons, List.length_nil, Nat.reduceAdd, Option.map_some, Option.map_none, List.map_cons, List.map_nil, zva, ↓reduceIte, Nat.reduceEqDiff, hbb, d2, p1, p2])); (solve | (conv => lhs; simp only [zfr, Nat.reduceEqDiff, Nat.reduceLT, ↓reduceIte]))) | (apply o_end; (solve | (conv => lhs; simp only [zdr, inl, Nat.reduceEqDiff, or_false, or_true, ↓reduceIte]))) | apply g_seq | apply g_region | apply g_next | apply g_block | apply g_out | (apply g_true; (solve | (conv => lhs; simp only [zva, ↓reduceIte, Nat.reduceEqDiff, d2, p1, p2]))) | (apply g_false; (solve | (conv => lhs; simp only [zva, ↓reduceIte, Nat.reduceEqDiff, d2, p1, p2]))) | apply g_here | (apply g_past; (solve | decide)) | apply g_exit | apply g_retc | apply g_retb | apply g_ret | apply g_done)
    (apply o_call; (solve | (conv => lhs; simp only [Callee.find, List.map_cons, List.map_nil, List.cons_append, List.nil_append, zva, ↓reduceIte, Nat.reduceEqDiff])))
    · exact (hp _ (List.getElem_mem hi) h2 (L2.keepN hN) L2.2.1 (Nat.le_trans hN hs2)).lower hs2
    rintro _ h3 ⟨rfl, L3⟩
    (conv => arg 8; simp only [zfr, Nat.reduceEqDiff, Nat.reduceLT, ↓reduceIte])
    cases hpi : p ts[i]
    · repeat' (first | (apply o_op; (solve | (conv => lhs; simp (disch := first | omega | (simp only [Val.cells, List.all_cons, List.all_nil, Val.one, Bool.and_self])) only [zev, zex, Val.one, List.length_cons, List.length_nil, Nat.reduceAdd, Option.map_some, Option.map_none, List.map_cons, List.map_nil, zva, ↓reduceIte, Nat.reduceEqDiff])); (solve | (conv => lhs; simp only [zfr, Nat.reduceEqDiff, Nat.reduceLT, ↓reduceIte]))) | (apply o_yes; (solve | (conv => lhs; simp only [zva, ↓reduceIte, Nat.reduceEqDiff])); (solve | rfl)) | (apply o_no; (solve | (conv => lhs; simp only [zva, ↓reduceIte, Nat.reduceEqDiff])); (solve | decide); (solve | (conv => lhs; simp only [zfr, Nat.reduceEqDiff, Nat.reduceLT, ↓reduceIte]))) | (apply o_not; (solve | (conv => lhs; simp only [zva, ↓reduceIte, Nat.reduceEqDiff])); (solve | (conv => lhs; simp only [zfr, Nat.reduceEqDiff, Nat.reduceLT, ↓reduceIte]))) | (apply o_if; (solve | (conv => lhs; simp only [zva, ↓reduceIte, Nat.reduceEqDiff])); (solve | (intro hbb; conv => lhs; simp (disch := first | omega | (simp only [Val.cells, List.all_cons, List.all_nil, Val.one, Bool.and_self])) only [zev, zex, Val.one, List.length_cons, List.length_nil, Nat.reduceAdd, Option.map_some, Option.map_none, List.map_cons, List.map_nil, zva, ↓reduceIte, Nat.reduceEqDiff, hbb])); (solve | (conv => lhs; simp only [zfr, Nat.reduceEqDiff, Nat.reduceLT, ↓reduceIte]))) | (apply o_end; (solve | (conv => lhs; simp only [zdr, inl, Nat.reduceEqDiff, or_false, or_true, ↓reduceIte]))) | apply g_seq | apply g_region | apply g_next | apply g_block | apply g_out | (apply g_true; (solve | (conv => lhs; simp only [zva, ↓reduceIte, Nat.reduceEqDiff]))) | (apply g_false; (solve | (conv => lhs; simp only [zva, ↓reduceIte, Nat.reduceEqDiff]))) | apply g_here | (apply g_past; (solve | decide)) | apply g_exit | apply g_retc | apply g_retb | apply g_ret | apply g_done)
      refine ih (m - 1) _ _ (by omega) ⟨i + 1, by omega, by simp, L2.trans L3, fun j hj hj' => ?_⟩
      by_cases e : j = i
      · subst e; exact hpi
      · exact ha j (by omega) hj'
    · repeat' (first | (apply o_op; (solve | (conv => lhs; simp (disch := first | omega | (simp only [Val.cells, List.all_cons, List.all_nil, Val.one, Bool.and_self])) only [zev, zex, Val.one, List.length_cons, List.length_nil, Nat.reduceAdd, Option.map_some, Option.map_none, List.map_cons, List.map_nil, zva, ↓reduceIte, Nat.reduceEqDiff])); (solve | (conv => lhs; simp only [zfr, Nat.reduceEqDiff, Nat.reduceLT, ↓reduceIte]))) | (apply o_yes; (solve | (conv => lhs; simp only [zva, ↓reduceIte, Nat.reduceEqDiff])); (solve | rfl)) | (apply o_no; (solve | (conv => lhs; simp only [zva, ↓reduceIte, Nat.reduceEqDiff])); (solve | decide); (solve | (conv => lhs; simp only [zfr, Nat.reduceEqDiff, Nat.reduceLT, ↓reduceIte]))) | (apply o_not; (solve | (conv => lhs; simp only [zva, ↓reduceIte, Nat.reduceEqDiff])); (solve | (conv => lhs; simp only [zfr, Nat.reduceEqDiff, Nat.reduceLT, ↓reduceIte]))) | (apply o_if; (solve | (conv => lhs; simp only [zva, ↓reduceIte, Nat.reduceEqDiff])); (solve | (intro hbb; conv => lhs; simp (disch := first | omega | (simp only [Val.cells, List.all_cons, List.all_nil, Val.one, Bool.and_self])) only [zev, zex, Val.one, List.length_cons, List.length_nil, Nat.reduceAdd, Option.map_some, Option.map_none, List.map_cons, List.map_nil, zva, ↓reduceIte, Nat.reduceEqDiff, hbb])); (solve | (conv => lhs; simp only [zfr, Nat.reduceEqDiff, Nat.reduceLT, ↓reduceIte]))) | (apply o_end; (solve | (conv => lhs; simp only [zdr, inl, Nat.reduceEqDiff, or_false, or_true, ↓reduceIte]))) | apply g_seq | apply g_region | apply g_next | apply g_block | apply g_out | (apply g_true; (solve | (conv => lhs; simp only [zva, ↓reduceIte, Nat.reduceEqDiff]))) | (apply g_false; (solve | (conv => lhs; simp only [zva, ↓reduceIte, Nat.reduceEqDiff]))) | apply g_here | (apply g_past; (solve | decide)) | apply g_exit | apply g_retc | apply g_retb | apply g_ret | apply g_done)
      refine ⟨.inr rfl, _, rfl, ?_, L2.trans L3⟩
      have : ts.findIdx? p = some i := by
        rw [List.findIdx?_eq_some_iff_getElem]
        exact ⟨hi, hpi, fun j hj => by rw [ha j hj (by omega)]; simp⟩
      simp [tuple, Frame.get, this]
  · have d2 : decide ((i : Int) < (ts.length : Int)) = false := decide_eq_false (by omega)
    repeat' (first | (apply o_op; (solve | (conv => lhs; simp (disch := first | omega | (simp only [Val.cells, List.all_cons, List.all_nil, Val.one, Bool.and_self])) only [zev, zex, Val.one, List.length_cons, List.length_nil, Nat.reduceAdd, Option.map_some, Option.map_none, List.map_cons, List.map_nil, zva, ↓reduceIte, Nat.reduceEqDiff, d2])); (solve | (conv => lhs; simp only [zfr, Nat.reduceEqDiff, Nat.reduceLT, ↓reduceIte]))) | (apply o_yes; (solve | (conv => lhs; simp only [zva, ↓reduceIte, Nat.reduceEqDiff, d2])); (solve | rfl)) | (apply o_no; (solve | (conv => lhs; simp only [zva, ↓reduceIte, Nat.reduceEqDiff, d2])); (solve | decide); (solve | (conv => lhs; simp only [zfr, Nat.reduceEqDiff, Nat.reduceLT, ↓reduceIte]))) | (apply o_not; (solve | (conv => lhs; simp only [zva, ↓reduceIte, Nat.reduceEqDiff])); (solve | (conv => lhs; simp only [zfr, Nat.reduceEqDiff, Nat.reduceLT, ↓reduceIte]))) | (apply o_if; (solve | (conv => lhs; simp only [zva, ↓reduceIte, Nat.reduceEqDiff])); (solve | (intro hbb; conv => lhs; simp (disch := first | omega | (simp only [Val.cells, List.all_cons, List.all_nil, Val.one, Bool.and_self])) only [zev, zex, Val.one, List.length_cons, List.length_nil, Nat.reduceAdd, Option.map_some, Option.map_none, List.map_cons, List.map_nil, zva, ↓reduceIte, Nat.reduceEqDiff, hbb, d2])); (solve | (conv => lhs; simp only [zfr, Nat.reduceEqDiff, Nat.reduceLT, ↓reduceIte]))) | (apply o_end; (solve | (conv => lhs; simp only [zdr, inl, Nat.reduceEqDiff, or_false, or_true, ↓reduceIte]))) | apply g_seq | apply g_region | apply g_next | apply g_block | apply g_out | (apply g_true; (solve | (conv => lhs; simp only [zva, ↓reduceIte, Nat.reduceEqDiff, d2]))) | (apply g_false; (solve | (conv => lhs; simp only [zva, ↓reduceIte, Nat.reduceEqDiff, d2]))) | apply g_here | (apply g_past; (solve | decide)) | apply g_exit | apply g_retc | apply g_retb | apply g_ret | apply g_done)
    refine ⟨.inr rfl, _, rfl, ?_, L2⟩
    have : ts.findIdx? p = none := by
      rw [List.findIdx?_eq_none_iff]
      intro x hx
      obtain ⟨j, hj, rfl⟩ := List.getElem_of_mem hx
      exact ha j (by omega) hj
    simp [tuple, Frame.get, this]
theorem contains_run {l : List Nat} (hE : E.Has tabs05 l) (hf : ∀ f ∈ [F.slices_ContainsFunc_Triple, F.slices_IndexFunc_Triple], f ∈ l) (w : h.Wf) {v : Val} {ts : List I3} (ht : TriplesAt h v ts) (hlen : ts.length < 2 ^ 60) {f : Nat} {cs : List Val} {p : I3 → Bool} {N : Nat} (hN : N ≤ h.size) (hp : Asks E N h f cs ts p) :
    CallV E h.size F.slices_ContainsFunc_Triple [v, .fn f cs] h fun r h' => r = .bool (ts.any p) ∧ Left' h h' := by
  refine c_begin hE (hf _ (by simp)) rfl (by decide) (by decide) ?_
  simp only [T.slices_ContainsFunc_Triple, Frame.enterFrom, Nat.zero_add, Nat.reduceAdd]
  repeat' (first | (apply o_op; (solve | (conv => lhs; simp (disch := first | omega | (simp only [Val.cells, List.all_cons, List.all_nil, Val.one, Bool.and_self])) only [zev, zex, Val.one, List.length_cons, List.length_nil, Nat.reduceAdd, Option.map_some, Option.map_none, List.map_cons, List.map_nil, zva, ↓reduceIte, Nat.reduceEqDiff])); (solve | (conv => lhs; simp only [zfr, Nat.reduceEqDiff, Nat.reduceLT, ↓reduceIte]))) | (apply o_yes; (solve | (conv => lhs; simp only [zva, ↓reduceIte, Nat.reduceEqDiff])); (solve | rfl)) | (apply o_no; (solve | (conv => lhs; simp only [zva, ↓reduceIte, Nat.reduceEqDiff])); (solve | decide); (solve | (conv => lhs; simp only [zfr, Nat.reduceEqDiff, Nat.reduceLT, ↓reduceIte]))) | (apply o_not; (solve | (conv => lhs; simp only [zva, ↓reduceIte, Nat.reduceEqDiff])); (solve | (conv => lhs; simp only [zfr, Nat.reduceEqDiff, Nat.reduceLT, ↓reduceIte]))) | (apply o_if; (solve | (conv => lhs; simp only [zva, ↓reduceIte, Nat.reduceEqDiff])); (solve | (intro hbb; conv => lhs; simp (disch := first | omega | (simp only [Val.cells, List.all_cons, List.all_nil, Val.one, Bool.and_self])) only [zev, zex, Val.one, List.length_cons, List.length_nil, Nat.reduceAdd, Option.map_some, Option.map_none, List.map_cons, List.map_nil, zva, ↓reduceIte, Nat.reduceEqDiff, hbb])); (solve | (conv => lhs; simp only [zfr, Nat.reduceEqDiff, Nat.reduceLT, ↓reduceIte]))) | (apply o_end; (solve | (conv => lhs; simp only [zdr, inl, Nat.reduceEqDiff, or_false, or_true, ↓reduceIte]))) | apply g_seq | apply g_region | apply g_next | apply g_block | apply g_out | (apply g_true; (solve | (conv => lhs; simp only [zva, ↓reduceIte, Nat.reduceEqDiff]))) | (apply g_false; (solve | (conv => lhs; simp only [zva, ↓reduceIte, Nat.reduceEqDiff]))) | apply g_here | (apply g_past; (solve | decide)) | apply g_exit | apply g_retc | apply g_retb | apply g_ret | apply g_done)
  (apply o_call; (solve | (conv => lhs; simp only [Callee.find, List.map_cons, List.map_nil, List.cons_append, List.nil_append, zva, ↓reduceIte, Nat.reduceEqDiff])))
  · exact index_run hE (hf _ (by simp)) w ht hlen hN hp
  rintro _ h2 ⟨rfl, L2⟩
  (conv => arg 8; simp only [zfr, Nat.reduceEqDiff, Nat.reduceLT, ↓reduceIte])
  repeat' (first | (apply o_op; (solve | (conv => lhs; simp (disch := first | omega | (simp only [Val.cells, List.all_cons, List.all_nil, Val.one, Bool.and_self])) only [zev, zex, Val.one, List.length_cons, List.length_nil, Nat.reduceAdd, Option.map_some, Option.map_none, List.map_cons, List.map_nil, zva, ↓reduceIte, Nat.reduceEqDiff])); (solve | (conv => lhs; simp only [zfr, Nat.reduceEqDiff, Nat.reduceLT, ↓reduceIte]))) | (apply o_yes; (solve | (conv => lhs; simp only [zva, ↓reduceIte, Nat.reduceEqDiff])); (solve | rfl)) | (apply o_no; (solve | (conv => lhs; simp only [zva, ↓reduceIte, Nat.reduceEqDiff])); (solve | decide); (solve | (conv => lhs; simp only [zfr, Nat.reduceEqDiff, Nat.reduceLT, ↓reduceIte]))) | (apply o_not; (solve | (conv => lhs; simp only [zva, ↓reduceIte, Nat.reduceEqDiff])); (solve | (conv => lhs; simp only [zfr, Nat.reduceEqDiff, Nat.reduceLT, ↓reduceIte]))) | (apply o_if; (solve | (conv => lhs; simp only [zva, ↓reduceIte, Nat.reduceEqDiff])); (solve | (intro hbb; conv => lhs; simp (disch := first | omega | (simp only [Val.cells, List.all_cons, List.all_nil, Val.one, Bool.and_self])) only [zev, zex, Val.one, List.length_cons, List.length_nil, Nat.reduceAdd, Option.map_some, Option.map_none, List.map_cons, List.map_nil, zva, ↓reduceIte, Nat.reduceEqDiff, hbb])); (solve | (conv => lhs; simp only [zfr, Nat.reduceEqDiff, Nat.reduceLT, ↓reduceIte]))) | (apply o_end; (solve | (conv => lhs; simp only [zdr, inl, Nat.reduceEqDiff, or_false, or_true, ↓reduceIte]))) | apply g_seq | apply g_region | apply g_next | apply g_block | apply g_out | (apply g_true; (solve | (conv => lhs; simp only [zva, ↓reduceIte, Nat.reduceEqDiff]))) | (apply g_false; (solve | (conv => lhs; simp only [zva, ↓reduceIte, Nat.reduceEqDiff]))) | apply g_here | (apply g_past; (solve | decide)) | apply g_exit | apply g_retc | apply g_retb | apply g_ret | apply g_done)
  refine ⟨.inr rfl, _, rfl, ?_, L2⟩
  simp only [tuple, Frame.get]
  cases hx : ts.findIdx? p with
  | none =>
    have : ts.any p = false := by
      rw [List.any_eq_false]
      intro x h
      simp [List.findIdx?_eq_none_iff.1 hx x h]
    simp [this]
  | some i =>
    have : ts.any p = true := by
      obtain ⟨h1, h2, _⟩ := List.findIdx?_eq_some_iff_getElem.1 hx
      rw [List.any_eq_true]
      exact ⟨_, List.getElem_mem h1, h2⟩
    simp [this]
/-! ### Deleting in place -/
end Gc
end
section
/- Contracts: sorting a few numbers. -/
set_option linter.unusedVariables false
set_option linter.unusedSimpArgs false
namespace Gc
variable {E : Env} {base kept : Nat} {h : Heap}
def len8 : List UInt8 := [0, 1, 2, 2, 3, 3, 3, 3, 4, 4, 4, 4, 4, 4, 4, 4, 5, 5, 5, 5, 5, 5, 5, 5, 5, 5, 5, 5, 5, 5, 5, 5, 6, 6, 6, 6, 6, 6, 6, 6, 6, 6, 6, 6, 6, 6, 6, 6, 6, 6, 6, 6, 6, 6, 6, 6, 6, 6, 6, 6, 6, 6, 6, 6, 7, 7, 7, 7, 7, 7, 7, 7, 7, 7, 7, 7, 7, 7, 7, 7, 7, 7, 7, 7, 7, 7, 7, 7, 7, 7, 7, 7, 7, 7, 7, 7, 7, 7, 7, 7, 7, 7, 7, 7, 7, 7, 7, 7, 7, 7, 7, 7, 7, 7, 7, 7, 7, 7, 7, 7, 7, 7, 7, 7, 7, 7, 7, 7, 8, 8, 8, 8, 8, 8, 8, 8, 8, 8, 8, 8, 8, 8, 8, 8, 8, 8, 8, 8, 8, 8, 8, 8, 8, 8, 8, 8, 8, 8, 8, 8, 8, 8, 8, 8, 8, 8, 8, 8, 8, 8, 8, 8, 8, 8, 8, 8, 8, 8, 8, 8, 8, 8, 8, 8, 8, 8, 8, 8, 8, 8, 8, 8, 8, 8, 8, 8, 8, 8, 8, 8, 8, 8, 8, 8, 8, 8, 8, 8, 8, 8, 8, 8, 8, 8, 8, 8, 8, 8, 8, 8, 8, 8, 8, 8, 8, 8, 8, 8, 8, 8, 8, 8, 8, 8, 8, 8, 8, 8, 8, 8, 8, 8, 8, 8, 8, 8, 8, 8, 8, 8, 8, 8, 8, 8, 8, 8]
set_option maxRecDepth 100000 in
theorem len64_run {l : List Nat} (hE : E.Has tabs05 l) (hf : F.bits_Len64 ∈ l) {n : Nat} (hn : n < 256) :
    CallV E base F.bits_Len64 [.int .u64 (n : Int)] h fun r h' => (∃ i, r = .int .i64 i) ∧ h' = h := by
  refine c_begin hE hf rfl (by decide) (by decide) ?_
  simp only [T.bits_Len64, Frame.enterFrom, Nat.zero_add, Nat.reduceAdd]
  have d1 : decide ((n : Int) ≥ 4294967296) = false := decide_eq_false (by omega)
  have d2 : decide ((n : Int) ≥ 65536) = false := decide_eq_false (by omega)
  have d3 : decide ((n : Int) ≥ 256) = false := decide_eq_false (by omega)
  have w8 : Go.IntKind.wrap .u8 (n : Int) = (n : Int) := _root_.Go.IntWalk.u8_in _ (by omega)
  have hlen : len8.length = 256 := by decide +kernel
  have e1 : strIndexV h (.str len8) (.int .u8 (n : Int)) = some (.int .u8 ((len8[n]'(by omega)).toNat : Nat), h) := strIndexV_str (by omega) (by rw [Int.toNat_natCast]; exact List.getElem?_eq_getElem _)
  have hz : (len8[n]'(by omega)).toNat < 256 := UInt8.toNat_lt _
  generalize (len8[n]'(by omega)).toNat = z at e1 hz
  unfold len8 at e1
  repeat' (first | (apply o_op; (solve | (conv => lhs; simp (disch := first | omega | (simp only [Val.cells, List.all_cons, List.all_nil, Val.one, Bool.and_self])) only [zev, zex, Val.one, List.length_cons, List.length_nil, Nat.reduceAdd, Option.map_some, Option.map_none, List.map_cons, List.map_nil, zva, ↓reduceIte, Nat.reduceEqDiff, d1, d2, d3, w8, e1])); (solve | (conv => lhs; simp only [zfr, Nat.reduceEqDiff, Nat.reduceLT, ↓reduceIte]))) | (apply o_yes; (solve | (conv => lhs; simp only [zva, ↓reduceIte, Nat.reduceEqDiff, d1, d2, d3, w8, e1])); (solve | rfl)) | (apply o_no; (solve | (conv => lhs; simp only [zva, ↓reduceIte, Nat.reduceEqDiff, d1, d2, d3, w8, e1])); (solve | decide); (solve | (conv => lhs; simp only [zfr, Nat.reduceEqDiff, Nat.reduceLT, ↓reduceIte]))) | (apply o_not; (solve | (conv => lhs; simp only [zva, ↓reduceIte, Nat.reduceEqDiff])); (solve | (conv => lhs; simp only [zfr, Nat.reduceEqDiff, Nat.reduceLT, ↓reduceIte]))) | (apply o_if; (solve | (conv => lhs; simp only [zva, ↓reduceIte, Nat.reduceEqDiff])); (solve | (intro hbb; conv => lhs; simp (disch := first | omega | (simp only [Val.cells, List.all_cons, List.all_nil, Val.one, Bool.and_self])) only [zev, zex, Val.one, List.length_cons, List.length_nil, Nat.reduceAdd, Option.map_some, Option.map_none, List.map_cons, List.map_nil, zva, ↓reduceIte, Nat.reduceEqDiff, hbb, d1, d2, d3, w8, e1])); (solve | (conv => lhs; simp only [zfr, Nat.reduceEqDiff, Nat.reduceLT, ↓reduceIte]))) | (apply o_end; (solve | (conv => lhs; simp only [zdr, inl, Nat.reduceEqDiff, or_false, or_true, ↓reduceIte]))) | apply g_seq | apply g_region | apply g_next | apply g_block | apply g_out | (apply g_true; (solve | (conv => lhs; simp only [zva, ↓reduceIte, Nat.reduceEqDiff, d1, d2, d3, w8, e1]))) | (apply g_false; (solve | (conv => lhs; simp only [zva, ↓reduceIte, Nat.reduceEqDiff, d1, d2, d3, w8, e1]))) | apply g_here | (apply g_past; (solve | decide)) | apply g_exit | apply g_retc | apply g_retb | apply g_ret | apply g_done)
  exact ⟨.inr rfl, _, rfl, ⟨_, rfl⟩, rfl⟩
theorem len_run {l : List Nat} (hE : E.Has tabs05 l) (hf : ∀ f ∈ [F.bits_Len, F.bits_Len64], f ∈ l) {n : Nat} (hn : n < 256) :
    CallV E base F.bits_Len [.int .u64 (n : Int)] h fun r h' => (∃ i, r = .int .i64 i) ∧ h' = h := by
  refine c_begin hE (hf _ (by simp)) rfl (by decide) (by decide) ?_
  simp only [T.bits_Len, Frame.enterFrom, Nat.zero_add, Nat.reduceAdd]
  repeat' (first | (apply o_op; (solve | (conv => lhs; simp (disch := first | omega | (simp only [Val.cells, List.all_cons, List.all_nil, Val.one, Bool.and_self])) only [zev, zex, Val.one, List.length_cons, List.length_nil, Nat.reduceAdd, Option.map_some, Option.map_none, List.map_cons, List.map_nil, zva, ↓reduceIte, Nat.reduceEqDiff])); (solve | (conv => lhs; simp only [zfr, Nat.reduceEqDiff, Nat.reduceLT, ↓reduceIte]))) | (apply o_yes; (solve | (conv => lhs; simp only [zva, ↓reduceIte, Nat.reduceEqDiff])); (solve | rfl)) | (apply o_no; (solve | (conv => lhs; simp only [zva, ↓reduceIte, Nat.reduceEqDiff])); (solve | decide); (solve | (conv => lhs; simp only [zfr, Nat.reduceEqDiff, Nat.reduceLT, ↓reduceIte]))) | (apply o_not; (solve | (conv => lhs; simp only [zva, ↓reduceIte, Nat.reduceEqDiff])); (solve | (conv => lhs; simp only [zfr, Nat.reduceEqDiff, Nat.reduceLT, ↓reduceIte]))) | (apply o_if; (solve | (conv => lhs; simp only [zva, ↓reduceIte, Nat.reduceEqDiff])); (solve | (intro hbb; conv => lhs; simp (disch := first | omega | (simp only [Val.cells, List.all_cons, List.all_nil, Val.one, Bool.and_self])) only [zev, zex, Val.one, List.length_cons, List.length_nil, Nat.reduceAdd, Option.map_some, Option.map_none, List.map_cons, List.map_nil, zva, ↓reduceIte, Nat.reduceEqDiff, hbb])); (solve | (conv => lhs; simp only [zfr, Nat.reduceEqDiff, Nat.reduceLT, ↓reduceIte]))) | (apply o_end; (solve | (conv => lhs; simp only [zdr, inl, Nat.reduceEqDiff, or_false, or_true, ↓reduceIte]))) | apply g_seq | apply g_region | apply g_next | apply g_block | apply g_out | (apply g_true; (solve | (conv => lhs; simp only [zva, ↓reduceIte, Nat.reduceEqDiff]))) | (apply g_false; (solve | (conv => lhs; simp only [zva, ↓reduceIte, Nat.reduceEqDiff]))) | apply g_here | (apply g_past; (solve | decide)) | apply g_exit | apply g_retc | apply g_retb | apply g_ret | apply g_done)
  (apply o_call; (solve | (conv => lhs; simp only [Callee.find, List.map_cons, List.map_nil, List.cons_append, List.nil_append, zva, ↓reduceIte, Nat.reduceEqDiff])))
  · exact len64_run hE (hf _ (by simp)) hn
  rintro _ _ ⟨⟨i, rfl⟩, rfl⟩
  (conv => arg 8; simp only [zfr, Nat.reduceEqDiff, Nat.reduceLT, ↓reduceIte])
  repeat' (first | (apply o_op; (solve | (conv => lhs; simp (disch := first | omega | (simp only [Val.cells, List.all_cons, List.all_nil, Val.one, Bool.and_self])) only [zev, zex, Val.one, List.length_cons, List.length_nil, Nat.reduceAdd, Option.map_some, Option.map_none, List.map_cons, List.map_nil, zva, ↓reduceIte, Nat.reduceEqDiff])); (solve | (conv => lhs; simp only [zfr, Nat.reduceEqDiff, Nat.reduceLT, ↓reduceIte]))) | (apply o_yes; (solve | (conv => lhs; simp only [zva, ↓reduceIte, Nat.reduceEqDiff])); (solve | rfl)) | (apply o_no; (solve | (conv => lhs; simp only [zva, ↓reduceIte, Nat.reduceEqDiff])); (solve | decide); (solve | (conv => lhs; simp only [zfr, Nat.reduceEqDiff, Nat.reduceLT, ↓reduceIte]))) | (apply o_not; (solve | (conv => lhs; simp only [zva, ↓reduceIte, Nat.reduceEqDiff])); (solve | (conv => lhs; simp only [zfr, Nat.reduceEqDiff, Nat.reduceLT, ↓reduceIte]))) | (apply o_if; (solve | (conv => lhs; simp only [zva, ↓reduceIte, Nat.reduceEqDiff])); (solve | (intro hbb; conv => lhs; simp (disch := first | omega | (simp only [Val.cells, List.all_cons, List.all_nil, Val.one, Bool.and_self])) only [zev, zex, Val.one, List.length_cons, List.length_nil, Nat.reduceAdd, Option.map_some, Option.map_none, List.map_cons, List.map_nil, zva, ↓reduceIte, Nat.reduceEqDiff, hbb])); (solve | (conv => lhs; simp only [zfr, Nat.reduceEqDiff, Nat.reduceLT, ↓reduceIte]))) | (apply o_end; (solve | (conv => lhs; simp only [zdr, inl, Nat.reduceEqDiff, or_false, or_true, ↓reduceIte]))) | apply g_seq | apply g_region | apply g_next | apply g_block | apply g_out | (apply g_true; (solve | (conv => lhs; simp only [zva, ↓reduceIte, Nat.reduceEqDiff]))) | (apply g_false; (solve | (conv => lhs; simp only [zva, ↓reduceIte, Nat.reduceEqDiff]))) | apply g_here | (apply g_past; (solve | decide)) | apply g_exit | apply g_retc | apply g_retb | apply g_ret | apply g_done)
  exact ⟨.inr rfl, _, rfl, ⟨_, rfl⟩, rfl⟩
def cellsN (l : List Nat) : List Val := l.map fun n : Nat => .int .i64 (n : Int)
theorem set_set {h : Heap} {k : Nat} {b c : Option Blk} : (h.set k b).set k c = h.set k c := by
  induction h with
  | nil => simp [Heap.set]
  | cons q g ih =>
    obtain ⟨j, d⟩ := q
    simp only [Heap.set]
    split
    · rename_i hj; simp [Heap.set, hj]
    · rename_i hj; simp [Heap.set, hj, ih]
/-- A place of a list of single cells that lies in a block of its own. -/
theorem own_elem {h : Heap} {k e : Nat} {cs : List Val} {c : Option Nat} {i n : Nat} (hk : h.get k = some ⟨cs, true, e⟩) (hn : n = cs.length) (hi : i < cs.length) : indexAddrV h 1 (.slice k 0 n c) (.int .i64 (i : Int)) = some (.ptr k i, h) ∧ h.load false 1 k i = some cs[i] := by
  subst hn
  refine ⟨?_, load_one hk (List.getElem?_eq_getElem hi)⟩
  rw [indexAddrV_slice ⟨by omega, by omega⟩]
  simp
end Gc
end
section
/- Contracts: sorting a few trees by their least beasts; the tree of some trees. -/
set_option linter.unusedVariables false
set_option linter.unusedSimpArgs false
namespace Gc
variable {E : Env} {base kept : Nat} {h : Heap}
abbrev Z := Tr × Val
def cellsZ (zs : List Z) : List Val := zs.map (·.2)
def keyZ (z : Z) : Nat := first z.1
/-- The values are trees, of sets that are not empty. -/
def TreesZ (P : Nat → Prop) (h : Heap) (zs : List Z) : Prop := ∀ z ∈ zs, TreeAt P h z.1 z.2 ∧ z.1.set ≠ 0 ∧ z.1.set < 256
theorem TreesZ.keep {P Q : Nat → Prop} {h h' : Heap} {zs : List Z} (t : TreesZ P h zs) (hk : ∀ k, P k → h'.get k = h.get k) (hq : ∀ k, P k → Q k) : TreesZ Q h' zs := fun z hz => ⟨TreeAt.keep hk hq _ _ (t z hz).1, (t z hz).2⟩
theorem TreesZ.perm {P : Nat → Prop} {h : Heap} {zs zs' : List Z} (t : TreesZ P h zs) (p : zs'.Perm zs) : TreesZ P h zs' := fun z hz => t z (p.mem_iff.1 hz)
theorem TreesZ.trees {P : Nat → Prop} {h : Heap} : ∀ {zs : List Z}, TreesZ P h zs → TreesAt P h (zs.map (·.1)) (cellsZ zs)
  | [], _ => by simp [TreesAt, cellsZ]
  | z :: zs, t => by
    simp only [List.map_cons, TreesAt, cellsZ]
    exact ⟨_, _, rfl, (t z (by simp)).1, TreesZ.trees fun y hy => t y (by simp [hy])⟩
theorem TreeAt.one {P : Nat → Prop} {h : Heap} {t : Tr} {v : Val} (e : TreeAt P h t v) : v.one = true := by
  obtain ⟨ty, cs, rfl, _⟩ := e.iface
  rfl
theorem TreesZ.one {P : Nat → Prop} {h : Heap} {zs : List Z} (t : TreesZ P h zs) : (cellsZ zs).all Val.one = true := by
  rw [List.all_eq_true]
  intro v hv
  obtain ⟨z, hz, rfl⟩ := List.mem_map.1 hv
  exact (t z hz).1.one
def needFirst : List Nat := [F.breed_first, F.breed_set_beasts, F.bits_TrailingZeros, F.bits_TrailingZeros64]
def needSortT : List Nat := [F.slices_SortFunc_tree, F.slices_pdqsortCmpFunc_tree, F.slices_insertionSortCmpFunc_tree, F.breed_of_1, F.bits_Len, F.bits_Len64] ++ needFirst
def needOf : List Nat := F.breed_of :: needSortT
theorem of1_run {l : List Nat} (hE : E.Has tabs05 l) (hf : ∀ f ∈ needSortT, f ∈ l) (tb : Tables h) {P : Nat → Prop} {t u : Tr} {v x : Val} (ht : TreeAt P h t v) (h0 : t.set ≠ 0) (h1 : t.set < 256) (hu : TreeAt P h u x) (h2 : u.set ≠ 0) (h3 : u.set < 256) :
    CallV E base F.breed_of_1 [v, x] h fun r h' => r = .int .i64 ((first t : Int) - (first u : Int)) ∧ h' = h := by
  refine c_begin hE (hf _ (by decide)) rfl (by decide) (by decide) ?_
  simp only [T.breed_of_1, Frame.enterFrom, Nat.zero_add, Nat.reduceAdd]
  repeat' (first | (apply o_op; (solve | (conv => lhs; simp (disch := first | omega | (simp only [Val.cells, List.all_cons, List.all_nil, Val.one, Bool.and_self])) only [zev, zex, Val.one, List.length_cons, List.length_nil, Nat.reduceAdd, Option.map_some, Option.map_none, List.map_cons, List.map_nil, zva, ↓reduceIte, Nat.reduceEqDiff])); (solve | (conv => lhs; simp only [zfr, Nat.reduceEqDiff, Nat.reduceLT, ↓reduceIte]))) | (apply o_yes; (solve | (conv => lhs; simp only [zva, ↓reduceIte, Nat.reduceEqDiff])); (solve | rfl)) | (apply o_no; (solve | (conv => lhs; simp only [zva, ↓reduceIte, Nat.reduceEqDiff])); (solve | decide); (solve | (conv => lhs; simp only [zfr, Nat.reduceEqDiff, Nat.reduceLT, ↓reduceIte]))) | (apply o_not; (solve | (conv => lhs; simp only [zva, ↓reduceIte, Nat.reduceEqDiff])); (solve | (conv => lhs; simp only [zfr, Nat.reduceEqDiff, Nat.reduceLT, ↓reduceIte]))) | (apply o_if; (solve | (conv => lhs; simp only [zva, ↓reduceIte, Nat.reduceEqDiff])); (solve | (intro hbb; conv => lhs; simp (disch := first | omega | (simp only [Val.cells, List.all_cons, List.all_nil, Val.one, Bool.and_self])) only [zev, zex, Val.one, List.length_cons, List.length_nil, Nat.reduceAdd, Option.map_some, Option.map_none, List.map_cons, List.map_nil, zva, ↓reduceIte, Nat.reduceEqDiff, hbb])); (solve | (conv => lhs; simp only [zfr, Nat.reduceEqDiff, Nat.reduceLT, ↓reduceIte]))) | (apply o_end; (solve | (conv => lhs; simp only [zdr, inl, Nat.reduceEqDiff, or_false, or_true, ↓reduceIte]))) | apply g_seq | apply g_region | apply g_next | apply g_block | apply g_out | (apply g_true; (solve | (conv => lhs; simp only [zva, ↓reduceIte, Nat.reduceEqDiff]))) | (apply g_false; (solve | (conv => lhs; simp only [zva, ↓reduceIte, Nat.reduceEqDiff]))) | apply g_here | (apply g_past; (solve | decide)) | apply g_exit | apply g_retc | apply g_retb | apply g_ret | apply g_done)
  (apply o_call; (solve | (conv => lhs; simp only [Callee.find, List.map_cons, List.map_nil, List.cons_append, List.nil_append, zva, ↓reduceIte, Nat.reduceEqDiff])))
  · exact first_run hE (fun f hf' => hf f (by revert f; decide)) tb ht h0 h1
  rintro _ _ ⟨rfl, rfl⟩
  (conv => arg 8; simp only [zfr, Nat.reduceEqDiff, Nat.reduceLT, ↓reduceIte])
  repeat' (first | (apply o_op; (solve | (conv => lhs; simp (disch := first | omega | (simp only [Val.cells, List.all_cons, List.all_nil, Val.one, Bool.and_self])) only [zev, zex, Val.one, List.length_cons, List.length_nil, Nat.reduceAdd, Option.map_some, Option.map_none, List.map_cons, List.map_nil, zva, ↓reduceIte, Nat.reduceEqDiff])); (solve | (conv => lhs; simp only [zfr, Nat.reduceEqDiff, Nat.reduceLT, ↓reduceIte]))) | (apply o_yes; (solve | (conv => lhs; simp only [zva, ↓reduceIte, Nat.reduceEqDiff])); (solve | rfl)) | (apply o_no; (solve | (conv => lhs; simp only [zva, ↓reduceIte, Nat.reduceEqDiff])); (solve | decide); (solve | (conv => lhs; simp only [zfr, Nat.reduceEqDiff, Nat.reduceLT, ↓reduceIte]))) | (apply o_not; (solve | (conv => lhs; simp only [zva, ↓reduceIte, Nat.reduceEqDiff])); (solve | (conv => lhs; simp only [zfr, Nat.reduceEqDiff, Nat.reduceLT, ↓reduceIte]))) | (apply o_if; (solve | (conv => lhs; simp only [zva, ↓reduceIte, Nat.reduceEqDiff])); (solve | (intro hbb; conv => lhs; simp (disch := first | omega | (simp only [Val.cells, List.all_cons, List.all_nil, Val.one, Bool.and_self])) only [zev, zex, Val.one, List.length_cons, List.length_nil, Nat.reduceAdd, Option.map_some, Option.map_none, List.map_cons, List.map_nil, zva, ↓reduceIte, Nat.reduceEqDiff, hbb])); (solve | (conv => lhs; simp only [zfr, Nat.reduceEqDiff, Nat.reduceLT, ↓reduceIte]))) | (apply o_end; (solve | (conv => lhs; simp only [zdr, inl, Nat.reduceEqDiff, or_false, or_true, ↓reduceIte]))) | apply g_seq | apply g_region | apply g_next | apply g_block | apply g_out | (apply g_true; (solve | (conv => lhs; simp only [zva, ↓reduceIte, Nat.reduceEqDiff]))) | (apply g_false; (solve | (conv => lhs; simp only [zva, ↓reduceIte, Nat.reduceEqDiff]))) | apply g_here | (apply g_past; (solve | decide)) | apply g_exit | apply g_retc | apply g_retb | apply g_ret | apply g_done)
  (apply o_call; (solve | (conv => lhs; simp only [Callee.find, List.map_cons, List.map_nil, List.cons_append, List.nil_append, zva, ↓reduceIte, Nat.reduceEqDiff])))
  · exact first_run hE (fun f hf' => hf f (by revert f; decide)) tb hu h2 h3
  rintro _ _ ⟨rfl, rfl⟩
  (conv => arg 8; simp only [zfr, Nat.reduceEqDiff, Nat.reduceLT, ↓reduceIte])
  have b1 := least_lt8 t.set
  have b2 := least_lt8 u.set
  simp only [first]
  repeat' (first | (apply o_op; (solve | (conv => lhs; simp (disch := first | omega | (simp only [Val.cells, List.all_cons, List.all_nil, Val.one, Bool.and_self])) only [zev, zex, Val.one, List.length_cons, List.length_nil, Nat.reduceAdd, Option.map_some, Option.map_none, List.map_cons, List.map_nil, zva, ↓reduceIte, Nat.reduceEqDiff])); (solve | (conv => lhs; simp only [zfr, Nat.reduceEqDiff, Nat.reduceLT, ↓reduceIte]))) | (apply o_yes; (solve | (conv => lhs; simp only [zva, ↓reduceIte, Nat.reduceEqDiff])); (solve | rfl)) | (apply o_no; (solve | (conv => lhs; simp only [zva, ↓reduceIte, Nat.reduceEqDiff])); (solve | decide); (solve | (conv => lhs; simp only [zfr, Nat.reduceEqDiff, Nat.reduceLT, ↓reduceIte]))) | (apply o_not; (solve | (conv => lhs; simp only [zva, ↓reduceIte, Nat.reduceEqDiff])); (solve | (conv => lhs; simp only [zfr, Nat.reduceEqDiff, Nat.reduceLT, ↓reduceIte]))) | (apply o_if; (solve | (conv => lhs; simp only [zva, ↓reduceIte, Nat.reduceEqDiff])); (solve | (intro hbb; conv => lhs; simp (disch := first | omega | (simp only [Val.cells, List.all_cons, List.all_nil, Val.one, Bool.and_self])) only [zev, zex, Val.one, List.length_cons, List.length_nil, Nat.reduceAdd, Option.map_some, Option.map_none, List.map_cons, List.map_nil, zva, ↓reduceIte, Nat.reduceEqDiff, hbb])); (solve | (conv => lhs; simp only [zfr, Nat.reduceEqDiff, Nat.reduceLT, ↓reduceIte]))) | (apply o_end; (solve | (conv => lhs; simp only [zdr, inl, Nat.reduceEqDiff, or_false, or_true, ↓reduceIte]))) | apply g_seq | apply g_region | apply g_next | apply g_block | apply g_out | (apply g_true; (solve | (conv => lhs; simp only [zva, ↓reduceIte, Nat.reduceEqDiff]))) | (apply g_false; (solve | (conv => lhs; simp only [zva, ↓reduceIte, Nat.reduceEqDiff]))) | apply g_here | (apply g_past; (solve | decide)) | apply g_exit | apply g_retc | apply g_retb | apply g_ret | apply g_done)
  exact ⟨.inr rfl, _, rfl, rfl, rfl⟩
theorem set_same {h : Heap} {k : Nat} {b : Option Blk} (hk : h.get k = b) (hb : b.isSome = true) : h.set k b = h := by
  induction h with
  | nil => simp [Heap.get] at hk; subst hk; simp at hb
  | cons q g ih =>
    obtain ⟨j, d⟩ := q
    simp only [Heap.get] at hk
    simp only [Heap.set]
    split
    · rename_i hj; rw [if_pos hj] at hk; rw [hk]
    · rename_i hj; rw [if_neg hj] at hk; rw [ih hk]
theorem Tables.set {h : Heap} {k : Nat} {b : Option Blk} (tb : Tables h) (hk : 2 ≤ k) : Tables (h.set k b) := by
  obtain ⟨⟨b, hb, hb'⟩, ⟨c, hc, hc'⟩⟩ := tb
  exact ⟨⟨b, by rw [get_set_ne (by omega)]; exact hb, hb'⟩, ⟨c, by rw [get_set_ne (by omega)]; exact hc, hc'⟩⟩
theorem insertionT_run {l : List Nat} (hE : E.Has tabs05 l) (hf : ∀ f ∈ needSortT, f ∈ l) (w : h.Wf) (tb : Tables h) {k n e : Nat} {L : List Z} {P : Nat → Prop} (hn : n = L.length) (hb : base ≤ k) (hk2 : 2 ≤ k) (hk : h.get k = some ⟨cellsZ L, true, e⟩) (hlen : n < 100)
    (hP : ∀ j, P j → j ≠ k) (hL : TreesZ P h L) :
    CallV E base F.slices_insertionSortCmpFunc_tree [.slice k 0 n none, .int .i64 0, .int .i64 (n : Int), .fn F.breed_of_1 []] h fun r h' => ∃ L' : List Z, L'.Perm L ∧ L'.Pairwise (fun x y => keyZ x ≤ keyZ y) ∧ h' = h.set k (some ⟨cellsZ L', true, e⟩) := by
  subst hn
  refine c_begin hE (hf _ (by decide)) rfl (by decide) (by decide) ?_
  simp only [T.slices_insertionSortCmpFunc_tree, Frame.enterFrom, Nat.zero_add, Nat.reduceAdd]
  have hks := w.lt hk
  repeat' (first | (apply o_op; (solve | (conv => lhs; simp (disch := first | omega | (simp only [Val.cells, List.all_cons, List.all_nil, Val.one, Bool.and_self])) only [zev, zex, Val.one, List.length_cons, List.length_nil, Nat.reduceAdd, Option.map_some, Option.map_none, List.map_cons, List.map_nil, zva, ↓reduceIte, Nat.reduceEqDiff])); (solve | (conv => lhs; simp only [zfr, Nat.reduceEqDiff, Nat.reduceLT, ↓reduceIte]))) | (apply o_yes; (solve | (conv => lhs; simp only [zva, ↓reduceIte, Nat.reduceEqDiff])); (solve | rfl)) | (apply o_no; (solve | (conv => lhs; simp only [zva, ↓reduceIte, Nat.reduceEqDiff])); (solve | decide); (solve | (conv => lhs; simp only [zfr, Nat.reduceEqDiff, Nat.reduceLT, ↓reduceIte]))) | (apply o_not; (solve | (conv => lhs; simp only [zva, ↓reduceIte, Nat.reduceEqDiff])); (solve | (conv => lhs; simp only [zfr, Nat.reduceEqDiff, Nat.reduceLT, ↓reduceIte]))) | (apply o_if; (solve | (conv => lhs; simp only [zva, ↓reduceIte, Nat.reduceEqDiff])); (solve | (intro hbb; conv => lhs; simp (disch := first | omega | (simp only [Val.cells, List.all_cons, List.all_nil, Val.one, Bool.and_self])) only [zev, zex, Val.one, List.length_cons, List.length_nil, Nat.reduceAdd, Option.map_some, Option.map_none, List.map_cons, List.map_nil, zva, ↓reduceIte, Nat.reduceEqDiff, hbb])); (solve | (conv => lhs; simp only [zfr, Nat.reduceEqDiff, Nat.reduceLT, ↓reduceIte]))) | (apply o_end; (solve | (conv => lhs; simp only [zdr, inl, Nat.reduceEqDiff, or_false, or_true, ↓reduceIte]))) | apply g_seq | apply g_region | apply g_next | apply g_block | apply g_out | (apply g_true; (solve | (conv => lhs; simp only [zva, ↓reduceIte, Nat.reduceEqDiff]))) | (apply g_false; (solve | (conv => lhs; simp only [zva, ↓reduceIte, Nat.reduceEqDiff]))) | apply g_here | (apply g_past; (solve | decide)) | apply g_exit | apply g_retc | apply g_retb | apply g_ret | apply g_done)
  refine loop_ind (fun m fr h2 => ∃ (i : Nat) (M : List Z), i + m = L.length + 1 ∧ 1 ≤ i ∧ fr = [(0, .slice k 0 L.length none), (1, .int .i64 0), (2, .int .i64 (L.length : Int)), (3, .fn F.breed_of_1 []), (8, .int .i64 (i : Int))] ∧ M.Perm L ∧ InsO keyZ M i ∧ h2 = h.set k (some ⟨cellsZ M, true, e⟩)) ?_ L.length _ _
    ⟨1, L, by omega, by omega, by simp, .refl _, InsO.one, (set_same hk rfl).symm⟩
  rintro m fr h2 ⟨i, M, him, hi1, rfl, hp, ho, rfl⟩ ih
  have hml := hp.length_eq
  by_cases hi : i < L.length
  · have d2 : decide ((i : Int) < (L.length : Int)) = true := decide_eq_true (by omega)
    repeat' (first | (apply o_op; (solve | (conv => lhs; simp (disch := first | omega | (simp only [Val.cells, List.all_cons, List.all_nil, Val.one, Bool.and_self])) only [zev, zex, Val.one, List.length_cons, List.length_nil, Nat.reduceAdd, Option.map_some, Option.map_none, List.map_cons, List.map_nil, zva, ↓reduceIte, Nat.reduceEqDiff, d2])); (solve | (conv => lhs; simp only [zfr, Nat.reduceEqDiff, Nat.reduceLT, ↓reduceIte]))) | (apply o_yes; (solve | (conv => lhs; simp only [zva, ↓reduceIte, Nat.reduceEqDiff, d2])); (solve | rfl)) | (apply o_no; (solve | (conv => lhs; simp only [zva, ↓reduceIte, Nat.reduceEqDiff, d2])); (solve | decide); (solve | (conv => lhs; simp only [zfr, Nat.reduceEqDiff, Nat.reduceLT, ↓reduceIte]))) | (apply o_not; (solve | (conv => lhs; simp only [zva, ↓reduceIte, Nat.reduceEqDiff])); (solve | (conv => lhs; simp only [zfr, Nat.reduceEqDiff, Nat.reduceLT, ↓reduceIte]))) | (apply o_if; (solve | (conv => lhs; simp only [zva, ↓reduceIte, Nat.reduceEqDiff])); (solve | (intro hbb; conv => lhs; simp (disch := first | omega | (simp only [Val.cells, List.all_cons, List.all_nil, Val.one, Bool.and_self])) only [zev, zex, Val.one, List.length_cons, List.length_nil, Nat.reduceAdd, Option.map_some, Option.map_none, List.map_cons, List.map_nil, zva, ↓reduceIte, Nat.reduceEqDiff, hbb, d2])); (solve | (conv => lhs; simp only [zfr, Nat.reduceEqDiff, Nat.reduceLT, ↓reduceIte]))) | (apply o_end; (solve | (conv => lhs; simp only [zdr, inl, Nat.reduceEqDiff, or_false, or_true, ↓reduceIte]))) | apply g_seq | apply g_region | apply g_next | apply g_block | apply g_out | (apply g_true; (solve | (conv => lhs; simp only [zva, ↓reduceIte, Nat.reduceEqDiff, d2]))) | (apply g_false; (solve | (conv => lhs; simp only [zva, ↓reduceIte, Nat.reduceEqDiff, d2]))) | apply g_here | (apply g_past; (solve | decide)) | apply g_exit | apply g_retc | apply g_retb | apply g_ret | apply g_done)
    refine loop_ind (fun m fr h2 => ∃ (j : Nat) (M : List Z), j = m ∧ j ≤ i ∧ fr = [(0, .slice k 0 L.length none), (1, .int .i64 0), (2, .int .i64 (L.length : Int)), (3, .fn F.breed_of_1 []), (8, .int .i64 (i : Int)), (9, .int .i64 (j : Int))] ∧ M.Perm L ∧ InsI keyZ M i j ∧ h2 = h.set k (some ⟨cellsZ M, true, e⟩)) ?_ i _ _
      ⟨i, M, rfl, Nat.le_refl _, rfl, hp, ho.start, rfl⟩
    rintro m2 fr h2 ⟨j, M, rfl, hji, rfl, hp, hI, rfl⟩ ih2
    have hml := hp.length_eq
    by_cases hj : 0 < j
    · have d3 : decide ((j : Int) > 0) = true := decide_eq_true (by omega)
      have g3 : (h.set k (some ⟨cellsZ M, true, e⟩)).get k = some ⟨cellsZ M, true, e⟩ := get_set_self
      have hcl : (cellsZ M).length = M.length := by simp [cellsZ]
      obtain ⟨x1, x2⟩ := own_elem (c := none) (i := j) (n := L.length) g3 (by omega) (by omega)
      obtain ⟨y1, y2⟩ := own_elem (c := none) (i := j - 1) (n := L.length) g3 (by omega) (by omega)
      have ej : ((j - 1 : Nat) : Int) = (j : Int) - 1 := by omega
      rw [ej] at y1
      have x2 : (h.set k (some ⟨cellsZ M, true, e⟩)).load false 1 k j = some M[j].2 := by rw [x2]; simp [cellsZ]
      have y2 : (h.set k (some ⟨cellsZ M, true, e⟩)).load false 1 k (j - 1) = some M[j - 1].2 := by rw [y2]; simp [cellsZ]
      have hM : TreesZ P (h.set k (some ⟨cellsZ M, true, e⟩)) M := (hL.perm hp).keep (fun q hq => get_set_ne (hP q hq)) (fun _ h => h)
      obtain ⟨t1, t2, t3⟩ := hM M[j] (List.getElem_mem _)
      obtain ⟨u1, u2, u3⟩ := hM M[j - 1] (List.getElem_mem _)
      repeat' (first | (apply o_op; (solve | (conv => lhs; simp (disch := first | omega | (simp only [Val.cells, List.all_cons, List.all_nil, Val.one, Bool.and_self])) only [zev, zex, Val.one, List.length_cons, List.length_nil, Nat.reduceAdd, Option.map_some, Option.map_none, List.map_cons, List.map_nil, zva, ↓reduceIte, Nat.reduceEqDiff, d3, x1, x2, y1, y2])); (solve | (conv => lhs; simp only [zfr, Nat.reduceEqDiff, Nat.reduceLT, ↓reduceIte]))) | (apply o_yes; (solve | (conv => lhs; simp only [zva, ↓reduceIte, Nat.reduceEqDiff, d3, x1, x2, y1, y2])); (solve | rfl)) | (apply o_no; (solve | (conv => lhs; simp only [zva, ↓reduceIte, Nat.reduceEqDiff, d3, x1, x2, y1, y2])); (solve | decide); (solve | (conv => lhs; simp only [zfr, Nat.reduceEqDiff, Nat.reduceLT, ↓reduceIte]))) | (apply o_not; (solve | (conv => lhs; simp only [zva, ↓reduceIte, Nat.reduceEqDiff])); (solve | (conv => lhs; simp only [zfr, Nat.reduceEqDiff, Nat.reduceLT, ↓reduceIte]))) | (apply o_if; (solve | (conv => lhs; simp only [zva, ↓reduceIte, Nat.reduceEqDiff])); (solve | (intro hbb; conv => lhs; simp (disch := first | omega | (simp only [Val.cells, List.all_cons, List.all_nil, Val.one, Bool.and_self])) only [zev, zex, Val.one, List.length_cons, List.length_nil, Nat.reduceAdd, Option.map_some, Option.map_none, List.map_cons, List.map_nil, zva, ↓reduceIte, Nat.reduceEqDiff, hbb, d3, x1, x2, y1, y2])); (solve | (conv => lhs; simp only [zfr, Nat.reduceEqDiff, Nat.reduceLT, ↓reduceIte]))) | (apply o_end; (solve | (conv => lhs; simp only [zdr, inl, Nat.reduceEqDiff, or_false, or_true, ↓reduceIte]))) | apply g_seq | apply g_region | apply g_next | apply g_block | apply g_out | (apply g_true; (solve | (conv => lhs; simp only [zva, ↓reduceIte, Nat.reduceEqDiff, d3, x1, x2, y1, y2]))) | (apply g_false; (solve | (conv => lhs; simp only [zva, ↓reduceIte, Nat.reduceEqDiff, d3, x1, x2, y1, y2]))) | apply g_here | (apply g_past; (solve | decide)) | apply g_exit | apply g_retc | apply g_retb | apply g_ret | apply g_done)
      (apply o_call; (solve | (conv => lhs; simp only [Callee.find, List.map_cons, List.map_nil, List.cons_append, List.nil_append, zva, ↓reduceIte, Nat.reduceEqDiff])))
      · exact of1_run hE hf (tb.set hk2) t1 t2 t3 u1 u2 u3
      rintro _ _ ⟨rfl, rfl⟩
      (conv => arg 8; simp only [zfr, Nat.reduceEqDiff, Nat.reduceLT, ↓reduceIte])
      by_cases hc : keyZ M[j] < keyZ M[j - 1]
      · have d4 : decide ((first M[j].1 : Int) - (first M[j - 1].1 : Int) < 0) = true := decide_eq_true (by simp only [keyZ] at hc; omega)
        have o1 := t1.one
        have o2 := u1.one
        have c1 : M[j].2.cells = [M[j].2] := by obtain ⟨_, _, e, _⟩ := t1.iface; rw [e]; rfl
        have c2 : M[j - 1].2.cells = [M[j - 1].2] := by obtain ⟨_, _, e, _⟩ := u1.iface; rw [e]; rfl
        have s1 : (h.set k (some ⟨cellsZ M, true, e⟩)).store base k j [M[j - 1].2] = some ((h.set k (some ⟨cellsZ M, true, e⟩)).set k (some ⟨(cellsZ M).set j M[j - 1].2, true, e⟩)) := store_one g3 hb rfl (by simp only [hcl]; omega) o2
        have s2 : ((h.set k (some ⟨cellsZ M, true, e⟩)).set k (some ⟨(cellsZ M).set j M[j - 1].2, true, e⟩)).store base k (j - 1) [M[j].2] = some (((h.set k (some ⟨cellsZ M, true, e⟩)).set k (some ⟨(cellsZ M).set j M[j - 1].2, true, e⟩)).set k (some ⟨((cellsZ M).set j M[j - 1].2).set (j - 1) M[j].2, true, e⟩)) :=
          store_one get_set_self hb rfl (by simp [hcl]; omega) o1
        have x1' := fun g : Heap => (show indexAddrV g 1 (.slice k 0 L.length none) (.int .i64 (j : Int)) = some (.ptr k j, g) by rw [indexAddrV_slice ⟨by omega, by omega⟩]; simp)
        have y1' := fun g : Heap => (show indexAddrV g 1 (.slice k 0 L.length none) (.int .i64 ((j : Int) - 1)) = some (.ptr k (j - 1), g) by rw [← ej, indexAddrV_slice ⟨by omega, by omega⟩]; simp)
        repeat' (first | (apply o_op; (solve | (conv => lhs; simp (disch := first | omega | (simp only [Val.cells, List.all_cons, List.all_nil, Val.one, Bool.and_self])) only [zev, zex, Val.one, List.length_cons, List.length_nil, Nat.reduceAdd, Option.map_some, Option.map_none, List.map_cons, List.map_nil, zva, ↓reduceIte, Nat.reduceEqDiff, d4, x1', x2, y1', y2, s1, s2, c1, c2])); (solve | (conv => lhs; simp only [zfr, Nat.reduceEqDiff, Nat.reduceLT, ↓reduceIte]))) | (apply o_yes; (solve | (conv => lhs; simp only [zva, ↓reduceIte, Nat.reduceEqDiff, d4, x1', x2, y1', y2, s1, s2, c1, c2])); (solve | rfl)) | (apply o_no; (solve | (conv => lhs; simp only [zva, ↓reduceIte, Nat.reduceEqDiff, d4, x1', x2, y1', y2, s1, s2, c1, c2])); (solve | decide); (solve | (conv => lhs; simp only [zfr, Nat.reduceEqDiff, Nat.reduceLT, ↓reduceIte]))) | (apply o_not; (solve | (conv => lhs; simp only [zva, ↓reduceIte, Nat.reduceEqDiff])); (solve | (conv => lhs; simp only [zfr, Nat.reduceEqDiff, Nat.reduceLT, ↓reduceIte]))) | (apply o_if; (solve | (conv => lhs; simp only [zva, ↓reduceIte, Nat.reduceEqDiff])); (solve | (intro hbb; conv => lhs; simp (disch := first | omega | (simp only [Val.cells, List.all_cons, List.all_nil, Val.one, Bool.and_self])) only [zev, zex, Val.one, List.length_cons, List.length_nil, Nat.reduceAdd, Option.map_some, Option.map_none, List.map_cons, List.map_nil, zva, ↓reduceIte, Nat.reduceEqDiff, hbb, d4, x1', x2, y1', y2, s1, s2, c1, c2])); (solve | (conv => lhs; simp only [zfr, Nat.reduceEqDiff, Nat.reduceLT, ↓reduceIte]))) | (apply o_end; (solve | (conv => lhs; simp only [zdr, inl, Nat.reduceEqDiff, or_false, or_true, ↓reduceIte]))) | apply g_seq | apply g_region | apply g_next | apply g_block | apply g_out | (apply g_true; (solve | (conv => lhs; simp only [zva, ↓reduceIte, Nat.reduceEqDiff, d4, x1', x2, y1', y2, s1, s2, c1, c2]))) | (apply g_false; (solve | (conv => lhs; simp only [zva, ↓reduceIte, Nat.reduceEqDiff, d4, x1', x2, y1', y2, s1, s2, c1, c2]))) | apply g_here | (apply g_past; (solve | decide)) | apply g_exit | apply g_retc | apply g_retb | apply g_ret | apply g_done)
        refine ih2 (j - 1) _ _ (by omega) ⟨j - 1, swp M j (by omega), rfl, by omega, by simp [ej], swp_perm.trans hp, hI.step hj (by omega) hji hc, ?_⟩
        rw [set_set, set_set]
        congr 3
        exact map_swp (f := fun z : Z => z.2) (L := M) (j := j) (h := by omega)
      · have d4 : decide ((first M[j].1 : Int) - (first M[j - 1].1 : Int) < 0) = false := decide_eq_false (by simp only [keyZ] at hc; omega)
        repeat' (first | (apply o_op; (solve | (conv => lhs; simp (disch := first | omega | (simp only [Val.cells, List.all_cons, List.all_nil, Val.one, Bool.and_self])) only [zev, zex, Val.one, List.length_cons, List.length_nil, Nat.reduceAdd, Option.map_some, Option.map_none, List.map_cons, List.map_nil, zva, ↓reduceIte, Nat.reduceEqDiff, d4])); (solve | (conv => lhs; simp only [zfr, Nat.reduceEqDiff, Nat.reduceLT, ↓reduceIte]))) | (apply o_yes; (solve | (conv => lhs; simp only [zva, ↓reduceIte, Nat.reduceEqDiff, d4])); (solve | rfl)) | (apply o_no; (solve | (conv => lhs; simp only [zva, ↓reduceIte, Nat.reduceEqDiff, d4])); (solve | decide); (solve | (conv => lhs; simp only [zfr, Nat.reduceEqDiff, Nat.reduceLT, ↓reduceIte]))) | (apply o_not; (solve | (conv => lhs; simp only [zva, ↓reduceIte, Nat.reduceEqDiff])); (solve | (conv => lhs; simp only [zfr, Nat.reduceEqDiff, Nat.reduceLT, ↓reduceIte]))) | (apply o_if; (solve | (conv => lhs; simp only [zva, ↓reduceIte, Nat.reduceEqDiff])); (solve | (intro hbb; conv => lhs; simp (disch := first | omega | (simp only [Val.cells, List.all_cons, List.all_nil, Val.one, Bool.and_self])) only [zev, zex, Val.one, List.length_cons, List.length_nil, Nat.reduceAdd, Option.map_some, Option.map_none, List.map_cons, List.map_nil, zva, ↓reduceIte, Nat.reduceEqDiff, hbb, d4])); (solve | (conv => lhs; simp only [zfr, Nat.reduceEqDiff, Nat.reduceLT, ↓reduceIte]))) | (apply o_end; (solve | (conv => lhs; simp only [zdr, inl, Nat.reduceEqDiff, or_false, or_true, ↓reduceIte]))) | apply g_seq | apply g_region | apply g_next | apply g_block | apply g_out | (apply g_true; (solve | (conv => lhs; simp only [zva, ↓reduceIte, Nat.reduceEqDiff, d4]))) | (apply g_false; (solve | (conv => lhs; simp only [zva, ↓reduceIte, Nat.reduceEqDiff, d4]))) | apply g_here | (apply g_past; (solve | decide)) | apply g_exit | apply g_retc | apply g_retb | apply g_ret | apply g_done)
        refine ih (m - 1) _ _ (by omega) ⟨i + 1, M, by omega, by omega, by simp, hp, hI.stop hji (.inr fun hj => by omega), rfl⟩
    · have d3 : decide ((j : Int) > 0) = false := decide_eq_false (by omega)
      repeat' (first | (apply o_op; (solve | (conv => lhs; simp (disch := first | omega | (simp only [Val.cells, List.all_cons, List.all_nil, Val.one, Bool.and_self])) only [zev, zex, Val.one, List.length_cons, List.length_nil, Nat.reduceAdd, Option.map_some, Option.map_none, List.map_cons, List.map_nil, zva, ↓reduceIte, Nat.reduceEqDiff, d3])); (solve | (conv => lhs; simp only [zfr, Nat.reduceEqDiff, Nat.reduceLT, ↓reduceIte]))) | (apply o_yes; (solve | (conv => lhs; simp only [zva, ↓reduceIte, Nat.reduceEqDiff, d3])); (solve | rfl)) | (apply o_no; (solve | (conv => lhs; simp only [zva, ↓reduceIte, Nat.reduceEqDiff, d3])); (solve | decide); (solve | (conv => lhs; simp only [zfr, Nat.reduceEqDiff, Nat.reduceLT, ↓reduceIte]))) | (apply o_not; (solve | (conv => lhs; simp only [zva, ↓reduceIte, Nat.reduceEqDiff])); (solve | (conv => lhs; simp only [zfr, Nat.reduceEqDiff, Nat.reduceLT, ↓reduceIte]))) | (apply o_if; (solve | (conv => lhs; simp only [zva, ↓reduceIte, Nat.reduceEqDiff])); (solve | (intro hbb; conv => lhs; simp (disch := first | omega | (simp only [Val.cells, List.all_cons, List.all_nil, Val.one, Bool.and_self])) only [zev, zex, Val.one, List.length_cons, List.length_nil, Nat.reduceAdd, Option.map_some, Option.map_none, List.map_cons, List.map_nil, zva, ↓reduceIte, Nat.reduceEqDiff, hbb, d3])); (solve | (conv => lhs; simp only [zfr, Nat.reduceEqDiff, Nat.reduceLT, ↓reduceIte]))) | (apply o_end; (solve | (conv => lhs; simp only [zdr, inl, Nat.reduceEqDiff, or_false, or_true, ↓reduceIte]))) | apply g_seq | apply g_region | apply g_next | apply g_block | apply g_out | (apply g_true; (solve | (conv => lhs; simp only [zva, ↓reduceIte, Nat.reduceEqDiff, d3]))) | (apply g_false; (solve | (conv => lhs; simp only [zva, ↓reduceIte, Nat.reduceEqDiff, d3]))) | apply g_here | (apply g_past; (solve | decide)) | apply g_exit | apply g_retc | apply g_retb | apply g_ret | apply g_done)
      refine ih (m - 1) _ _ (by omega) ⟨i + 1, M, by omega, by omega, by simp, hp, hI.stop hji (.inl (by omega)), rfl⟩
  · have d2 : decide ((i : Int) < (L.length : Int)) = false := decide_eq_false (by omega)
    repeat' (first | (apply o_op; (solve | (conv => lhs; simp (disch := first | omega | (simp only [Val.cells, List.all_cons, List.all_nil, Val.one, Bool.and_self])) only [zev, zex, Val.one, List.length_cons, List.length_nil, Nat.reduceAdd, Option.map_some, Option.map_none, List.map_cons, List.map_nil, zva, ↓reduceIte, Nat.reduceEqDiff, d2])); (solve | (conv => lhs; simp only [zfr, Nat.reduceEqDiff, Nat.reduceLT, ↓reduceIte]))) | (apply o_yes; (solve | (conv => lhs; simp only [zva, ↓reduceIte, Nat.reduceEqDiff, d2])); (solve | rfl)) | (apply o_no; (solve | (conv => lhs; simp only [zva, ↓reduceIte, Nat.reduceEqDiff, d2])); (solve | decide); (solve | (conv => lhs; simp only [zfr, Nat.reduceEqDiff, Nat.reduceLT, ↓reduceIte]))) | (apply o_not; (solve | (conv => lhs; simp only [zva, ↓reduceIte, Nat.reduceEqDiff])); (solve | (conv => lhs; simp only [zfr, Nat.reduceEqDiff, Nat.reduceLT, ↓reduceIte]))) | (apply o_if; (solve | (conv => lhs; simp only [zva, ↓reduceIte, Nat.reduceEqDiff])); (solve | (intro hbb; conv => lhs; simp (disch := first | omega | (simp only [Val.cells, List.all_cons, List.all_nil, Val.one, Bool.and_self])) only [zev, zex, Val.one, List.length_cons, List.length_nil, Nat.reduceAdd, Option.map_some, Option.map_none, List.map_cons, List.map_nil, zva, ↓reduceIte, Nat.reduceEqDiff, hbb, d2])); (solve | (conv => lhs; simp only [zfr, Nat.reduceEqDiff, Nat.reduceLT, ↓reduceIte]))) | (apply o_end; (solve | (conv => lhs; simp only [zdr, inl, Nat.reduceEqDiff, or_false, or_true, ↓reduceIte]))) | apply g_seq | apply g_region | apply g_next | apply g_block | apply g_out | (apply g_true; (solve | (conv => lhs; simp only [zva, ↓reduceIte, Nat.reduceEqDiff, d2]))) | (apply g_false; (solve | (conv => lhs; simp only [zva, ↓reduceIte, Nat.reduceEqDiff, d2]))) | apply g_here | (apply g_past; (solve | decide)) | apply g_exit | apply g_retc | apply g_retb | apply g_ret | apply g_done)
    exact ⟨.inl rfl, _, rfl, M, hp, ho.sorted (by omega), rfl⟩
theorem pdqT_run {l : List Nat} (hE : E.Has tabs05 l) (hf : ∀ f ∈ needSortT, f ∈ l) (w : h.Wf) (tb : Tables h) {k n e : Nat} {L : List Z} {P : Nat → Prop} (hn : n = L.length) (hb : base ≤ k) (hk2 : 2 ≤ k) (hk : h.get k = some ⟨cellsZ L, true, e⟩) (hlen : n ≤ 12)
    (hP : ∀ j, P j → j ≠ k) (hL : TreesZ P h L) {lim : Int} :
    CallV E base F.slices_pdqsortCmpFunc_tree [.slice k 0 n none, .int .i64 0, .int .i64 (n : Int), .int .i64 lim, .fn F.breed_of_1 []] h fun r h' => ∃ L' : List Z, L'.Perm L ∧ L'.Pairwise (fun x y => keyZ x ≤ keyZ y) ∧ h' = h.set k (some ⟨cellsZ L', true, e⟩) := by
  refine c_begin hE (hf _ (by decide)) rfl (by decide) (by decide) ?_
  simp only [T.slices_pdqsortCmpFunc_tree, Frame.enterFrom, Nat.zero_add, Nat.reduceAdd]
  repeat' (first | (apply o_op; (solve | (conv => lhs; simp (disch := first | omega | (simp only [Val.cells, List.all_cons, List.all_nil, Val.one, Bool.and_self])) only [zev, zex, Val.one, List.length_cons, List.length_nil, Nat.reduceAdd, Option.map_some, Option.map_none, List.map_cons, List.map_nil, zva, ↓reduceIte, Nat.reduceEqDiff])); (solve | (conv => lhs; simp only [zfr, Nat.reduceEqDiff, Nat.reduceLT, ↓reduceIte]))) | (apply o_yes; (solve | (conv => lhs; simp only [zva, ↓reduceIte, Nat.reduceEqDiff])); (solve | rfl)) | (apply o_no; (solve | (conv => lhs; simp only [zva, ↓reduceIte, Nat.reduceEqDiff])); (solve | decide); (solve | (conv => lhs; simp only [zfr, Nat.reduceEqDiff, Nat.reduceLT, ↓reduceIte]))) | (apply o_not; (solve | (conv => lhs; simp only [zva, ↓reduceIte, Nat.reduceEqDiff])); (solve | (conv => lhs; simp only [zfr, Nat.reduceEqDiff, Nat.reduceLT, ↓reduceIte]))) | (apply o_if; (solve | (conv => lhs; simp only [zva, ↓reduceIte, Nat.reduceEqDiff])); (solve | (intro hbb; conv => lhs; simp (disch := first | omega | (simp only [Val.cells, List.all_cons, List.all_nil, Val.one, Bool.and_self])) only [zev, zex, Val.one, List.length_cons, List.length_nil, Nat.reduceAdd, Option.map_some, Option.map_none, List.map_cons, List.map_nil, zva, ↓reduceIte, Nat.reduceEqDiff, hbb])); (solve | (conv => lhs; simp only [zfr, Nat.reduceEqDiff, Nat.reduceLT, ↓reduceIte]))) | (apply o_end; (solve | (conv => lhs; simp only [zdr, inl, Nat.reduceEqDiff, or_false, or_true, ↓reduceIte]))) | apply g_seq | apply g_region | apply g_next | apply g_block | apply g_out | (apply g_true; (solve | (conv => lhs; simp only [zva, ↓reduceIte, Nat.reduceEqDiff]))) | (apply g_false; (solve | (conv => lhs; simp only [zva, ↓reduceIte, Nat.reduceEqDiff]))) | apply g_here | (apply g_past; (solve | decide)) | apply g_exit | apply g_retc | apply g_retb | apply g_ret | apply g_done)
  refine g_loop ?_
  have d1 : decide ((n : Int) ≤ 12) = true := decide_eq_true (by omega)
  repeat' (first | (apply o_op; (solve | (conv => lhs; simp (disch := first | omega | (simp only [Val.cells, List.all_cons, List.all_nil, Val.one, Bool.and_self])) only [zev, zex, Val.one, List.length_cons, List.length_nil, Nat.reduceAdd, Option.map_some, Option.map_none, List.map_cons, List.map_nil, zva, ↓reduceIte, Nat.reduceEqDiff, Int.sub_zero, d1])); (solve | (conv => lhs; simp only [zfr, Nat.reduceEqDiff, Nat.reduceLT, ↓reduceIte]))) | (apply o_yes; (solve | (conv => lhs; simp only [zva, ↓reduceIte, Nat.reduceEqDiff, Int.sub_zero, d1])); (solve | rfl)) | (apply o_no; (solve | (conv => lhs; simp only [zva, ↓reduceIte, Nat.reduceEqDiff, Int.sub_zero, d1])); (solve | decide); (solve | (conv => lhs; simp only [zfr, Nat.reduceEqDiff, Nat.reduceLT, ↓reduceIte]))) | (apply o_not; (solve | (conv => lhs; simp only [zva, ↓reduceIte, Nat.reduceEqDiff])); (solve | (conv => lhs; simp only [zfr, Nat.reduceEqDiff, Nat.reduceLT, ↓reduceIte]))) | (apply o_if; (solve | (conv => lhs; simp only [zva, ↓reduceIte, Nat.reduceEqDiff])); (solve | (intro hbb; conv => lhs; simp (disch := first | omega | (simp only [Val.cells, List.all_cons, List.all_nil, Val.one, Bool.and_self])) only [zev, zex, Val.one, List.length_cons, List.length_nil, Nat.reduceAdd, Option.map_some, Option.map_none, List.map_cons, List.map_nil, zva, ↓reduceIte, Nat.reduceEqDiff, hbb, Int.sub_zero, d1])); (solve | (conv => lhs; simp only [zfr, Nat.reduceEqDiff, Nat.reduceLT, ↓reduceIte]))) | (apply o_end; (solve | (conv => lhs; simp only [zdr, inl, Nat.reduceEqDiff, or_false, or_true, ↓reduceIte]))) | apply g_seq | apply g_region | apply g_next | apply g_block | apply g_out | (apply g_true; (solve | (conv => lhs; simp only [zva, ↓reduceIte, Nat.reduceEqDiff, Int.sub_zero, d1]))) | (apply g_false; (solve | (conv => lhs; simp only [zva, ↓reduceIte, Nat.reduceEqDiff, Int.sub_zero, d1]))) | apply g_here | (apply g_past; (solve | decide)) | apply g_exit | apply g_retc | apply g_retb | apply g_ret | apply g_done)
  (apply o_call; (solve | (conv => lhs; simp only [Callee.find, List.map_cons, List.map_nil, List.cons_append, List.nil_append, zva, ↓reduceIte, Nat.reduceEqDiff])))
  · exact insertionT_run hE hf w tb hn hb hk2 hk (by omega) hP hL
  rintro _ h2 p
  (conv => arg 8; simp only [zfr, Nat.reduceEqDiff, Nat.reduceLT, ↓reduceIte])
  repeat' (first | (apply o_op; (solve | (conv => lhs; simp (disch := first | omega | (simp only [Val.cells, List.all_cons, List.all_nil, Val.one, Bool.and_self])) only [zev, zex, Val.one, List.length_cons, List.length_nil, Nat.reduceAdd, Option.map_some, Option.map_none, List.map_cons, List.map_nil, zva, ↓reduceIte, Nat.reduceEqDiff])); (solve | (conv => lhs; simp only [zfr, Nat.reduceEqDiff, Nat.reduceLT, ↓reduceIte]))) | (apply o_yes; (solve | (conv => lhs; simp only [zva, ↓reduceIte, Nat.reduceEqDiff])); (solve | rfl)) | (apply o_no; (solve | (conv => lhs; simp only [zva, ↓reduceIte, Nat.reduceEqDiff])); (solve | decide); (solve | (conv => lhs; simp only [zfr, Nat.reduceEqDiff, Nat.reduceLT, ↓reduceIte]))) | (apply o_not; (solve | (conv => lhs; simp only [zva, ↓reduceIte, Nat.reduceEqDiff])); (solve | (conv => lhs; simp only [zfr, Nat.reduceEqDiff, Nat.reduceLT, ↓reduceIte]))) | (apply o_if; (solve | (conv => lhs; simp only [zva, ↓reduceIte, Nat.reduceEqDiff])); (solve | (intro hbb; conv => lhs; simp (disch := first | omega | (simp only [Val.cells, List.all_cons, List.all_nil, Val.one, Bool.and_self])) only [zev, zex, Val.one, List.length_cons, List.length_nil, Nat.reduceAdd, Option.map_some, Option.map_none, List.map_cons, List.map_nil, zva, ↓reduceIte, Nat.reduceEqDiff, hbb])); (solve | (conv => lhs; simp only [zfr, Nat.reduceEqDiff, Nat.reduceLT, ↓reduceIte]))) | (apply o_end; (solve | (conv => lhs; simp only [zdr, inl, Nat.reduceEqDiff, or_false, or_true, ↓reduceIte]))) | apply g_seq | apply g_region | apply g_next | apply g_block | apply g_out | (apply g_true; (solve | (conv => lhs; simp only [zva, ↓reduceIte, Nat.reduceEqDiff]))) | (apply g_false; (solve | (conv => lhs; simp only [zva, ↓reduceIte, Nat.reduceEqDiff]))) | apply g_here | (apply g_past; (solve | decide)) | apply g_exit | apply g_retc | apply g_retb | apply g_ret | apply g_done)
  exact ⟨.inr rfl, _, rfl, p⟩
theorem sortT_run {l : List Nat} (hE : E.Has tabs05 l) (hf : ∀ f ∈ needSortT, f ∈ l) (w : h.Wf) (tb : Tables h) {k n e : Nat} {L : List Z} {P : Nat → Prop} (hn : n = L.length) (hb : base ≤ k) (hk2 : 2 ≤ k) (hk : h.get k = some ⟨cellsZ L, true, e⟩) (hlen : n ≤ 12)
    (hP : ∀ j, P j → j ≠ k) (hL : TreesZ P h L) :
    CallV E base F.slices_SortFunc_tree [.slice k 0 n none, .fn F.breed_of_1 []] h fun r h' => ∃ L' : List Z, L'.Perm L ∧ L'.Pairwise (fun x y => keyZ x ≤ keyZ y) ∧ h' = h.set k (some ⟨cellsZ L', true, e⟩) := by
  refine c_begin hE (hf _ (by decide)) rfl (by decide) (by decide) ?_
  simp only [T.slices_SortFunc_tree, Frame.enterFrom, Nat.zero_add, Nat.reduceAdd]
  repeat' (first | (apply o_op; (solve | (conv => lhs; simp (disch := first | omega | (simp only [Val.cells, List.all_cons, List.all_nil, Val.one, Bool.and_self])) only [zev, zex, Val.one, List.length_cons, List.length_nil, Nat.reduceAdd, Option.map_some, Option.map_none, List.map_cons, List.map_nil, zva, ↓reduceIte, Nat.reduceEqDiff])); (solve | (conv => lhs; simp only [zfr, Nat.reduceEqDiff, Nat.reduceLT, ↓reduceIte]))) | (apply o_yes; (solve | (conv => lhs; simp only [zva, ↓reduceIte, Nat.reduceEqDiff])); (solve | rfl)) | (apply o_no; (solve | (conv => lhs; simp only [zva, ↓reduceIte, Nat.reduceEqDiff])); (solve | decide); (solve | (conv => lhs; simp only [zfr, Nat.reduceEqDiff, Nat.reduceLT, ↓reduceIte]))) | (apply o_not; (solve | (conv => lhs; simp only [zva, ↓reduceIte, Nat.reduceEqDiff])); (solve | (conv => lhs; simp only [zfr, Nat.reduceEqDiff, Nat.reduceLT, ↓reduceIte]))) | (apply o_if; (solve | (conv => lhs; simp only [zva, ↓reduceIte, Nat.reduceEqDiff])); (solve | (intro hbb; conv => lhs; simp (disch := first | omega | (simp only [Val.cells, List.all_cons, List.all_nil, Val.one, Bool.and_self])) only [zev, zex, Val.one, List.length_cons, List.length_nil, Nat.reduceAdd, Option.map_some, Option.map_none, List.map_cons, List.map_nil, zva, ↓reduceIte, Nat.reduceEqDiff, hbb])); (solve | (conv => lhs; simp only [zfr, Nat.reduceEqDiff, Nat.reduceLT, ↓reduceIte]))) | (apply o_end; (solve | (conv => lhs; simp only [zdr, inl, Nat.reduceEqDiff, or_false, or_true, ↓reduceIte]))) | apply g_seq | apply g_region | apply g_next | apply g_block | apply g_out | (apply g_true; (solve | (conv => lhs; simp only [zva, ↓reduceIte, Nat.reduceEqDiff]))) | (apply g_false; (solve | (conv => lhs; simp only [zva, ↓reduceIte, Nat.reduceEqDiff]))) | apply g_here | (apply g_past; (solve | decide)) | apply g_exit | apply g_retc | apply g_retb | apply g_ret | apply g_done)
  (apply o_call; (solve | (conv => lhs; simp only [Callee.find, List.map_cons, List.map_nil, List.cons_append, List.nil_append, zva, ↓reduceIte, Nat.reduceEqDiff])))
  · exact len_run hE (fun f hf' => hf f (by revert f; decide)) (by omega)
  rintro _ _ ⟨⟨i, rfl⟩, rfl⟩
  (conv => arg 8; simp only [zfr, Nat.reduceEqDiff, Nat.reduceLT, ↓reduceIte])
  repeat' (first | (apply o_op; (solve | (conv => lhs; simp (disch := first | omega | (simp only [Val.cells, List.all_cons, List.all_nil, Val.one, Bool.and_self])) only [zev, zex, Val.one, List.length_cons, List.length_nil, Nat.reduceAdd, Option.map_some, Option.map_none, List.map_cons, List.map_nil, zva, ↓reduceIte, Nat.reduceEqDiff])); (solve | (conv => lhs; simp only [zfr, Nat.reduceEqDiff, Nat.reduceLT, ↓reduceIte]))) | (apply o_yes; (solve | (conv => lhs; simp only [zva, ↓reduceIte, Nat.reduceEqDiff])); (solve | rfl)) | (apply o_no; (solve | (conv => lhs; simp only [zva, ↓reduceIte, Nat.reduceEqDiff])); (solve | decide); (solve | (conv => lhs; simp only [zfr, Nat.reduceEqDiff, Nat.reduceLT, ↓reduceIte]))) | (apply o_not; (solve | (conv => lhs; simp only [zva, ↓reduceIte, Nat.reduceEqDiff])); (solve | (conv => lhs; simp only [zfr, Nat.reduceEqDiff, Nat.reduceLT, ↓reduceIte]))) | (apply o_if; (solve | (conv => lhs; simp only [zva, ↓reduceIte, Nat.reduceEqDiff])); (solve | (intro hbb; conv => lhs; simp (disch := first | omega | (simp only [Val.cells, List.all_cons, List.all_nil, Val.one, Bool.and_self])) only [zev, zex, Val.one, List.length_cons, List.length_nil, Nat.reduceAdd, Option.map_some, Option.map_none, List.map_cons, List.map_nil, zva, ↓reduceIte, Nat.reduceEqDiff, hbb])); (solve | (conv => lhs; simp only [zfr, Nat.reduceEqDiff, Nat.reduceLT, ↓reduceIte]))) | (apply o_end; (solve | (conv => lhs; simp only [zdr, inl, Nat.reduceEqDiff, or_false, or_true, ↓reduceIte]))) | apply g_seq | apply g_region | apply g_next | apply g_block | apply g_out | (apply g_true; (solve | (conv => lhs; simp only [zva, ↓reduceIte, Nat.reduceEqDiff]))) | (apply g_false; (solve | (conv => lhs; simp only [zva, ↓reduceIte, Nat.reduceEqDiff]))) | apply g_here | (apply g_past; (solve | decide)) | apply g_exit | apply g_retc | apply g_retb | apply g_ret | apply g_done)
  (apply o_call; (solve | (conv => lhs; simp only [Callee.find, List.map_cons, List.map_nil, List.cons_append, List.nil_append, zva, ↓reduceIte, Nat.reduceEqDiff])))
  · exact pdqT_run hE hf w tb hn hb hk2 hk hlen hP hL
  rintro _ h2 p
  (conv => arg 8; simp only [zfr, Nat.reduceEqDiff, Nat.reduceLT, ↓reduceIte])
  repeat' (first | (apply o_op; (solve | (conv => lhs; simp (disch := first | omega | (simp only [Val.cells, List.all_cons, List.all_nil, Val.one, Bool.and_self])) only [zev, zex, Val.one, List.length_cons, List.length_nil, Nat.reduceAdd, Option.map_some, Option.map_none, List.map_cons, List.map_nil, zva, ↓reduceIte, Nat.reduceEqDiff])); (solve | (conv => lhs; simp only [zfr, Nat.reduceEqDiff, Nat.reduceLT, ↓reduceIte]))) | (apply o_yes; (solve | (conv => lhs; simp only [zva, ↓reduceIte, Nat.reduceEqDiff])); (solve | rfl)) | (apply o_no; (solve | (conv => lhs; simp only [zva, ↓reduceIte, Nat.reduceEqDiff])); (solve | decide); (solve | (conv => lhs; simp only [zfr, Nat.reduceEqDiff, Nat.reduceLT, ↓reduceIte]))) | (apply o_not; (solve | (conv => lhs; simp only [zva, ↓reduceIte, Nat.reduceEqDiff])); (solve | (conv => lhs; simp only [zfr, Nat.reduceEqDiff, Nat.reduceLT, ↓reduceIte]))) | (apply o_if; (solve | (conv => lhs; simp only [zva, ↓reduceIte, Nat.reduceEqDiff])); (solve | (intro hbb; conv => lhs; simp (disch := first | omega | (simp only [Val.cells, List.all_cons, List.all_nil, Val.one, Bool.and_self])) only [zev, zex, Val.one, List.length_cons, List.length_nil, Nat.reduceAdd, Option.map_some, Option.map_none, List.map_cons, List.map_nil, zva, ↓reduceIte, Nat.reduceEqDiff, hbb])); (solve | (conv => lhs; simp only [zfr, Nat.reduceEqDiff, Nat.reduceLT, ↓reduceIte]))) | (apply o_end; (solve | (conv => lhs; simp only [zdr, inl, Nat.reduceEqDiff, or_false, or_true, ↓reduceIte]))) | apply g_seq | apply g_region | apply g_next | apply g_block | apply g_out | (apply g_true; (solve | (conv => lhs; simp only [zva, ↓reduceIte, Nat.reduceEqDiff]))) | (apply g_false; (solve | (conv => lhs; simp only [zva, ↓reduceIte, Nat.reduceEqDiff]))) | apply g_here | (apply g_past; (solve | decide)) | apply g_exit | apply g_retc | apply g_retb | apply g_ret | apply g_done)
  exact ⟨.inl rfl, _, rfl, p⟩
/-- The tree of some trees that lie in a block of their own. -/
theorem of_run {l : List Nat} (hE : E.Has tabs05 l) (hf : ∀ f ∈ needOf, f ∈ l) (w : h.Wf) (tb : Tables h) {k n e : Nat} {L : List Z} (hn : n = L.length) (hb : base ≤ k) (hbs : base ≤ h.size) (hk2 : 2 ≤ k) (hk : h.get k = some ⟨cellsZ L, true, e⟩) (hlen : n ≤ 12) (h0 : 1 ≤ n)
    {P : Nat → Prop} (hP : ∀ j, P j → j < h.size ∧ j ≠ k) (hL : TreesZ P h L) :
    CallV E base F.breed_of [.slice k 0 n none] h fun r h' => (∃ M : List Tr, M.Perm (L.map (·.1)) ∧ M.Pairwise (fun x y => first x ≤ first y) ∧ ∃ t, TreeAt (fun j => P j ∨ j = k) h' t r ∧ (M = [t] ∨ (2 ≤ n ∧ t = .node (union M) M))) ∧
      (∀ j, j < h.size → j ≠ k → h'.get j = h.get j) ∧ h'.Wf ∧ h.size ≤ h'.size := by
  subst hn
  refine c_begin hE (hf _ (by decide)) rfl (by decide) (by decide) ?_
  simp only [T.breed_of, Frame.enterFrom, Nat.zero_add, Nat.reduceAdd]
  by_cases h1 : L.length = 1
  · have e1 : ((L.length : Int) == 1) = true := by simp [h1]
    obtain ⟨x1, x2⟩ := own_elem (c := none) (i := 0) (n := L.length) hk (by simp [cellsZ]) (by simp [cellsZ]; omega)
    rw [Int.natCast_zero] at x1
    have x3 : h.load false 1 k 0 = some L[0].2 := by rw [x2]; simp [cellsZ]
    repeat' (first | (apply o_op; (solve | (conv => lhs; simp (disch := first | omega | (simp only [Val.cells, List.all_cons, List.all_nil, Val.one, Bool.and_self])) only [zev, zex, Val.one, List.length_cons, List.length_nil, Nat.reduceAdd, Option.map_some, Option.map_none, List.map_cons, List.map_nil, zva, ↓reduceIte, Nat.reduceEqDiff, e1, x1, x3])); (solve | (conv => lhs; simp only [zfr, Nat.reduceEqDiff, Nat.reduceLT, ↓reduceIte]))) | (apply o_yes; (solve | (conv => lhs; simp only [zva, ↓reduceIte, Nat.reduceEqDiff, e1, x1, x3])); (solve | rfl)) | (apply o_no; (solve | (conv => lhs; simp only [zva, ↓reduceIte, Nat.reduceEqDiff, e1, x1, x3])); (solve | decide); (solve | (conv => lhs; simp only [zfr, Nat.reduceEqDiff, Nat.reduceLT, ↓reduceIte]))) | (apply o_not; (solve | (conv => lhs; simp only [zva, ↓reduceIte, Nat.reduceEqDiff])); (solve | (conv => lhs; simp only [zfr, Nat.reduceEqDiff, Nat.reduceLT, ↓reduceIte]))) | (apply o_if; (solve | (conv => lhs; simp only [zva, ↓reduceIte, Nat.reduceEqDiff])); (solve | (intro hbb; conv => lhs; simp (disch := first | omega | (simp only [Val.cells, List.all_cons, List.all_nil, Val.one, Bool.and_self])) only [zev, zex, Val.one, List.length_cons, List.length_nil, Nat.reduceAdd, Option.map_some, Option.map_none, List.map_cons, List.map_nil, zva, ↓reduceIte, Nat.reduceEqDiff, hbb, e1, x1, x3])); (solve | (conv => lhs; simp only [zfr, Nat.reduceEqDiff, Nat.reduceLT, ↓reduceIte]))) | (apply o_end; (solve | (conv => lhs; simp only [zdr, inl, Nat.reduceEqDiff, or_false, or_true, ↓reduceIte]))) | apply g_seq | apply g_region | apply g_next | apply g_block | apply g_out | (apply g_true; (solve | (conv => lhs; simp only [zva, ↓reduceIte, Nat.reduceEqDiff, e1, x1, x3]))) | (apply g_false; (solve | (conv => lhs; simp only [zva, ↓reduceIte, Nat.reduceEqDiff, e1, x1, x3]))) | apply g_here | (apply g_past; (solve | decide)) | apply g_exit | apply g_retc | apply g_retb | apply g_ret | apply g_done)
    refine ⟨.inr rfl, _, rfl, ⟨[L[0].1], ?_, by simp, L[0].1, ?_, .inl rfl⟩, fun j _ _ => rfl, w, Nat.le_refl _⟩
    · obtain ⟨z, hz⟩ := List.length_eq_one_iff.1 h1
      have : L[0] = z := by simp [hz]
      rw [this, hz]
      simp
    · exact TreeAt.keep (fun _ _ => rfl) (fun k p => .inl p) _ _ (hL _ (List.getElem_mem _)).1
  have e1 : ((L.length : Int) == 1) = false := by simp; omega
  repeat' (first | (apply o_op; (solve | (conv => lhs; simp (disch := first | omega | (simp only [Val.cells, List.all_cons, List.all_nil, Val.one, Bool.and_self])) only [zev, zex, Val.one, List.length_cons, List.length_nil, Nat.reduceAdd, Option.map_some, Option.map_none, List.map_cons, List.map_nil, zva, ↓reduceIte, Nat.reduceEqDiff, e1])); (solve | (conv => lhs; simp only [zfr, Nat.reduceEqDiff, Nat.reduceLT, ↓reduceIte]))) | (apply o_yes; (solve | (conv => lhs; simp only [zva, ↓reduceIte, Nat.reduceEqDiff, e1])); (solve | rfl)) | (apply o_no; (solve | (conv => lhs; simp only [zva, ↓reduceIte, Nat.reduceEqDiff, e1])); (solve | decide); (solve | (conv => lhs; simp only [zfr, Nat.reduceEqDiff, Nat.reduceLT, ↓reduceIte]))) | (apply o_not; (solve | (conv => lhs; simp only [zva, ↓reduceIte, Nat.reduceEqDiff])); (solve | (conv => lhs; simp only [zfr, Nat.reduceEqDiff, Nat.reduceLT, ↓reduceIte]))) | (apply o_if; (solve | (conv => lhs; simp only [zva, ↓reduceIte, Nat.reduceEqDiff])); (solve | (intro hbb; conv => lhs; simp (disch := first | omega | (simp only [Val.cells, List.all_cons, List.all_nil, Val.one, Bool.and_self])) only [zev, zex, Val.one, List.length_cons, List.length_nil, Nat.reduceAdd, Option.map_some, Option.map_none, List.map_cons, List.map_nil, zva, ↓reduceIte, Nat.reduceEqDiff, hbb, e1])); (solve | (conv => lhs; simp only [zfr, Nat.reduceEqDiff, Nat.reduceLT, ↓reduceIte]))) | (apply o_end; (solve | (conv => lhs; simp only [zdr, inl, Nat.reduceEqDiff, or_false, or_true, ↓reduceIte]))) | apply g_seq | apply g_region | apply g_next | apply g_block | apply g_out | (apply g_true; (solve | (conv => lhs; simp only [zva, ↓reduceIte, Nat.reduceEqDiff, e1]))) | (apply g_false; (solve | (conv => lhs; simp only [zva, ↓reduceIte, Nat.reduceEqDiff, e1]))) | apply g_here | (apply g_past; (solve | decide)) | apply g_exit | apply g_retc | apply g_retb | apply g_ret | apply g_done)
  (apply o_call; (solve | (conv => lhs; simp only [Callee.find, List.map_cons, List.map_nil, List.cons_append, List.nil_append, zva, ↓reduceIte, Nat.reduceEqDiff])))
  · exact sortT_run hE (fun f hf' => hf f (by simp only [needOf, List.mem_cons]; exact .inr hf')) w tb rfl hb hk2 hk hlen (fun j p => (hP j p).2) hL
  rintro _ h2 ⟨M, hp, hs, rfl⟩
  (conv => arg 8; simp only [zfr, Nat.reduceEqDiff, Nat.reduceLT, ↓reduceIte])
  have hks := w.lt hk
  have hml := hp.length_eq
  have w2 := wf_set w hks (some ⟨cellsZ M, true, e⟩)
  have s2 := Heap.size_set h k (some ⟨cellsZ M, true, e⟩) hks
  have g2 : (h.set k (some ⟨cellsZ M, true, e⟩)).get k = some ⟨cellsZ M, true, e⟩ := get_set_self
  have old2 : ∀ j, j ≠ k → (h.set k (some ⟨cellsZ M, true, e⟩)).get j = h.get j := fun j hj => get_set_ne hj
  have M2 : TreesZ P (h.set k (some ⟨cellsZ M, true, e⟩)) M := (hL.perm hp).keep (fun q hq => get_set_ne (hP q hq).2) (fun _ h => h)
  generalize h.set k (some ⟨cellsZ M, true, e⟩) = h2 at w2 s2 g2 old2 M2
  have f1 : fill [Val.int .i64 0, .nils] [(1, 1, .slice k 0 L.length none)] = some [.int .i64 0, .slice k 0 L.length none] := rfl
  repeat' (first | (apply o_op; (solve | (conv => lhs; simp (disch := first | omega | (simp only [Val.cells, List.all_cons, List.all_nil, Val.one, Bool.and_self])) only [zev, zex, Val.one, List.length_cons, List.length_nil, Nat.reduceAdd, Option.map_some, Option.map_none, List.map_cons, List.map_nil, zva, ↓reduceIte, Nat.reduceEqDiff, f1])); (solve | (conv => lhs; simp only [zfr, Nat.reduceEqDiff, Nat.reduceLT, ↓reduceIte]))) | (apply o_yes; (solve | (conv => lhs; simp only [zva, ↓reduceIte, Nat.reduceEqDiff, f1])); (solve | rfl)) | (apply o_no; (solve | (conv => lhs; simp only [zva, ↓reduceIte, Nat.reduceEqDiff, f1])); (solve | decide); (solve | (conv => lhs; simp only [zfr, Nat.reduceEqDiff, Nat.reduceLT, ↓reduceIte]))) | (apply o_not; (solve | (conv => lhs; simp only [zva, ↓reduceIte, Nat.reduceEqDiff])); (solve | (conv => lhs; simp only [zfr, Nat.reduceEqDiff, Nat.reduceLT, ↓reduceIte]))) | (apply o_if; (solve | (conv => lhs; simp only [zva, ↓reduceIte, Nat.reduceEqDiff])); (solve | (intro hbb; conv => lhs; simp (disch := first | omega | (simp only [Val.cells, List.all_cons, List.all_nil, Val.one, Bool.and_self])) only [zev, zex, Val.one, List.length_cons, List.length_nil, Nat.reduceAdd, Option.map_some, Option.map_none, List.map_cons, List.map_nil, zva, ↓reduceIte, Nat.reduceEqDiff, hbb, f1])); (solve | (conv => lhs; simp only [zfr, Nat.reduceEqDiff, Nat.reduceLT, ↓reduceIte]))) | (apply o_end; (solve | (conv => lhs; simp only [zdr, inl, Nat.reduceEqDiff, or_false, or_true, ↓reduceIte]))) | apply g_seq | apply g_region | apply g_next | apply g_block | apply g_out | (apply g_true; (solve | (conv => lhs; simp only [zva, ↓reduceIte, Nat.reduceEqDiff, f1]))) | (apply g_false; (solve | (conv => lhs; simp only [zva, ↓reduceIte, Nat.reduceEqDiff, f1]))) | apply g_here | (apply g_past; (solve | decide)) | apply g_exit | apply g_retc | apply g_retb | apply g_ret | apply g_done)
  refine loop_ind (fun m fr h3 => ∃ i, i + m = L.length ∧ fr = [(3, .ptr h2.size 0), (16, .slice k 0 L.length none), (17, .int .i64 (L.length : Int)), (18, .int .i64 (i : Int))] ∧ h3 = h2.push (some ⟨[.int .i64 (union ((M.map (·.1)).take i) : Int), .slice k 0 L.length none], true, 0⟩)) ?_ L.length _ _
    ⟨0, by omega, rfl, rfl⟩
  rintro m fr h3 ⟨i, him, rfl, rfl⟩ ih
  have hu : ∀ i, union ((M.map (·.1)).take i) < 256 := fun i => lt_256.2 fun b hb => by
    obtain ⟨t, ht, h⟩ := bit_union.1 hb
    obtain ⟨z, hz, rfl⟩ := List.mem_map.1 (List.mem_of_mem_take ht)
    exact lt_256.1 (M2 z hz).2.2 b h
  have ui := hu i
  by_cases hi : i < L.length
  · have d2 : decide ((i : Int) < (L.length : Int)) = true := decide_eq_true (by omega)
    have g3 : (h2.push (some ⟨[.int .i64 (union ((M.map (·.1)).take i) : Int), .slice k 0 L.length none], true, 0⟩)).get k = some ⟨cellsZ M, true, e⟩ := (get_push_lt (by omega)).trans g2
    obtain ⟨x1, x2⟩ := own_elem (c := none) (i := i) (n := L.length) g3 (by simp [cellsZ, hml]) (by simp [cellsZ]; omega)
    have x3 : (h2.push (some ⟨[.int .i64 (union ((M.map (·.1)).take i) : Int), .slice k 0 L.length none], true, 0⟩)).load false 1 k i = some M[i].2 := by rw [x2]; simp [cellsZ]
    obtain ⟨t1, t2, t3⟩ := M2 M[i] (List.getElem_mem _)
    have t1' := TreeAt.keep (Q := fun _ => True) (h' := h2.push (some ⟨[.int .i64 (union ((M.map (·.1)).take i) : Int), .slice k 0 L.length none], true, 0⟩)) (fun q hq => get_push_lt (by have := (hP q hq).1; omega)) (fun _ _ => trivial) _ _ t1
    repeat' (first | (apply o_op; (solve | (conv => lhs; simp (disch := first | omega | (simp only [Val.cells, List.all_cons, List.all_nil, Val.one, Bool.and_self])) only [zev, zex, Val.one, List.length_cons, List.length_nil, Nat.reduceAdd, Option.map_some, Option.map_none, List.map_cons, List.map_nil, zva, ↓reduceIte, Nat.reduceEqDiff, d2, x1, x3])); (solve | (conv => lhs; simp only [zfr, Nat.reduceEqDiff, Nat.reduceLT, ↓reduceIte]))) | (apply o_yes; (solve | (conv => lhs; simp only [zva, ↓reduceIte, Nat.reduceEqDiff, d2, x1, x3])); (solve | rfl)) | (apply o_no; (solve | (conv => lhs; simp only [zva, ↓reduceIte, Nat.reduceEqDiff, d2, x1, x3])); (solve | decide); (solve | (conv => lhs; simp only [zfr, Nat.reduceEqDiff, Nat.reduceLT, ↓reduceIte]))) | (apply o_not; (solve | (conv => lhs; simp only [zva, ↓reduceIte, Nat.reduceEqDiff])); (solve | (conv => lhs; simp only [zfr, Nat.reduceEqDiff, Nat.reduceLT, ↓reduceIte]))) | (apply o_if; (solve | (conv => lhs; simp only [zva, ↓reduceIte, Nat.reduceEqDiff])); (solve | (intro hbb; conv => lhs; simp (disch := first | omega | (simp only [Val.cells, List.all_cons, List.all_nil, Val.one, Bool.and_self])) only [zev, zex, Val.one, List.length_cons, List.length_nil, Nat.reduceAdd, Option.map_some, Option.map_none, List.map_cons, List.map_nil, zva, ↓reduceIte, Nat.reduceEqDiff, hbb, d2, x1, x3])); (solve | (conv => lhs; simp only [zfr, Nat.reduceEqDiff, Nat.reduceLT, ↓reduceIte]))) | (apply o_end; (solve | (conv => lhs; simp only [zdr, inl, Nat.reduceEqDiff, or_false, or_true, ↓reduceIte]))) | apply g_seq | apply g_region | apply g_next | apply g_block | apply g_out | (apply g_true; (solve | (conv => lhs; simp only [zva, ↓reduceIte, Nat.reduceEqDiff, d2, x1, x3]))) | (apply g_false; (solve | (conv => lhs; simp only [zva, ↓reduceIte, Nat.reduceEqDiff, d2, x1, x3]))) | apply g_here | (apply g_past; (solve | decide)) | apply g_exit | apply g_retc | apply g_retb | apply g_ret | apply g_done)
    refine o_beasts hE (hf _ (by decide)) (by simp only [zva, ↓reduceIte, Nat.reduceEqDiff]) t1' rfl ?_
    (conv => arg 8; simp only [zfr, Nat.reduceEqDiff, Nat.reduceLT, ↓reduceIte])
    repeat' (first | (apply o_op; (solve | (conv => lhs; simp (disch := first | omega | (simp only [Val.cells, List.all_cons, List.all_nil, Val.one, Bool.and_self])) only [zev, zex, Val.one, List.length_cons, List.length_nil, Nat.reduceAdd, Option.map_some, Option.map_none, List.map_cons, List.map_nil, zva, ↓reduceIte, Nat.reduceEqDiff])); (solve | (conv => lhs; simp only [zfr, Nat.reduceEqDiff, Nat.reduceLT, ↓reduceIte]))) | (apply o_yes; (solve | (conv => lhs; simp only [zva, ↓reduceIte, Nat.reduceEqDiff])); (solve | rfl)) | (apply o_no; (solve | (conv => lhs; simp only [zva, ↓reduceIte, Nat.reduceEqDiff])); (solve | decide); (solve | (conv => lhs; simp only [zfr, Nat.reduceEqDiff, Nat.reduceLT, ↓reduceIte]))) | (apply o_not; (solve | (conv => lhs; simp only [zva, ↓reduceIte, Nat.reduceEqDiff])); (solve | (conv => lhs; simp only [zfr, Nat.reduceEqDiff, Nat.reduceLT, ↓reduceIte]))) | (apply o_if; (solve | (conv => lhs; simp only [zva, ↓reduceIte, Nat.reduceEqDiff])); (solve | (intro hbb; conv => lhs; simp (disch := first | omega | (simp only [Val.cells, List.all_cons, List.all_nil, Val.one, Bool.and_self])) only [zev, zex, Val.one, List.length_cons, List.length_nil, Nat.reduceAdd, Option.map_some, Option.map_none, List.map_cons, List.map_nil, zva, ↓reduceIte, Nat.reduceEqDiff, hbb])); (solve | (conv => lhs; simp only [zfr, Nat.reduceEqDiff, Nat.reduceLT, ↓reduceIte]))) | (apply o_end; (solve | (conv => lhs; simp only [zdr, inl, Nat.reduceEqDiff, or_false, or_true, ↓reduceIte]))) | apply g_seq | apply g_region | apply g_next | apply g_block | apply g_out | (apply g_true; (solve | (conv => lhs; simp only [zva, ↓reduceIte, Nat.reduceEqDiff]))) | (apply g_false; (solve | (conv => lhs; simp only [zva, ↓reduceIte, Nat.reduceEqDiff]))) | apply g_here | (apply g_past; (solve | decide)) | apply g_exit | apply g_retc | apply g_retb | apply g_ret | apply g_done)
    refine ih (m - 1) _ _ (by omega) ⟨i + 1, by omega, by simp, ?_⟩
    congr 5
    rw [List.take_add_one]
    have : (M.map (·.1))[i]? = some M[i].1 := by simp [List.getElem?_eq_getElem (show i < M.length by omega)]
    rw [this]
    simp only [union, Option.toList_some, List.foldl_append, List.foldl_cons, List.foldl_nil]
  · have d2 : decide ((i : Int) < (L.length : Int)) = false := decide_eq_false (by omega)
    repeat' (first | (apply o_op; (solve | (conv => lhs; simp (disch := first | omega | (simp only [Val.cells, List.all_cons, List.all_nil, Val.one, Bool.and_self])) only [zev, zex, Val.one, List.length_cons, List.length_nil, Nat.reduceAdd, Option.map_some, Option.map_none, List.map_cons, List.map_nil, zva, ↓reduceIte, Nat.reduceEqDiff, d2])); (solve | (conv => lhs; simp only [zfr, Nat.reduceEqDiff, Nat.reduceLT, ↓reduceIte]))) | (apply o_yes; (solve | (conv => lhs; simp only [zva, ↓reduceIte, Nat.reduceEqDiff, d2])); (solve | rfl)) | (apply o_no; (solve | (conv => lhs; simp only [zva, ↓reduceIte, Nat.reduceEqDiff, d2])); (solve | decide); (solve | (conv => lhs; simp only [zfr, Nat.reduceEqDiff, Nat.reduceLT, ↓reduceIte]))) | (apply o_not; (solve | (conv => lhs; simp only [zva, ↓reduceIte, Nat.reduceEqDiff])); (solve | (conv => lhs; simp only [zfr, Nat.reduceEqDiff, Nat.reduceLT, ↓reduceIte]))) | (apply o_if; (solve | (conv => lhs; simp only [zva, ↓reduceIte, Nat.reduceEqDiff])); (solve | (intro hbb; conv => lhs; simp (disch := first | omega | (simp only [Val.cells, List.all_cons, List.all_nil, Val.one, Bool.and_self])) only [zev, zex, Val.one, List.length_cons, List.length_nil, Nat.reduceAdd, Option.map_some, Option.map_none, List.map_cons, List.map_nil, zva, ↓reduceIte, Nat.reduceEqDiff, hbb, d2])); (solve | (conv => lhs; simp only [zfr, Nat.reduceEqDiff, Nat.reduceLT, ↓reduceIte]))) | (apply o_end; (solve | (conv => lhs; simp only [zdr, inl, Nat.reduceEqDiff, or_false, or_true, ↓reduceIte]))) | apply g_seq | apply g_region | apply g_next | apply g_block | apply g_out | (apply g_true; (solve | (conv => lhs; simp only [zva, ↓reduceIte, Nat.reduceEqDiff, d2]))) | (apply g_false; (solve | (conv => lhs; simp only [zva, ↓reduceIte, Nat.reduceEqDiff, d2]))) | apply g_here | (apply g_past; (solve | decide)) | apply g_exit | apply g_retc | apply g_retb | apply g_ret | apply g_done)
    have htk : (M.map (·.1)).take i = M.map (·.1) := List.take_of_length_le (by simp; omega)
    rw [htk]
    refine ⟨.inr rfl, _, rfl, ⟨M.map (·.1), hp.map _, ?_, .node (union (M.map (·.1))) (M.map (·.1)), ?_, .inr ⟨by omega, rfl⟩⟩, fun j hj hjk => ?_, wf_push w2 _, ?_⟩
    · rw [List.pairwise_map]; exact hs
    · simp only [tuple, Frame.get, TreeAt, List.length_map, hml, if_true]
      refine ⟨k, 0, none, cellsZ M, rfl, .inr rfl, ?_, ?_⟩
      · rw [spread_slice ((get_push_lt (by omega)).trans g2) (by simp [cellsZ, hml])]
        simp only [List.drop_zero]
        rw [List.take_of_length_le (by simp [cellsZ, hml])]
      · exact TreesAt.keep (fun q hq => get_push_lt (by have := (hP q hq).1; omega)) (fun q hq => .inl hq) _ _ M2.trees
    · rw [get_push_lt (by omega), old2 j hjk]
    · simp; omega
end Gc
end
section
/- Contracts: the reader of trees. -/
set_option linter.unusedVariables false
set_option linter.unusedSimpArgs false
namespace Gc
variable {E : Env} {base kept : Nat} {h : Heap}
theorem append_own {h2 : Heap} {esz bytes n : Nat} {v : Val} {cs x : List Val} (w : h2.Wf) (hbs : base ≤ h2.size) (a : Acc base h2 esz v n cs) (hx : x.length = esz) (ho : x.all Val.one = true) (he : 1 ≤ esz) (hby : 1 ≤ bytes) (hroom : (n + 1) * bytes ≤ maxRoom) :
    ∃ h' k, appendV (h2.push (some ⟨x, true, esz⟩)) base esz bytes none v (.slice h2.size 0 1 (some 1)) = some (.slice k 0 (n + 1) none, h') ∧ h'.get k = some ⟨cs ++ x, true, esz⟩ ∧ (cs ++ x).length = (n + 1) * esz ∧ (cs ++ x).all Val.one = true ∧ h'.Wf ∧ h2.size < k ∧ k < h'.size ∧ ∀ j, j < h2.size → v.apart j → h'.get j = h2.get j := by
  have L1 := left_push w (some ⟨x, true, esz⟩)
  have sx : spread (h2.push (some ⟨x, true, esz⟩)) esz (.slice h2.size 0 1 (some 1)) = some (1, x) := by
    rw [spread_slice get_push_self (by simp [hx])]
    simp only [List.drop_zero]
    rw [List.take_of_length_le (by omega)]
  obtain ⟨h5, k5, a1, a2, a3, a4, a5, a6⟩ := append_acc (bytes := bytes) L1.2.1 (Nat.le_trans hbs L1.2.2) (a.keep (fun k hk => get_push_lt hk) w) sx (by omega) he hby ho hroom
  have hlt : h2.size < (h2.push (some ⟨x, true, esz⟩)).size := by simp
  obtain ⟨b1, b2, ⟨b3, _⟩ | ⟨q, b3, _, b4⟩⟩ := a2
  · cases b3
  · cases b3
    exact ⟨h5, k5, a1, b4, b1, b2, a3, by omega, by omega, fun j hj hv => by rw [a6 j (by omega) hv, get_push_lt hj]⟩
/-- What is read of a family behind its next tree. -/
def rdNext (n f : Nat) (acc : List Tr) : Option (Tr × List UInt8) → Option (Tr × List UInt8)
  | none => none
  | some (t, r) =>
    if t.set &&& union acc = 0 ∧ lastLt acc t = true then
      (match r with
      | [] => none
      | c :: r => if c = 41 then (if acc.length = 0 then none else some (.node (union (acc ++ [t])) (acc ++ [t]), r)) else if c = 44 then rdL n f (acc ++ [t]) r else none)
    else none
theorem rdL_next {n f : Nat} {acc : List Tr} {s : List UInt8} : rdL n (f + 1) acc s = rdNext n f acc (rd n f s) := by
  rw [rdL_succ]
  cases rd n f s <;> rfl
theorem u8_eq {c : UInt8} {n : Nat} (hn : n < 256) : c.toNat = n ↔ c = UInt8.ofNat n := by
  constructor
  · intro h
    rw [← h]
    exact UInt8.ofNat_toNat.symm
  · rintro rfl
    simp
    omega
def ReadPost (rb : Nat) (h : Heap) (s : List UInt8) (f : Nat) (v : Val) (h' : Heap) : Prop :=
  ∃ (s' : List UInt8) (ok : Bool), h'.get rb = some ⟨[.str s', .bool ok], true, 0⟩ ∧ (∀ j, j < h.size → j ≠ rb → h'.get j = h.get j) ∧ h'.Wf ∧ h.size ≤ h'.size ∧ s'.length ≤ s.length ∧
    (ok = true → ∃ t, rd 8 f s = some (t, s') ∧ TreeAt (fun j => h.size ≤ j ∧ j < h'.size) h' t v) ∧
    (ok = false → rd 8 f s = none ∧ (v = .nili ∨ ∃ t, TreeAt (fun j => h.size ≤ j ∧ j < h'.size) h' t v ∧ t.set ≠ 0 ∧ t.set < 256))
def needRead : List Nat := [F.breed_reader_tree, F.breed_reader_take] ++ needOf
/-- The list of trees that the reader has: in a block of its own; all blocks from N on. -/
def ListAt (N : Nat) (h : Heap) (v : Val) (zs : List Z) : Prop :=
  (v = .nils ∧ zs = []) ∨ ∃ k, v = .slice k 0 zs.length none ∧ N ≤ k ∧ h.get k = some ⟨cellsZ zs, true, 1⟩ ∧ TreesZ (fun j => N ≤ j ∧ j < h.size ∧ j ≠ k) h zs
theorem ListAt.acc {N b : Nat} {h : Heap} {v : Val} {zs : List Z} (a : ListAt N h v zs) (hb : b ≤ N) : Acc b h 1 v zs.length (cellsZ zs) := by
  rcases a with ⟨rfl, rfl⟩ | ⟨k, rfl, h1, h3, h4⟩
  · exact Acc.nil
  · exact ⟨by simp [cellsZ], h4.one, .inr ⟨k, rfl, by omega, h3⟩⟩
theorem ListAt.keep {N : Nat} {h h' : Heap} {v : Val} {zs : List Z} (a : ListAt N h v zs) (w : h.Wf) (hk : ∀ j, N ≤ j → j < h.size → h'.get j = h.get j) (hs : h.size ≤ h'.size) : ListAt N h' v zs := by
  rcases a with ⟨rfl, rfl⟩ | ⟨k, rfl, h1, h3, h4⟩
  · exact .inl ⟨rfl, rfl⟩
  · exact .inr ⟨k, rfl, h1, by rw [hk k h1 (w.lt h3)]; exact h3, h4.keep (fun j hj => hk j hj.1 hj.2.1) (fun j hj => ⟨hj.1, Nat.lt_of_lt_of_le hj.2.1 hs, hj.2.2⟩)⟩
/-- One more tree in the list. -/
theorem ListAt.snoc {N : Nat} {h2 : Heap} {v x : Val} {zs : List Z} {t : Tr} {P : Nat → Prop} (a : ListAt N h2 v zs) (hN : N ≤ h2.size) (w : h2.Wf) (hb : base ≤ N) (hP : ∀ j, P j → N ≤ j ∧ j < h2.size ∧ v.apart j) (ht : TreeAt P h2 t x) (h0 : t.set ≠ 0) (h1 : t.set < 256) (hl : zs.length ≤ 1000) :
    ∃ h' k, appendV (h2.push (some ⟨[x], true, 1⟩)) base 1 16 none v (.slice h2.size 0 1 (some 1)) = some (.slice k 0 (zs.length + 1) none, h') ∧ ListAt N h' (.slice k 0 (zs.length + 1) none) (zs ++ [(t, x)]) ∧ h'.Wf ∧ h2.size < k ∧ k < h'.size ∧ (∀ j, j < N → h'.get j = h2.get j) := by
  have hone := ht.one
  obtain ⟨h', k, a1, a2, a3, a4, a5, a6, a7, a8⟩ := append_own (bytes := 16) (x := [x]) w (Nat.le_trans hb hN) (a.acc hb) rfl (by simp [hone]) (by omega) (by omega) (by unfold maxRoom; omega)
  refine ⟨h', k, a1, .inr ⟨k, by simp, by omega, by rw [a2]; simp [cellsZ], fun z hz => ?_⟩, a5, a6, a7, fun j hj => a8 j (by omega) ?_⟩
  · rcases List.mem_append.1 hz with hz | hz
    · rcases a with ⟨rfl, rfl⟩ | ⟨q, rfl, b1, b2, b3⟩
      · simp at hz
      · obtain ⟨c1, c2, c3⟩ := b3 z hz
        exact ⟨TreeAt.keep (fun j hj => a8 j hj.2.1 hj.2.2) (fun j hj => ⟨hj.1, by have := hj.2.1; omega, by have := hj.2.1; omega⟩) _ _ c1, c2, c3⟩
    · rw [List.mem_singleton.1 hz]
      exact ⟨TreeAt.keep (fun j hj => a8 j (hP j hj).2.1 (hP j hj).2.2) (fun j hj => ⟨(hP j hj).1, by have := (hP j hj).2.1; omega, by have := (hP j hj).2.1; omega⟩) _ _ ht, h0, h1⟩
  · rcases a with ⟨rfl, rfl⟩ | ⟨q, rfl, b1, b2, b3⟩
    · trivial
    · simp only [Val.apart]; omega
theorem reader_run {l : List Nat} (hE : E.Has tabs05 l) (hf : ∀ f ∈ needRead, f ∈ l) : ∀ (n : Nat) (s : List UInt8) (f : Nat) (h : Heap) (base rb : Nat), s.length < n → 2 * s.length < f → h.Wf → Tables h → base ≤ rb → base ≤ h.size → 2 ≤ rb → h.get rb = some ⟨[.str s, .bool true], true, 0⟩ →
    CallV E base F.breed_reader_tree [.ptr rb 0] h (ReadPost rb h s f) := by
  intro n
  induction n with
  | zero => intro s f h base rb hn; omega
  | succ n IH =>
    intro s f h base rb hn hfu w tb hb hbs hr2 hr
    refine c_begin hE (hf _ (by decide)) rfl (by decide) (by decide) ?_
    simp only [T.breed_reader_tree, Frame.enterFrom, Nat.zero_add, Nat.reduceAdd]
    have hrs := w.lt hr
    have hsz : ∀ b, (h.set rb b).size = h.size := fun b => Heap.size_set h rb b hrs
    have wset : ∀ b, (h.set rb b).Wf := fun b => wf_set w hrs b
    have hftake : F.breed_reader_take ∈ l := hf _ (by decide)
    repeat' (first | (apply o_op; (solve | (conv => lhs; simp (disch := first | omega | (simp only [Val.cells, List.all_cons, List.all_nil, Val.one, Bool.and_self])) only [zev, zex, Val.one, List.length_cons, List.length_nil, Nat.reduceAdd, Option.map_some, Option.map_none, List.map_cons, List.map_nil, zva, ↓reduceIte, Nat.reduceEqDiff])); (solve | (conv => lhs; simp only [zfr, Nat.reduceEqDiff, Nat.reduceLT, ↓reduceIte]))) | (apply o_yes; (solve | (conv => lhs; simp only [zva, ↓reduceIte, Nat.reduceEqDiff])); (solve | rfl)) | (apply o_no; (solve | (conv => lhs; simp only [zva, ↓reduceIte, Nat.reduceEqDiff])); (solve | decide); (solve | (conv => lhs; simp only [zfr, Nat.reduceEqDiff, Nat.reduceLT, ↓reduceIte]))) | (apply o_not; (solve | (conv => lhs; simp only [zva, ↓reduceIte, Nat.reduceEqDiff])); (solve | (conv => lhs; simp only [zfr, Nat.reduceEqDiff, Nat.reduceLT, ↓reduceIte]))) | (apply o_if; (solve | (conv => lhs; simp only [zva, ↓reduceIte, Nat.reduceEqDiff])); (solve | (intro hbb; conv => lhs; simp (disch := first | omega | (simp only [Val.cells, List.all_cons, List.all_nil, Val.one, Bool.and_self])) only [zev, zex, Val.one, List.length_cons, List.length_nil, Nat.reduceAdd, Option.map_some, Option.map_none, List.map_cons, List.map_nil, zva, ↓reduceIte, Nat.reduceEqDiff, hbb])); (solve | (conv => lhs; simp only [zfr, Nat.reduceEqDiff, Nat.reduceLT, ↓reduceIte]))) | (apply o_end; (solve | (conv => lhs; simp only [zdr, inl, Nat.reduceEqDiff, or_false, or_true, ↓reduceIte]))) | apply g_seq | apply g_region | apply g_next | apply g_block | apply g_out | (apply g_true; (solve | (conv => lhs; simp only [zva, ↓reduceIte, Nat.reduceEqDiff]))) | (apply g_false; (solve | (conv => lhs; simp only [zva, ↓reduceIte, Nat.reduceEqDiff]))) | apply g_here | (apply g_past; (solve | decide)) | apply g_exit | apply g_retc | apply g_retb | apply g_ret | apply g_done)
    -- the end where nothing is read
    have none_end : ∀ (s' : List UInt8) (c : Int), rd 8 f s = none → s'.length ≤ s.length →
        At E base (.loop T.breed_reader_tree.c12) [.blk 0, .code T.breed_reader_tree.c31] [(0, .ptr rb 0), (4, .nils), (5, .int .i64 0)] (h.set rb (some ⟨[.str s', .bool false], true, 0⟩)) fun x fr' h' => (x = .norm ∨ x = .ret) ∧ ∃ vs, resultVals fr' h' T.breed_reader_tree.results = some vs ∧ ReadPost rb h s f (tuple vs) h' := by
      intro s' c hrd hl
      refine g_loop ?_
      have l1 : (h.set rb (some ⟨[.str s', .bool false], true, 0⟩)).load false 1 rb 1 = some (.bool false) := load_one get_set_self rfl
      repeat' (first | (apply o_op; (solve | (conv => lhs; simp (disch := first | omega | (simp only [Val.cells, List.all_cons, List.all_nil, Val.one, Bool.and_self])) only [zev, zex, Val.one, List.length_cons, List.length_nil, Nat.reduceAdd, Option.map_some, Option.map_none, List.map_cons, List.map_nil, zva, ↓reduceIte, Nat.reduceEqDiff, l1])); (solve | (conv => lhs; simp only [zfr, Nat.reduceEqDiff, Nat.reduceLT, ↓reduceIte]))) | (apply o_yes; (solve | (conv => lhs; simp only [zva, ↓reduceIte, Nat.reduceEqDiff, l1])); (solve | rfl)) | (apply o_no; (solve | (conv => lhs; simp only [zva, ↓reduceIte, Nat.reduceEqDiff, l1])); (solve | decide); (solve | (conv => lhs; simp only [zfr, Nat.reduceEqDiff, Nat.reduceLT, ↓reduceIte]))) | (apply o_not; (solve | (conv => lhs; simp only [zva, ↓reduceIte, Nat.reduceEqDiff])); (solve | (conv => lhs; simp only [zfr, Nat.reduceEqDiff, Nat.reduceLT, ↓reduceIte]))) | (apply o_if; (solve | (conv => lhs; simp only [zva, ↓reduceIte, Nat.reduceEqDiff])); (solve | (intro hbb; conv => lhs; simp (disch := first | omega | (simp only [Val.cells, List.all_cons, List.all_nil, Val.one, Bool.and_self])) only [zev, zex, Val.one, List.length_cons, List.length_nil, Nat.reduceAdd, Option.map_some, Option.map_none, List.map_cons, List.map_nil, zva, ↓reduceIte, Nat.reduceEqDiff, hbb, l1])); (solve | (conv => lhs; simp only [zfr, Nat.reduceEqDiff, Nat.reduceLT, ↓reduceIte]))) | (apply o_end; (solve | (conv => lhs; simp only [zdr, inl, Nat.reduceEqDiff, or_false, or_true, ↓reduceIte]))) | apply g_seq | apply g_region | apply g_next | apply g_block | apply g_out | (apply g_true; (solve | (conv => lhs; simp only [zva, ↓reduceIte, Nat.reduceEqDiff, l1]))) | (apply g_false; (solve | (conv => lhs; simp only [zva, ↓reduceIte, Nat.reduceEqDiff, l1]))) | apply g_here | (apply g_past; (solve | decide)) | apply g_exit | apply g_retc | apply g_retb | apply g_ret | apply g_done)
      refine ⟨.inr rfl, _, rfl, s', false, get_set_self, fun j _ hj => get_set_ne hj, wset _, by rw [hsz]; exact Nat.le_refl _, hl, by simp, fun _ => ⟨hrd, .inl rfl⟩⟩
    cases s with
    | nil =>
      (apply o_call; (solve | (conv => lhs; simp only [Callee.find, List.map_cons, List.map_nil, List.cons_append, List.nil_append, zva, ↓reduceIte, Nat.reduceEqDiff])))
      · exact take_empty hE hftake hb hr
      rintro _ _ ⟨rfl, rfl⟩
      (conv => arg 8; simp only [zfr, Nat.reduceEqDiff, Nat.reduceLT, ↓reduceIte])
      have l1 : (h.set rb (some ⟨[.str [], .bool false], true, 0⟩)).load false 1 rb 1 = some (.bool false) := load_one get_set_self rfl
      have s1 : (h.set rb (some ⟨[.str [], .bool false], true, 0⟩)).store base rb 1 [.bool false] = some (h.set rb (some ⟨[.str [], .bool false], true, 0⟩)) := by
        rw [store_one get_set_self hb rfl (by simp) rfl, set_set]; rfl
      have d1 : decide ((0 : Int) ≥ 48) = false := rfl
      repeat' (first | (apply o_op; (solve | (conv => lhs; simp (disch := first | omega | (simp only [Val.cells, List.all_cons, List.all_nil, Val.one, Bool.and_self])) only [zev, zex, Val.one, List.length_cons, List.length_nil, Nat.reduceAdd, Option.map_some, Option.map_none, List.map_cons, List.map_nil, zva, ↓reduceIte, Nat.reduceEqDiff, d1, l1, s1])); (solve | (conv => lhs; simp only [zfr, Nat.reduceEqDiff, Nat.reduceLT, ↓reduceIte]))) | (apply o_yes; (solve | (conv => lhs; simp only [zva, ↓reduceIte, Nat.reduceEqDiff, d1, l1, s1])); (solve | rfl)) | (apply o_no; (solve | (conv => lhs; simp only [zva, ↓reduceIte, Nat.reduceEqDiff, d1, l1, s1])); (solve | decide); (solve | (conv => lhs; simp only [zfr, Nat.reduceEqDiff, Nat.reduceLT, ↓reduceIte]))) | (apply o_not; (solve | (conv => lhs; simp only [zva, ↓reduceIte, Nat.reduceEqDiff])); (solve | (conv => lhs; simp only [zfr, Nat.reduceEqDiff, Nat.reduceLT, ↓reduceIte]))) | (apply o_if; (solve | (conv => lhs; simp only [zva, ↓reduceIte, Nat.reduceEqDiff])); (solve | (intro hbb; conv => lhs; simp (disch := first | omega | (simp only [Val.cells, List.all_cons, List.all_nil, Val.one, Bool.and_self])) only [zev, zex, Val.one, List.length_cons, List.length_nil, Nat.reduceAdd, Option.map_some, Option.map_none, List.map_cons, List.map_nil, zva, ↓reduceIte, Nat.reduceEqDiff, hbb, d1, l1, s1])); (solve | (conv => lhs; simp only [zfr, Nat.reduceEqDiff, Nat.reduceLT, ↓reduceIte]))) | (apply o_end; (solve | (conv => lhs; simp only [zdr, inl, Nat.reduceEqDiff, or_false, or_true, ↓reduceIte]))) | apply g_seq | apply g_region | apply g_next | apply g_block | apply g_out | (apply g_true; (solve | (conv => lhs; simp only [zva, ↓reduceIte, Nat.reduceEqDiff, d1, l1, s1]))) | (apply g_false; (solve | (conv => lhs; simp only [zva, ↓reduceIte, Nat.reduceEqDiff, d1, l1, s1]))) | apply g_here | (apply g_past; (solve | decide)) | apply g_exit | apply g_retc | apply g_retb | apply g_ret | apply g_done)
      exact none_end [] 0 rd_nil (Nat.le_refl _)
    | cons c r =>
      (apply o_call; (solve | (conv => lhs; simp only [Callee.find, List.map_cons, List.map_nil, List.cons_append, List.nil_append, zva, ↓reduceIte, Nat.reduceEqDiff])))
      · exact take_cons hE hftake hb hr
      rintro _ _ ⟨rfl, rfl⟩
      (conv => arg 8; simp only [zfr, Nat.reduceEqDiff, Nat.reduceLT, ↓reduceIte])
      obtain ⟨f, rfl⟩ : ∃ g, f = g + 1 := ⟨f - 1, by omega⟩
      have hc256 : c.toNat < 256 := c.toNat_lt
      by_cases hd : 48 ≤ c.toNat ∧ c.toNat ≤ 55
      · have d1 : decide ((c.toNat : Int) ≥ 48) = true := decide_eq_true (by omega)
        have d2 : decide ((c.toNat : Int) ≤ 55) = true := decide_eq_true (by omega)
        have w8 : Go.IntKind.wrap .u8 ((c.toNat : Int) - 48) = ((c.toNat - 48 : Nat) : Int) := by
          rw [_root_.Go.IntWalk.u8_in _ (by omega)]; omega
        have q8 : binOp .plain .shl (.int .i64 1) (.int .u8 ((c.toNat - 48 : Nat) : Int)) = some (.int .i64 ((2 ^ (c.toNat - 48) : Nat) : Int)) := b_shl1 (by omega)
        have f1 : fill [Val.int .i64 0] [(0, 1, .int .i64 ((2 ^ (c.toNat - 48) : Nat) : Int))] = some [.int .i64 ((2 ^ (c.toNat - 48) : Nat) : Int)] := rfl
        repeat' (first | (apply o_op; (solve | (conv => lhs; simp (disch := first | omega | (simp only [Val.cells, List.all_cons, List.all_nil, Val.one, Bool.and_self])) only [zev, zex, Val.one, List.length_cons, List.length_nil, Nat.reduceAdd, Option.map_some, Option.map_none, List.map_cons, List.map_nil, zva, ↓reduceIte, Nat.reduceEqDiff, d1, d2, w8, q8, f1])); (solve | (conv => lhs; simp only [zfr, Nat.reduceEqDiff, Nat.reduceLT, ↓reduceIte]))) | (apply o_yes; (solve | (conv => lhs; simp only [zva, ↓reduceIte, Nat.reduceEqDiff, d1, d2, w8, q8, f1])); (solve | rfl)) | (apply o_no; (solve | (conv => lhs; simp only [zva, ↓reduceIte, Nat.reduceEqDiff, d1, d2, w8, q8, f1])); (solve | decide); (solve | (conv => lhs; simp only [zfr, Nat.reduceEqDiff, Nat.reduceLT, ↓reduceIte]))) | (apply o_not; (solve | (conv => lhs; simp only [zva, ↓reduceIte, Nat.reduceEqDiff])); (solve | (conv => lhs; simp only [zfr, Nat.reduceEqDiff, Nat.reduceLT, ↓reduceIte]))) | (apply o_if; (solve | (conv => lhs; simp only [zva, ↓reduceIte, Nat.reduceEqDiff])); (solve | (intro hbb; conv => lhs; simp (disch := first | omega | (simp only [Val.cells, List.all_cons, List.all_nil, Val.one, Bool.and_self])) only [zev, zex, Val.one, List.length_cons, List.length_nil, Nat.reduceAdd, Option.map_some, Option.map_none, List.map_cons, List.map_nil, zva, ↓reduceIte, Nat.reduceEqDiff, hbb, d1, d2, w8, q8, f1])); (solve | (conv => lhs; simp only [zfr, Nat.reduceEqDiff, Nat.reduceLT, ↓reduceIte]))) | (apply o_end; (solve | (conv => lhs; simp only [zdr, inl, Nat.reduceEqDiff, or_false, or_true, ↓reduceIte]))) | apply g_seq | apply g_region | apply g_next | apply g_block | apply g_out | (apply g_true; (solve | (conv => lhs; simp only [zva, ↓reduceIte, Nat.reduceEqDiff, d1, d2, w8, q8, f1]))) | (apply g_false; (solve | (conv => lhs; simp only [zva, ↓reduceIte, Nat.reduceEqDiff, d1, d2, w8, q8, f1]))) | apply g_here | (apply g_past; (solve | decide)) | apply g_exit | apply g_retc | apply g_retb | apply g_ret | apply g_done)
        refine ⟨.inr rfl, _, rfl, r, true, get_set_self, fun j _ hj => get_set_ne hj, wset _, by rw [hsz]; exact Nat.le_refl _, by simp, fun _ => ⟨.leaf (2 ^ (c.toNat - 48)), ?_, ?_⟩, by simp⟩
        · rw [rd_cons, if_pos ⟨hd.1, by omega⟩]
        · simp [tuple, Frame.get, TreeAt]
      · have hrd : rd 8 (f + 1) (c :: r) = if c = 40 then rdL 8 f [] r else none := by rw [rd_cons, if_neg (by omega)]
        have d1 : (decide ((c.toNat : Int) ≥ 48) && decide ((c.toNat : Int) ≤ 55)) = false := by
          rw [Bool.eq_false_iff]
          intro hh
          simp only [Bool.and_eq_true, decide_eq_true_eq] at hh
          omega
        have l1 : (h.set rb (some ⟨[.str r, .bool true], true, 0⟩)).load false 1 rb 1 = some (.bool true) := load_one get_set_self rfl
        by_cases hc : c = 40
        · have hc' : c.toNat = 40 := by rw [hc]; rfl
          have e1 : ((c.toNat : Int) == 40) = true := by simp [hc']
          have s1 : (h.set rb (some ⟨[.str r, .bool true], true, 0⟩)).store base rb 1 [.bool true] = some (h.set rb (some ⟨[.str r, .bool true], true, 0⟩)) := by
            rw [store_one get_set_self hb rfl (by simp) rfl, set_set]; rfl
          repeat' (first | (apply o_op; (solve | (conv => lhs; simp (disch := first | omega | (simp only [Val.cells, List.all_cons, List.all_nil, Val.one, Bool.and_self])) only [zev, zex, Val.one, List.length_cons, List.length_nil, Nat.reduceAdd, Option.map_some, Option.map_none, List.map_cons, List.map_nil, zva, ↓reduceIte, Nat.reduceEqDiff, d1, l1, e1, s1])); (solve | (conv => lhs; simp only [zfr, Nat.reduceEqDiff, Nat.reduceLT, ↓reduceIte]))) | (apply o_yes; (solve | (conv => lhs; simp only [zva, ↓reduceIte, Nat.reduceEqDiff, d1, l1, e1, s1])); (solve | rfl)) | (apply o_no; (solve | (conv => lhs; simp only [zva, ↓reduceIte, Nat.reduceEqDiff, d1, l1, e1, s1])); (solve | decide); (solve | (conv => lhs; simp only [zfr, Nat.reduceEqDiff, Nat.reduceLT, ↓reduceIte]))) | (apply o_not; (solve | (conv => lhs; simp only [zva, ↓reduceIte, Nat.reduceEqDiff])); (solve | (conv => lhs; simp only [zfr, Nat.reduceEqDiff, Nat.reduceLT, ↓reduceIte]))) | (apply o_if; (solve | (conv => lhs; simp only [zva, ↓reduceIte, Nat.reduceEqDiff])); (solve | (intro hbb; conv => lhs; simp (disch := first | omega | (simp only [Val.cells, List.all_cons, List.all_nil, Val.one, Bool.and_self])) only [zev, zex, Val.one, List.length_cons, List.length_nil, Nat.reduceAdd, Option.map_some, Option.map_none, List.map_cons, List.map_nil, zva, ↓reduceIte, Nat.reduceEqDiff, hbb, d1, l1, e1, s1])); (solve | (conv => lhs; simp only [zfr, Nat.reduceEqDiff, Nat.reduceLT, ↓reduceIte]))) | (apply o_end; (solve | (conv => lhs; simp only [zdr, inl, Nat.reduceEqDiff, or_false, or_true, ↓reduceIte]))) | apply g_seq | apply g_region | apply g_next | apply g_block | apply g_out | (apply g_true; (solve | (conv => lhs; simp only [zva, ↓reduceIte, Nat.reduceEqDiff, d1, l1, e1, s1]))) | (apply g_false; (solve | (conv => lhs; simp only [zva, ↓reduceIte, Nat.reduceEqDiff, d1, l1, e1, s1]))) | apply g_here | (apply g_past; (solve | decide)) | apply g_exit | apply g_retc | apply g_retb | apply g_ret | apply g_done)
          have hrd' : rd 8 (f + 1) (c :: r) = rdL 8 f [] r := by rw [hrd, if_pos hc]
          have hsr : r.length ≤ (c :: r).length := by simp
          refine loop_ind (fun m fr h2 => ∃ (lv : Val) (zs : List Z) (q : List UInt8) (ok : Bool) (ex : Frame) (all : Nat), fr = [(0, .ptr rb 0), (4, lv), (5, .int .i64 (all : Int))] ++ ex ∧ (ex = [] ∨ ex = [(99, .bool true)]) ∧ h2.get rb = some ⟨[.str q, .bool ok], true, 0⟩ ∧
            (∀ j, j < h.size → j ≠ rb → h2.get j = h.get j) ∧ h2.Wf ∧ h.size ≤ h2.size ∧ q.length ≤ r.length ∧
            (ok = true → m = q.length + 1 ∧ ListAt h.size h2 lv zs ∧ AccOk 8 (zs.map (·.1)) ∧ all = union (zs.map (·.1)) ∧ ∃ g, rdL 8 f [] r = rdL 8 g (zs.map (·.1)) q ∧ 2 * q.length + 1 < g) ∧ (ok = false → rdL 8 f [] r = none)) ?_ (r.length + 1) _ _
            ⟨.nils, [], r, true, [], 0, rfl, .inl rfl, get_set_self, fun j _ hj => get_set_ne hj, wset _, by rw [hsz]; exact Nat.le_refl _, Nat.le_refl _, fun _ => ⟨rfl, .inl ⟨rfl, rfl⟩, AccOk.nil, rfl, f, rfl, by simp only [List.length_cons] at hfu; omega⟩, by simp⟩
          rintro m fr h2 ⟨lv, zs, q, ok, ex, all, rfl, hex, hg2, ho2, w2, hs2, hql, hok, hno⟩ ih
          have l2 : h2.load false 1 rb 1 = some (.bool ok) := load_one hg2 rfl
          have rest : At E base T.breed_reader_tree.c14 [.code T.breed_reader_tree.c15, .code (.loop T.breed_reader_tree.c12), .blk 0, .code T.breed_reader_tree.c31] [(0, .ptr rb 0), (4, lv), (5, .int .i64 (all : Int)), (34, .bool ok)] h2 fun x fr' h' => (x = .norm ∨ x = .ret) ∧ ∃ vs, resultVals fr' h' [RV.tmp 2] = some vs ∧ ReadPost rb h (c :: r) (f + 1) (tuple vs) h' := by
            cases ok with
            | false =>
              repeat' (first | (apply o_op; (solve | (conv => lhs; simp (disch := first | omega | (simp only [Val.cells, List.all_cons, List.all_nil, Val.one, Bool.and_self])) only [zev, zex, Val.one, List.length_cons, List.length_nil, Nat.reduceAdd, Option.map_some, Option.map_none, List.map_cons, List.map_nil, zva, ↓reduceIte, Nat.reduceEqDiff])); (solve | (conv => lhs; simp only [zfr, Nat.reduceEqDiff, Nat.reduceLT, ↓reduceIte]))) | (apply o_yes; (solve | (conv => lhs; simp only [zva, ↓reduceIte, Nat.reduceEqDiff])); (solve | rfl)) | (apply o_no; (solve | (conv => lhs; simp only [zva, ↓reduceIte, Nat.reduceEqDiff])); (solve | decide); (solve | (conv => lhs; simp only [zfr, Nat.reduceEqDiff, Nat.reduceLT, ↓reduceIte]))) | (apply o_not; (solve | (conv => lhs; simp only [zva, ↓reduceIte, Nat.reduceEqDiff])); (solve | (conv => lhs; simp only [zfr, Nat.reduceEqDiff, Nat.reduceLT, ↓reduceIte]))) | (apply o_if; (solve | (conv => lhs; simp only [zva, ↓reduceIte, Nat.reduceEqDiff])); (solve | (intro hbb; conv => lhs; simp (disch := first | omega | (simp only [Val.cells, List.all_cons, List.all_nil, Val.one, Bool.and_self])) only [zev, zex, Val.one, List.length_cons, List.length_nil, Nat.reduceAdd, Option.map_some, Option.map_none, List.map_cons, List.map_nil, zva, ↓reduceIte, Nat.reduceEqDiff, hbb])); (solve | (conv => lhs; simp only [zfr, Nat.reduceEqDiff, Nat.reduceLT, ↓reduceIte]))) | (apply o_end; (solve | (conv => lhs; simp only [zdr, inl, Nat.reduceEqDiff, or_false, or_true, ↓reduceIte]))) | apply g_seq | apply g_region | apply g_next | apply g_block | apply g_out | (apply g_true; (solve | (conv => lhs; simp only [zva, ↓reduceIte, Nat.reduceEqDiff]))) | (apply g_false; (solve | (conv => lhs; simp only [zva, ↓reduceIte, Nat.reduceEqDiff]))) | apply g_here | (apply g_past; (solve | decide)) | apply g_exit | apply g_retc | apply g_retb | apply g_ret | apply g_done)
              exact ⟨.inr rfl, _, rfl, q, false, hg2, ho2, w2, hs2, by simp only [List.length_cons]; omega, by simp, fun _ => ⟨by rw [hrd']; exact hno rfl, .inl rfl⟩⟩
            | true =>
              obtain ⟨rfl, hla, hao, rfl, g, hrg, hg⟩ := hok rfl
              obtain ⟨g, rfl⟩ : ∃ g', g = g' + 1 := ⟨g - 1, by omega⟩
              have keepT : ∀ g : Heap, (∀ j, j < h.size → j ≠ rb → g.get j = h.get j) → Tables g := by
                intro g hk
                obtain ⟨⟨b0, hb0, hb0'⟩, ⟨b1, hb1, hb1'⟩⟩ := tb
                exact ⟨⟨b0, by rw [hk _ (w.lt hb0) (by omega)]; exact hb0, hb0'⟩, ⟨b1, by rw [hk _ (w.lt hb1) (by omega)]; exact hb1, hb1'⟩⟩
              simp only [List.length_cons] at hn hfu
              repeat' (first | (apply o_op; (solve | (conv => lhs; simp (disch := first | omega | (simp only [Val.cells, List.all_cons, List.all_nil, Val.one, Bool.and_self])) only [zev, zex, Val.one, List.length_cons, List.length_nil, Nat.reduceAdd, Option.map_some, Option.map_none, List.map_cons, List.map_nil, zva, ↓reduceIte, Nat.reduceEqDiff])); (solve | (conv => lhs; simp only [zfr, Nat.reduceEqDiff, Nat.reduceLT, ↓reduceIte]))) | (apply o_yes; (solve | (conv => lhs; simp only [zva, ↓reduceIte, Nat.reduceEqDiff])); (solve | rfl)) | (apply o_no; (solve | (conv => lhs; simp only [zva, ↓reduceIte, Nat.reduceEqDiff])); (solve | decide); (solve | (conv => lhs; simp only [zfr, Nat.reduceEqDiff, Nat.reduceLT, ↓reduceIte]))) | (apply o_not; (solve | (conv => lhs; simp only [zva, ↓reduceIte, Nat.reduceEqDiff])); (solve | (conv => lhs; simp only [zfr, Nat.reduceEqDiff, Nat.reduceLT, ↓reduceIte]))) | (apply o_if; (solve | (conv => lhs; simp only [zva, ↓reduceIte, Nat.reduceEqDiff])); (solve | (intro hbb; conv => lhs; simp (disch := first | omega | (simp only [Val.cells, List.all_cons, List.all_nil, Val.one, Bool.and_self])) only [zev, zex, Val.one, List.length_cons, List.length_nil, Nat.reduceAdd, Option.map_some, Option.map_none, List.map_cons, List.map_nil, zva, ↓reduceIte, Nat.reduceEqDiff, hbb])); (solve | (conv => lhs; simp only [zfr, Nat.reduceEqDiff, Nat.reduceLT, ↓reduceIte]))) | (apply o_end; (solve | (conv => lhs; simp only [zdr, inl, Nat.reduceEqDiff, or_false, or_true, ↓reduceIte]))) | apply g_seq | apply g_region | apply g_next | apply g_block | apply g_out | (apply g_true; (solve | (conv => lhs; simp only [zva, ↓reduceIte, Nat.reduceEqDiff]))) | (apply g_false; (solve | (conv => lhs; simp only [zva, ↓reduceIte, Nat.reduceEqDiff]))) | apply g_here | (apply g_past; (solve | decide)) | apply g_exit | apply g_retc | apply g_retb | apply g_ret | apply g_done)
              (apply o_call; (solve | (conv => lhs; simp only [Callee.find, List.map_cons, List.map_nil, List.cons_append, List.nil_append, zva, ↓reduceIte, Nat.reduceEqDiff])))
              · exact IH q g h2 base rb (by omega) (by omega) w2 (keepT h2 ho2) hb (by omega) hr2 hg2
              rintro v h3 ⟨q', ok3, p1, p2, p3, p4, p5, p6, p7⟩
              (conv => arg 8; simp only [zfr, Nat.reduceEqDiff, Nat.reduceLT, ↓reduceIte])
              have ho3 : ∀ j, j < h.size → j ≠ rb → h3.get j = h.get j := fun j hj hjr => by rw [p2 j (by omega) hjr, ho2 j hj hjr]
              have la3 : ListAt h.size h3 lv zs := hla.keep w2 (fun j hN hj => p2 j hj (by omega)) p4
              have hzl : zs.length ≤ 8 := by simpa using few_parts hao.2.2
              have hul : union (zs.map (·.1)) < 256 := lt_256.2 fun i hi => by
                obtain ⟨t, ht, h⟩ := bit_union.1 hi
                exact (hao.1 t ht).2 i h
              have hrL : rdL 8 f [] r = rdNext 8 g (zs.map (·.1)) (rd 8 g q) := by rw [hrg, rdL_next]
              have tail : ∀ (okb : Bool) (t : Tr), TreeAt (fun j => h2.size ≤ j ∧ j < h3.size) h3 t v → t.set ≠ 0 → t.set < 256 → (okb = true → rd 8 g q = some (t, q') ∧ t.V ∧ t.set &&& union (zs.map (·.1)) = 0 ∧ lastLt (zs.map (·.1)) t = true) → (okb = false → rdL 8 f [] r = none) →
                  At E base T.breed_reader_tree.c21 [.blk 1, .code (.loop T.breed_reader_tree.c12), .blk 0, .code T.breed_reader_tree.c31] [(0, .ptr rb 0), (4, lv), (5, .int .i64 (union (zs.map (·.1)) : Int)), (6, v)] (h3.set rb (some ⟨[.str q', .bool okb], true, 0⟩)) fun x fr' h' => (x = .norm ∨ x = .ret) ∧ ∃ vs, resultVals fr' h' [RV.tmp 2] = some vs ∧ ReadPost rb h (c :: r) (f + 1) (tuple vs) h' := by
                intro okb t ht h0 h1 hy hn'
                obtain ⟨ty, cs, rfl, hty⟩ := ht.iface
                have hrs3 : rb < h3.size := by omega
                have w4 := wf_set p3 hrs3 (some ⟨[.str q', .bool okb], true, 0⟩)
                have s4 := Heap.size_set h3 rb (some ⟨[.str q', .bool okb], true, 0⟩) hrs3
                have g4 : (h3.set rb (some ⟨[.str q', .bool okb], true, 0⟩)).get rb = some ⟨[.str q', .bool okb], true, 0⟩ := get_set_self
                have k4 : ∀ j, j ≠ rb → (h3.set rb (some ⟨[.str q', .bool okb], true, 0⟩)).get j = h3.get j := fun j hj => get_set_ne hj
                generalize h3.set rb (some ⟨[.str q', .bool okb], true, 0⟩) = h4 at w4 s4 g4 k4
                have ht4 : TreeAt (fun j => h2.size ≤ j ∧ j < h3.size) h4 t (.iface ty (.agg (.int .i64 (t.set : Int) :: cs))) := TreeAt.keep (fun j hj => k4 j (by have := hj.1; omega)) (fun _ p => p) _ _ ht
                have la4 : ListAt h.size h4 lv zs := la3.keep p3 (fun j hN hj => k4 j (by omega)) (by omega)
                repeat' (first | (apply o_op; (solve | (conv => lhs; simp (disch := first | omega | (simp only [Val.cells, List.all_cons, List.all_nil, Val.one, Bool.and_self])) only [zev, zex, Val.one, List.length_cons, List.length_nil, Nat.reduceAdd, Option.map_some, Option.map_none, List.map_cons, List.map_nil, zva, ↓reduceIte, Nat.reduceEqDiff])); (solve | (conv => lhs; simp only [zfr, Nat.reduceEqDiff, Nat.reduceLT, ↓reduceIte]))) | (apply o_yes; (solve | (conv => lhs; simp only [zva, ↓reduceIte, Nat.reduceEqDiff])); (solve | rfl)) | (apply o_no; (solve | (conv => lhs; simp only [zva, ↓reduceIte, Nat.reduceEqDiff])); (solve | decide); (solve | (conv => lhs; simp only [zfr, Nat.reduceEqDiff, Nat.reduceLT, ↓reduceIte]))) | (apply o_not; (solve | (conv => lhs; simp only [zva, ↓reduceIte, Nat.reduceEqDiff])); (solve | (conv => lhs; simp only [zfr, Nat.reduceEqDiff, Nat.reduceLT, ↓reduceIte]))) | (apply o_if; (solve | (conv => lhs; simp only [zva, ↓reduceIte, Nat.reduceEqDiff])); (solve | (intro hbb; conv => lhs; simp (disch := first | omega | (simp only [Val.cells, List.all_cons, List.all_nil, Val.one, Bool.and_self])) only [zev, zex, Val.one, List.length_cons, List.length_nil, Nat.reduceAdd, Option.map_some, Option.map_none, List.map_cons, List.map_nil, zva, ↓reduceIte, Nat.reduceEqDiff, hbb])); (solve | (conv => lhs; simp only [zfr, Nat.reduceEqDiff, Nat.reduceLT, ↓reduceIte]))) | (apply o_end; (solve | (conv => lhs; simp only [zdr, inl, Nat.reduceEqDiff, or_false, or_true, ↓reduceIte]))) | apply g_seq | apply g_region | apply g_next | apply g_block | apply g_out | (apply g_true; (solve | (conv => lhs; simp only [zva, ↓reduceIte, Nat.reduceEqDiff]))) | (apply g_false; (solve | (conv => lhs; simp only [zva, ↓reduceIte, Nat.reduceEqDiff]))) | apply g_here | (apply g_past; (solve | decide)) | apply g_exit | apply g_retc | apply g_retb | apply g_ret | apply g_done)
                refine o_beasts hE (hf _ (by decide)) (by simp only [zva, ↓reduceIte, Nat.reduceEqDiff]) ht4 rfl ?_
                (conv => arg 8; simp only [zfr, Nat.reduceEqDiff, Nat.reduceLT, ↓reduceIte])
                have f1 : fill [Val.nili] [(0, 1, .iface ty (.agg (.int .i64 (t.set : Int) :: cs)))] = some [.iface ty (.agg (.int .i64 (t.set : Int) :: cs))] := rfl
                have f2 := buildSliceV_new (h := h4) (base := base) (esz := 1) (n0 := 1) (cs := [.iface ty (.agg (.int .i64 (t.set : Int) :: cs))]) rfl
                have hap : ∀ j, h2.size ≤ j ∧ j < h3.size → h.size ≤ j ∧ j < h4.size ∧ lv.apart j := fun j hj => ⟨by omega, by omega, by
                  rcases hla with ⟨rfl, _⟩ | ⟨k0, rfl, _, hk0, _⟩
                  · trivial
                  · have := w2.lt hk0
                    simp only [Val.apart]; omega⟩
                obtain ⟨h5, k5, a1, a2, a3, a4, a5, a6⟩ := la4.snoc (base := base) (by omega) w4 hbs hap ht4 h0 h1 (by omega)
                repeat' (first | (apply o_op; (solve | (conv => lhs; simp (disch := first | omega | (simp only [Val.cells, List.all_cons, List.all_nil, Val.one, Bool.and_self])) only [zev, zex, Val.one, List.length_cons, List.length_nil, Nat.reduceAdd, Option.map_some, Option.map_none, List.map_cons, List.map_nil, zva, ↓reduceIte, Nat.reduceEqDiff, f1, f2, a1])); (solve | (conv => lhs; simp only [zfr, Nat.reduceEqDiff, Nat.reduceLT, ↓reduceIte]))) | (apply o_yes; (solve | (conv => lhs; simp only [zva, ↓reduceIte, Nat.reduceEqDiff, f1, f2, a1])); (solve | rfl)) | (apply o_no; (solve | (conv => lhs; simp only [zva, ↓reduceIte, Nat.reduceEqDiff, f1, f2, a1])); (solve | decide); (solve | (conv => lhs; simp only [zfr, Nat.reduceEqDiff, Nat.reduceLT, ↓reduceIte]))) | (apply o_not; (solve | (conv => lhs; simp only [zva, ↓reduceIte, Nat.reduceEqDiff])); (solve | (conv => lhs; simp only [zfr, Nat.reduceEqDiff, Nat.reduceLT, ↓reduceIte]))) | (apply o_if; (solve | (conv => lhs; simp only [zva, ↓reduceIte, Nat.reduceEqDiff])); (solve | (intro hbb; conv => lhs; simp (disch := first | omega | (simp only [Val.cells, List.all_cons, List.all_nil, Val.one, Bool.and_self])) only [zev, zex, Val.one, List.length_cons, List.length_nil, Nat.reduceAdd, Option.map_some, Option.map_none, List.map_cons, List.map_nil, zva, ↓reduceIte, Nat.reduceEqDiff, hbb, f1, f2, a1])); (solve | (conv => lhs; simp only [zfr, Nat.reduceEqDiff, Nat.reduceLT, ↓reduceIte]))) | (apply o_end; (solve | (conv => lhs; simp only [zdr, inl, Nat.reduceEqDiff, or_false, or_true, ↓reduceIte]))) | apply g_seq | apply g_region | apply g_next | apply g_block | apply g_out | (apply g_true; (solve | (conv => lhs; simp only [zva, ↓reduceIte, Nat.reduceEqDiff, f1, f2, a1]))) | (apply g_false; (solve | (conv => lhs; simp only [zva, ↓reduceIte, Nat.reduceEqDiff, f1, f2, a1]))) | apply g_here | (apply g_past; (solve | decide)) | apply g_exit | apply g_retc | apply g_retb | apply g_ret | apply g_done)
                have g5 : h5.get rb = some ⟨[.str q', .bool okb], true, 0⟩ := by rw [a6 rb hrs]; exact g4
                have hrs5 : rb < h5.size := by omega
                have ho5 : ∀ j, j < h.size → j ≠ rb → h5.get j = h.get j := fun j hj hjr => by rw [a6 j hj, k4 j hjr, ho3 j hj hjr]
                have s5 := fun b => Heap.size_set h5 rb b hrs5
                have w5 := fun b => wf_set a3 hrs5 b
                have ho6 : ∀ b j, j < h.size → j ≠ rb → (h5.set rb b).get j = h.get j := fun b j hj hjr => by rw [get_set_ne hjr]; exact ho5 j hj hjr
                have la6 : ∀ b, ListAt h.size (h5.set rb b) (.slice k5 0 (zs.length + 1) none) (zs ++ [(t, .iface ty (.agg (.int .i64 (t.set : Int) :: cs)))]) := fun b => a2.keep a3 (fun j hN hj => get_set_ne (by omega)) (by rw [s5]; exact Nat.le_refl _)
                have hmap : (zs ++ [(t, (.iface ty (.agg (.int .i64 (t.set : Int) :: cs)) : Val))]).map (·.1) = zs.map (·.1) ++ [t] := by simp
                have hun : union (zs.map (·.1)) ||| t.set = union (zs.map (·.1) ++ [t]) := by simp [union]
                -- the loop goes on where nothing more is read
                have stop : ∀ (s' : List UInt8), s'.length ≤ q'.length → rdL 8 f [] r = none → ∀ ex : Frame, (ex = [] ∨ ex = [(99, .bool true)]) →
                    At E base (.loop T.breed_reader_tree.c12) [.blk 0, .code T.breed_reader_tree.c31] ([(0, .ptr rb 0), (4, .slice k5 0 (zs.length + 1) none), (5, .int .i64 ((union (zs.map (·.1)) ||| t.set : Nat) : Int))] ++ ex) (h5.set rb (some ⟨[.str s', .bool false], true, 0⟩)) fun x fr' h' => (x = .norm ∨ x = .ret) ∧ ∃ vs, resultVals fr' h' [RV.tmp 2] = some vs ∧ ReadPost rb h (c :: r) (f + 1) (tuple vs) h' := by
                  intro s' hs' hno' ex hex'
                  refine ih 0 _ _ (by omega) ⟨_, zs, s', false, ex, _, rfl, hex', get_set_self, ho6 _, w5 _, by rw [s5]; omega, by omega, by simp, fun _ => hno'⟩
                have failN : ∀ x, rd 8 g q = x → rdNext 8 g (zs.map (·.1)) x = none → rdL 8 f [] r = none := fun x e1 e2 => by rw [hrL, e1, e2]
                cases q' with
                | nil =>
                  (apply o_call; (solve | (conv => lhs; simp only [Callee.find, List.map_cons, List.map_nil, List.cons_append, List.nil_append, zva, ↓reduceIte, Nat.reduceEqDiff])))
                  · exact take_empty hE hftake hb g5
                  rintro _ _ ⟨rfl, rfl⟩
                  (conv => arg 8; simp only [zfr, Nat.reduceEqDiff, Nat.reduceLT, ↓reduceIte])
                  have l6 : (h5.set rb (some ⟨[.str [], .bool false], true, 0⟩)).load false 1 rb 1 = some (.bool false) := load_one get_set_self rfl
                  have st6 : (h5.set rb (some ⟨[.str [], .bool false], true, 0⟩)).store base rb 1 [.bool false] = some (h5.set rb (some ⟨[.str [], .bool false], true, 0⟩)) := by
                    rw [store_one get_set_self hb rfl (by simp) rfl, set_set]; rfl
                  have z1 : ((0 : Int) == 41) = false := rfl
                  have z2 : ((0 : Int) == 44) = false := rfl
                  repeat' (first | (apply o_op; (solve | (conv => lhs; simp (disch := first | omega | (simp only [Val.cells, List.all_cons, List.all_nil, Val.one, Bool.and_self])) only [zev, zex, Val.one, List.length_cons, List.length_nil, Nat.reduceAdd, Option.map_some, Option.map_none, List.map_cons, List.map_nil, zva, ↓reduceIte, Nat.reduceEqDiff, l6, st6, z1, z2])); (solve | (conv => lhs; simp only [zfr, Nat.reduceEqDiff, Nat.reduceLT, ↓reduceIte]))) | (apply o_yes; (solve | (conv => lhs; simp only [zva, ↓reduceIte, Nat.reduceEqDiff, l6, st6, z1, z2])); (solve | rfl)) | (apply o_no; (solve | (conv => lhs; simp only [zva, ↓reduceIte, Nat.reduceEqDiff, l6, st6, z1, z2])); (solve | decide); (solve | (conv => lhs; simp only [zfr, Nat.reduceEqDiff, Nat.reduceLT, ↓reduceIte]))) | (apply o_not; (solve | (conv => lhs; simp only [zva, ↓reduceIte, Nat.reduceEqDiff])); (solve | (conv => lhs; simp only [zfr, Nat.reduceEqDiff, Nat.reduceLT, ↓reduceIte]))) | (apply o_if; (solve | (conv => lhs; simp only [zva, ↓reduceIte, Nat.reduceEqDiff])); (solve | (intro hbb; conv => lhs; simp (disch := first | omega | (simp only [Val.cells, List.all_cons, List.all_nil, Val.one, Bool.and_self])) only [zev, zex, Val.one, List.length_cons, List.length_nil, Nat.reduceAdd, Option.map_some, Option.map_none, List.map_cons, List.map_nil, zva, ↓reduceIte, Nat.reduceEqDiff, hbb, l6, st6, z1, z2])); (solve | (conv => lhs; simp only [zfr, Nat.reduceEqDiff, Nat.reduceLT, ↓reduceIte]))) | (apply o_end; (solve | (conv => lhs; simp only [zdr, inl, Nat.reduceEqDiff, or_false, or_true, ↓reduceIte]))) | apply g_seq | apply g_region | apply g_next | apply g_block | apply g_out | (apply g_true; (solve | (conv => lhs; simp only [zva, ↓reduceIte, Nat.reduceEqDiff, l6, st6, z1, z2]))) | (apply g_false; (solve | (conv => lhs; simp only [zva, ↓reduceIte, Nat.reduceEqDiff, l6, st6, z1, z2]))) | apply g_here | (apply g_past; (solve | decide)) | apply g_exit | apply g_retc | apply g_retb | apply g_ret | apply g_done)
                  refine stop [] (Nat.le_refl _) ?_ [] (.inl rfl)
                  cases okb with
                  | false => exact hn' rfl
                  | true =>
                    obtain ⟨y1, y2, y3, y4⟩ := hy rfl
                    exact failN _ y1 (by simp [rdNext])
                | cons c' q' =>
                  have hc256' : c'.toNat < 256 := c'.toNat_lt
                  simp only [List.length_cons] at p5
                  (apply o_call; (solve | (conv => lhs; simp only [Callee.find, List.map_cons, List.map_nil, List.cons_append, List.nil_append, zva, ↓reduceIte, Nat.reduceEqDiff])))
                  · exact take_cons hE hftake hb g5
                  rintro _ _ ⟨rfl, rfl⟩
                  (conv => arg 8; simp only [zfr, Nat.reduceEqDiff, Nat.reduceLT, ↓reduceIte])
                  have l6 : (h5.set rb (some ⟨[.str q', .bool okb], true, 0⟩)).load false 1 rb 1 = some (.bool okb) := load_one get_set_self rfl
                  have st6 : ∀ b, (h5.set rb (some ⟨[.str q', .bool okb], true, 0⟩)).store base rb 1 [.bool b] = some (h5.set rb (some ⟨[.str q', .bool b], true, 0⟩)) := fun b => by
                    rw [store_one get_set_self hb rfl (by simp) rfl, set_set]; rfl
                  by_cases h41 : c' = 41
                  · have e41 : ((c'.toNat : Int) == 41) = true := by rw [h41]; rfl
                    have egt : decide ((((zs.length + 1 : Nat)) : Int) > 1) = decide (1 ≤ zs.length) := by
                      by_cases hz : 1 ≤ zs.length
                      · rw [decide_eq_true hz, decide_eq_true (by omega)]
                      · rw [decide_eq_false hz, decide_eq_false (by omega)]
                    generalize h5.set rb (some ⟨[.str q', .bool okb], true, 0⟩) = h6 at l6 st6 ⊢
                    repeat' (first | (apply o_op; (solve | (conv => lhs; simp (disch := first | omega | (simp only [Val.cells, List.all_cons, List.all_nil, Val.one, Bool.and_self])) only [zev, zex, Val.one, List.length_cons, List.length_nil, Nat.reduceAdd, Option.map_some, Option.map_none, List.map_cons, List.map_nil, zva, ↓reduceIte, Nat.reduceEqDiff, l6, e41, egt, st6])); (solve | (conv => lhs; simp only [zfr, Nat.reduceEqDiff, Nat.reduceLT, ↓reduceIte]))) | (apply o_yes; (solve | (conv => lhs; simp only [zva, ↓reduceIte, Nat.reduceEqDiff, l6, e41, egt, st6])); (solve | rfl)) | (apply o_no; (solve | (conv => lhs; simp only [zva, ↓reduceIte, Nat.reduceEqDiff, l6, e41, egt, st6])); (solve | decide); (solve | (conv => lhs; simp only [zfr, Nat.reduceEqDiff, Nat.reduceLT, ↓reduceIte]))) | (apply o_not; (solve | (conv => lhs; simp only [zva, ↓reduceIte, Nat.reduceEqDiff])); (solve | (conv => lhs; simp only [zfr, Nat.reduceEqDiff, Nat.reduceLT, ↓reduceIte]))) | (apply o_if; (solve | (conv => lhs; simp only [zva, ↓reduceIte, Nat.reduceEqDiff])); (solve | (intro hbb; conv => lhs; simp (disch := first | omega | (simp only [Val.cells, List.all_cons, List.all_nil, Val.one, Bool.and_self])) only [zev, zex, Val.one, List.length_cons, List.length_nil, Nat.reduceAdd, Option.map_some, Option.map_none, List.map_cons, List.map_nil, zva, ↓reduceIte, Nat.reduceEqDiff, hbb, l6, e41, egt, st6])); (solve | (conv => lhs; simp only [zfr, Nat.reduceEqDiff, Nat.reduceLT, ↓reduceIte]))) | (apply o_end; (solve | (conv => lhs; simp only [zdr, inl, Nat.reduceEqDiff, or_false, or_true, ↓reduceIte]))) | apply g_seq | apply g_region | apply g_next | apply g_block | apply g_out | (apply g_true; (solve | (conv => lhs; simp only [zva, ↓reduceIte, Nat.reduceEqDiff, l6, e41, egt, st6]))) | (apply g_false; (solve | (conv => lhs; simp only [zva, ↓reduceIte, Nat.reduceEqDiff, l6, e41, egt, st6]))) | apply g_here | (apply g_past; (solve | decide)) | apply g_exit | apply g_retc | apply g_retb | apply g_ret | apply g_done)
                    obtain ⟨kk, hkk, hk1, hk2, hk3⟩ : ∃ k0, Val.slice k5 0 (zs.length + 1) none = .slice k0 0 (zs ++ [(t, (.iface ty (.agg (.int .i64 (t.set : Int) :: cs)) : Val))]).length none ∧ h.size ≤ k0 ∧ (h5.set rb (some ⟨[.str q', .bool (okb && decide (1 ≤ zs.length))], true, 0⟩)).get k0 = some ⟨cellsZ (zs ++ [(t, (.iface ty (.agg (.int .i64 (t.set : Int) :: cs)) : Val))]), true, 1⟩ ∧ TreesZ (fun j => h.size ≤ j ∧ j < (h5.set rb (some ⟨[.str q', .bool (okb && decide (1 ≤ zs.length))], true, 0⟩)).size ∧ j ≠ k0) (h5.set rb (some ⟨[.str q', .bool (okb && decide (1 ≤ zs.length))], true, 0⟩)) (zs ++ [(t, (.iface ty (.agg (.int .i64 (t.set : Int) :: cs)) : Val))]) := by
                      rcases la6 (some ⟨[.str q', .bool (okb && decide (1 ≤ zs.length))], true, 0⟩) with ⟨e, _⟩ | e
                      · cases e
                      · exact e
                    simp only [Val.slice.injEq] at hkk
                    obtain ⟨rfl, -⟩ := hkk
                    have hl1 : (zs ++ [(t, (.iface ty (.agg (.int .i64 (t.set : Int) :: cs)) : Val))]).length = zs.length + 1 := by simp
                    have s7 := s5 (some ⟨[.str q', .bool (okb && decide (1 ≤ zs.length))], true, 0⟩)
                    have g7 : (h5.set rb (some ⟨[.str q', .bool (okb && decide (1 ≤ zs.length))], true, 0⟩)).get rb = some ⟨[.str q', .bool (okb && decide (1 ≤ zs.length))], true, 0⟩ := get_set_self
                    have w7 := w5 (some ⟨[.str q', .bool (okb && decide (1 ≤ zs.length))], true, 0⟩)
                    have ho7 := ho6 (some ⟨[.str q', .bool (okb && decide (1 ≤ zs.length))], true, 0⟩)
                    generalize h5.set rb (some ⟨[.str q', .bool (okb && decide (1 ≤ zs.length))], true, 0⟩) = h7 at *
                    (apply o_call; (solve | (conv => lhs; simp only [Callee.find, List.map_cons, List.map_nil, List.cons_append, List.nil_append, zva, ↓reduceIte, Nat.reduceEqDiff])))
                    · exact of_run (base := base) hE (fun f hf' => hf f (by simp only [needRead, List.mem_append]; exact .inr hf')) w7 (keepT h7 ho7) hl1.symm (by omega) (by omega) (by omega) hk2 (by omega) (by omega) (fun j hj => hj.2) hk3
                    rintro v8 h8 ⟨⟨M, m1, m2, t8, m3, m4⟩, m5, m6, m7⟩
                    (conv => arg 8; simp only [zfr, Nat.reduceEqDiff, Nat.reduceLT, ↓reduceIte])
                    repeat' (first | (apply o_op; (solve | (conv => lhs; simp (disch := first | omega | (simp only [Val.cells, List.all_cons, List.all_nil, Val.one, Bool.and_self])) only [zev, zex, Val.one, List.length_cons, List.length_nil, Nat.reduceAdd, Option.map_some, Option.map_none, List.map_cons, List.map_nil, zva, ↓reduceIte, Nat.reduceEqDiff])); (solve | (conv => lhs; simp only [zfr, Nat.reduceEqDiff, Nat.reduceLT, ↓reduceIte]))) | (apply o_yes; (solve | (conv => lhs; simp only [zva, ↓reduceIte, Nat.reduceEqDiff])); (solve | rfl)) | (apply o_no; (solve | (conv => lhs; simp only [zva, ↓reduceIte, Nat.reduceEqDiff])); (solve | decide); (solve | (conv => lhs; simp only [zfr, Nat.reduceEqDiff, Nat.reduceLT, ↓reduceIte]))) | (apply o_not; (solve | (conv => lhs; simp only [zva, ↓reduceIte, Nat.reduceEqDiff])); (solve | (conv => lhs; simp only [zfr, Nat.reduceEqDiff, Nat.reduceLT, ↓reduceIte]))) | (apply o_if; (solve | (conv => lhs; simp only [zva, ↓reduceIte, Nat.reduceEqDiff])); (solve | (intro hbb; conv => lhs; simp (disch := first | omega | (simp only [Val.cells, List.all_cons, List.all_nil, Val.one, Bool.and_self])) only [zev, zex, Val.one, List.length_cons, List.length_nil, Nat.reduceAdd, Option.map_some, Option.map_none, List.map_cons, List.map_nil, zva, ↓reduceIte, Nat.reduceEqDiff, hbb])); (solve | (conv => lhs; simp only [zfr, Nat.reduceEqDiff, Nat.reduceLT, ↓reduceIte]))) | (apply o_end; (solve | (conv => lhs; simp only [zdr, inl, Nat.reduceEqDiff, or_false, or_true, ↓reduceIte]))) | apply g_seq | apply g_region | apply g_next | apply g_block | apply g_out | (apply g_true; (solve | (conv => lhs; simp only [zva, ↓reduceIte, Nat.reduceEqDiff]))) | (apply g_false; (solve | (conv => lhs; simp only [zva, ↓reduceIte, Nat.reduceEqDiff]))) | apply g_here | (apply g_past; (solve | decide)) | apply g_exit | apply g_retc | apply g_retb | apply g_ret | apply g_done)
                    rw [hmap] at m1
                    have t8ok : t8.set ≠ 0 ∧ t8.set < 256 := by
                      have hall : ∀ u ∈ zs.map (·.1) ++ [t], u.set ≠ 0 ∧ u.set < 256 := fun u hu => by
                        rw [← hmap] at hu
                        obtain ⟨z, hz, rfl⟩ := List.mem_map.1 hu
                        exact (hk3 z hz).2
                      rcases m4 with rfl | ⟨_, rfl⟩
                      · exact hall t8 (m1.mem_iff.1 (by simp))
                      · constructor
                        · obtain ⟨i, hi⟩ := bit_of_ne h0
                          exact ne_of_bit (bit_union.2 ⟨t, m1.mem_iff.2 (by simp), hi⟩)
                        · refine lt_256.2 fun i hi => ?_
                          obtain ⟨u, hu, h⟩ := bit_union.1 hi
                          exact lt_256.1 (hall u (m1.mem_iff.1 hu)).2 i h
                    have t8at : TreeAt (fun j => h.size ≤ j ∧ j < h8.size) h8 t8 v8 := TreeAt.keep (fun _ _ => rfl) (fun j hj => by
                      rcases hj with hj | rfl
                      · exact ⟨hj.1, by omega⟩
                      · exact ⟨hk1, by omega⟩) _ _ m3
                    refine ⟨.inr rfl, _, rfl, q', okb && decide (1 ≤ zs.length), ?_, fun j hj hjr => ?_, m6, by omega, by simp only [List.length_cons]; omega, fun hyes => ?_, fun hno'' => ⟨?_, .inr ⟨t8, t8at, t8ok⟩⟩⟩
                    · rw [m5 rb (by omega) (by omega)]; exact g7
                    · rw [m5 j (by omega) (by omega)]; exact ho7 j hj hjr
                    · simp only [Bool.and_eq_true, decide_eq_true_eq] at hyes
                      obtain ⟨y1, y2, y3, y4⟩ := hy hyes.1
                      have hsn := hao.snoc y2 (fun i hi => lt_256.1 h1 i hi) y3 y4
                      have hM : zs.map (·.1) ++ [t] = M := sorted_eq first m1.symm hsn.2.2 m2
                      refine ⟨t8, ?_, t8at⟩
                      rw [hrd', hrL, y1]
                      simp only [rdNext]
                      rw [if_pos ⟨y3, y4⟩, if_pos h41, if_neg (by rw [List.length_map]; omega)]
                      rcases m4 with hm | ⟨_, hm⟩
                      · rw [← hM] at hm
                        have := congrArg List.length hm
                        simp at this
                        rw [this] at hyes
                        simp at hyes
                      · rw [hm, hM]
                    · rw [hrd']
                      cases okb with
                      | false => exact hn' rfl
                      | true =>
                        obtain ⟨y1, y2, y3, y4⟩ := hy rfl
                        simp only [Bool.true_and, decide_eq_false_iff_not] at hno''
                        refine failN _ y1 ?_
                        simp only [rdNext]
                        rw [if_pos ⟨y3, y4⟩, if_pos h41, if_pos (by rw [List.length_map]; omega)]
                  · have e41 : ((c'.toNat : Int) == 41) = false := by
                      rw [beq_eq_false_iff_ne]
                      intro e
                      have := (u8_eq (c := c') (n := 41) (by omega)).1 (by omega)
                      exact h41 (by rw [this]; rfl)
                    by_cases h44 : c' = 44
                    · have e44 : ((c'.toNat : Int) == 44) = true := by rw [h44]; rfl
                      repeat' (first | (apply o_op; (solve | (conv => lhs; simp (disch := first | omega | (simp only [Val.cells, List.all_cons, List.all_nil, Val.one, Bool.and_self])) only [zev, zex, Val.one, List.length_cons, List.length_nil, Nat.reduceAdd, Option.map_some, Option.map_none, List.map_cons, List.map_nil, zva, ↓reduceIte, Nat.reduceEqDiff, l6, e41, e44])); (solve | (conv => lhs; simp only [zfr, Nat.reduceEqDiff, Nat.reduceLT, ↓reduceIte]))) | (apply o_yes; (solve | (conv => lhs; simp only [zva, ↓reduceIte, Nat.reduceEqDiff, l6, e41, e44])); (solve | rfl)) | (apply o_no; (solve | (conv => lhs; simp only [zva, ↓reduceIte, Nat.reduceEqDiff, l6, e41, e44])); (solve | decide); (solve | (conv => lhs; simp only [zfr, Nat.reduceEqDiff, Nat.reduceLT, ↓reduceIte]))) | (apply o_not; (solve | (conv => lhs; simp only [zva, ↓reduceIte, Nat.reduceEqDiff])); (solve | (conv => lhs; simp only [zfr, Nat.reduceEqDiff, Nat.reduceLT, ↓reduceIte]))) | (apply o_if; (solve | (conv => lhs; simp only [zva, ↓reduceIte, Nat.reduceEqDiff])); (solve | (intro hbb; conv => lhs; simp (disch := first | omega | (simp only [Val.cells, List.all_cons, List.all_nil, Val.one, Bool.and_self])) only [zev, zex, Val.one, List.length_cons, List.length_nil, Nat.reduceAdd, Option.map_some, Option.map_none, List.map_cons, List.map_nil, zva, ↓reduceIte, Nat.reduceEqDiff, hbb, l6, e41, e44])); (solve | (conv => lhs; simp only [zfr, Nat.reduceEqDiff, Nat.reduceLT, ↓reduceIte]))) | (apply o_end; (solve | (conv => lhs; simp only [zdr, inl, Nat.reduceEqDiff, or_false, or_true, ↓reduceIte]))) | apply g_seq | apply g_region | apply g_next | apply g_block | apply g_out | (apply g_true; (solve | (conv => lhs; simp only [zva, ↓reduceIte, Nat.reduceEqDiff, l6, e41, e44]))) | (apply g_false; (solve | (conv => lhs; simp only [zva, ↓reduceIte, Nat.reduceEqDiff, l6, e41, e44]))) | apply g_here | (apply g_past; (solve | decide)) | apply g_exit | apply g_retc | apply g_retb | apply g_ret | apply g_done)
                      cases okb with
                      | false => exact stop q' (by simp) (hn' rfl) [(99, .bool true)] (.inr rfl)
                      | true =>
                        obtain ⟨y1, y2, y3, y4⟩ := hy rfl
                        refine ih (q'.length + 1) _ _ (by omega) ⟨.slice k5 0 (zs.length + 1) none, zs ++ [(t, .iface ty (.agg (.int .i64 (t.set : Int) :: cs)))], q', true, [(99, .bool true)], union (zs.map (·.1)) ||| t.set, rfl, .inr rfl, get_set_self, ho6 _, w5 _, by rw [s5]; omega, by omega, fun _ => ⟨rfl, la6 _, ?_, ?_, g, ?_, by omega⟩, by simp⟩
                        · rw [hmap]; exact hao.snoc y2 (fun i hi => lt_256.1 h1 i hi) y3 y4
                        · rw [hmap, hun]
                        · rw [hmap, hrL, y1]
                          simp only [rdNext]
                          rw [if_pos ⟨y3, y4⟩, if_neg h41, if_pos h44]
                    · have e44 : ((c'.toNat : Int) == 44) = false := by
                        rw [beq_eq_false_iff_ne]
                        intro e
                        have := (u8_eq (c := c') (n := 44) (by omega)).1 (by omega)
                        exact h44 (by rw [this]; rfl)
                      repeat' (first | (apply o_op; (solve | (conv => lhs; simp (disch := first | omega | (simp only [Val.cells, List.all_cons, List.all_nil, Val.one, Bool.and_self])) only [zev, zex, Val.one, List.length_cons, List.length_nil, Nat.reduceAdd, Option.map_some, Option.map_none, List.map_cons, List.map_nil, zva, ↓reduceIte, Nat.reduceEqDiff, l6, e41, e44, st6])); (solve | (conv => lhs; simp only [zfr, Nat.reduceEqDiff, Nat.reduceLT, ↓reduceIte]))) | (apply o_yes; (solve | (conv => lhs; simp only [zva, ↓reduceIte, Nat.reduceEqDiff, l6, e41, e44, st6])); (solve | rfl)) | (apply o_no; (solve | (conv => lhs; simp only [zva, ↓reduceIte, Nat.reduceEqDiff, l6, e41, e44, st6])); (solve | decide); (solve | (conv => lhs; simp only [zfr, Nat.reduceEqDiff, Nat.reduceLT, ↓reduceIte]))) | (apply o_not; (solve | (conv => lhs; simp only [zva, ↓reduceIte, Nat.reduceEqDiff])); (solve | (conv => lhs; simp only [zfr, Nat.reduceEqDiff, Nat.reduceLT, ↓reduceIte]))) | (apply o_if; (solve | (conv => lhs; simp only [zva, ↓reduceIte, Nat.reduceEqDiff])); (solve | (intro hbb; conv => lhs; simp (disch := first | omega | (simp only [Val.cells, List.all_cons, List.all_nil, Val.one, Bool.and_self])) only [zev, zex, Val.one, List.length_cons, List.length_nil, Nat.reduceAdd, Option.map_some, Option.map_none, List.map_cons, List.map_nil, zva, ↓reduceIte, Nat.reduceEqDiff, hbb, l6, e41, e44, st6])); (solve | (conv => lhs; simp only [zfr, Nat.reduceEqDiff, Nat.reduceLT, ↓reduceIte]))) | (apply o_end; (solve | (conv => lhs; simp only [zdr, inl, Nat.reduceEqDiff, or_false, or_true, ↓reduceIte]))) | apply g_seq | apply g_region | apply g_next | apply g_block | apply g_out | (apply g_true; (solve | (conv => lhs; simp only [zva, ↓reduceIte, Nat.reduceEqDiff, l6, e41, e44, st6]))) | (apply g_false; (solve | (conv => lhs; simp only [zva, ↓reduceIte, Nat.reduceEqDiff, l6, e41, e44, st6]))) | apply g_here | (apply g_past; (solve | decide)) | apply g_exit | apply g_retc | apply g_retb | apply g_ret | apply g_done)
                      refine stop q' (by simp) ?_ [] (.inl rfl)
                      cases okb with
                      | false => exact hn' rfl
                      | true =>
                        obtain ⟨y1, y2, y3, y4⟩ := hy rfl
                        exact failN _ y1 (by simp [rdNext, h41, h44])
              have l3 : h3.load false 1 rb 1 = some (.bool ok3) := load_one p1 rfl
              have st3 : ∀ b, h3.store base rb 1 [.bool b] = some (h3.set rb (some ⟨[.str q', .bool b], true, 0⟩)) := fun b => store_one p1 hb rfl (by simp) rfl
              cases ok3 with
              | false =>
                obtain ⟨e1, e2⟩ := p7 rfl
                have hnone : rdL 8 f [] r = none := by rw [hrL, e1]; rfl
                rcases e2 with rfl | ⟨t, t1, t2, t3⟩
                · repeat' (first | (apply o_op; (solve | (conv => lhs; simp (disch := first | omega | (simp only [Val.cells, List.all_cons, List.all_nil, Val.one, Bool.and_self])) only [zev, zex, Val.one, List.length_cons, List.length_nil, Nat.reduceAdd, Option.map_some, Option.map_none, List.map_cons, List.map_nil, zva, ↓reduceIte, Nat.reduceEqDiff])); (solve | (conv => lhs; simp only [zfr, Nat.reduceEqDiff, Nat.reduceLT, ↓reduceIte]))) | (apply o_yes; (solve | (conv => lhs; simp only [zva, ↓reduceIte, Nat.reduceEqDiff])); (solve | rfl)) | (apply o_no; (solve | (conv => lhs; simp only [zva, ↓reduceIte, Nat.reduceEqDiff])); (solve | decide); (solve | (conv => lhs; simp only [zfr, Nat.reduceEqDiff, Nat.reduceLT, ↓reduceIte]))) | (apply o_not; (solve | (conv => lhs; simp only [zva, ↓reduceIte, Nat.reduceEqDiff])); (solve | (conv => lhs; simp only [zfr, Nat.reduceEqDiff, Nat.reduceLT, ↓reduceIte]))) | (apply o_if; (solve | (conv => lhs; simp only [zva, ↓reduceIte, Nat.reduceEqDiff])); (solve | (intro hbb; conv => lhs; simp (disch := first | omega | (simp only [Val.cells, List.all_cons, List.all_nil, Val.one, Bool.and_self])) only [zev, zex, Val.one, List.length_cons, List.length_nil, Nat.reduceAdd, Option.map_some, Option.map_none, List.map_cons, List.map_nil, zva, ↓reduceIte, Nat.reduceEqDiff, hbb])); (solve | (conv => lhs; simp only [zfr, Nat.reduceEqDiff, Nat.reduceLT, ↓reduceIte]))) | (apply o_end; (solve | (conv => lhs; simp only [zdr, inl, Nat.reduceEqDiff, or_false, or_true, ↓reduceIte]))) | apply g_seq | apply g_region | apply g_next | apply g_block | apply g_out | (apply g_true; (solve | (conv => lhs; simp only [zva, ↓reduceIte, Nat.reduceEqDiff]))) | (apply g_false; (solve | (conv => lhs; simp only [zva, ↓reduceIte, Nat.reduceEqDiff]))) | apply g_here | (apply g_past; (solve | decide)) | apply g_exit | apply g_retc | apply g_retb | apply g_ret | apply g_done)
                  exact ⟨.inr rfl, _, rfl, q', false, p1, ho3, p3, by omega, by simp only [List.length_cons]; omega, by simp, fun _ => ⟨by rw [hrd']; exact hnone, .inl rfl⟩⟩
                · have tl := tail false t t1 t2 t3 (by simp) (fun _ => hnone)
                  obtain ⟨ty, cs, rfl, hty⟩ := t1.iface
                  repeat' (first | (apply o_op; (solve | (conv => lhs; simp (disch := first | omega | (simp only [Val.cells, List.all_cons, List.all_nil, Val.one, Bool.and_self])) only [zev, zex, Val.one, List.length_cons, List.length_nil, Nat.reduceAdd, Option.map_some, Option.map_none, List.map_cons, List.map_nil, zva, ↓reduceIte, Nat.reduceEqDiff])); (solve | (conv => lhs; simp only [zfr, Nat.reduceEqDiff, Nat.reduceLT, ↓reduceIte]))) | (apply o_yes; (solve | (conv => lhs; simp only [zva, ↓reduceIte, Nat.reduceEqDiff])); (solve | rfl)) | (apply o_no; (solve | (conv => lhs; simp only [zva, ↓reduceIte, Nat.reduceEqDiff])); (solve | decide); (solve | (conv => lhs; simp only [zfr, Nat.reduceEqDiff, Nat.reduceLT, ↓reduceIte]))) | (apply o_not; (solve | (conv => lhs; simp only [zva, ↓reduceIte, Nat.reduceEqDiff])); (solve | (conv => lhs; simp only [zfr, Nat.reduceEqDiff, Nat.reduceLT, ↓reduceIte]))) | (apply o_if; (solve | (conv => lhs; simp only [zva, ↓reduceIte, Nat.reduceEqDiff])); (solve | (intro hbb; conv => lhs; simp (disch := first | omega | (simp only [Val.cells, List.all_cons, List.all_nil, Val.one, Bool.and_self])) only [zev, zex, Val.one, List.length_cons, List.length_nil, Nat.reduceAdd, Option.map_some, Option.map_none, List.map_cons, List.map_nil, zva, ↓reduceIte, Nat.reduceEqDiff, hbb])); (solve | (conv => lhs; simp only [zfr, Nat.reduceEqDiff, Nat.reduceLT, ↓reduceIte]))) | (apply o_end; (solve | (conv => lhs; simp only [zdr, inl, Nat.reduceEqDiff, or_false, or_true, ↓reduceIte]))) | apply g_seq | apply g_region | apply g_next | apply g_block | apply g_out | (apply g_true; (solve | (conv => lhs; simp only [zva, ↓reduceIte, Nat.reduceEqDiff]))) | (apply g_false; (solve | (conv => lhs; simp only [zva, ↓reduceIte, Nat.reduceEqDiff]))) | apply g_here | (apply g_past; (solve | decide)) | apply g_exit | apply g_retc | apply g_retb | apply g_ret | apply g_done)
                  repeat' (first | (apply o_op; (solve | (conv => lhs; simp (disch := first | omega | (simp only [Val.cells, List.all_cons, List.all_nil, Val.one, Bool.and_self])) only [zev, zex, Val.one, List.length_cons, List.length_nil, Nat.reduceAdd, Option.map_some, Option.map_none, List.map_cons, List.map_nil, zva, ↓reduceIte, Nat.reduceEqDiff, l3, st3])); (solve | (conv => lhs; simp only [zfr, Nat.reduceEqDiff, Nat.reduceLT, ↓reduceIte]))) | (apply o_yes; (solve | (conv => lhs; simp only [zva, ↓reduceIte, Nat.reduceEqDiff, l3, st3])); (solve | rfl)) | (apply o_no; (solve | (conv => lhs; simp only [zva, ↓reduceIte, Nat.reduceEqDiff, l3, st3])); (solve | decide); (solve | (conv => lhs; simp only [zfr, Nat.reduceEqDiff, Nat.reduceLT, ↓reduceIte]))) | (apply o_not; (solve | (conv => lhs; simp only [zva, ↓reduceIte, Nat.reduceEqDiff])); (solve | (conv => lhs; simp only [zfr, Nat.reduceEqDiff, Nat.reduceLT, ↓reduceIte]))) | (apply o_if; (solve | (conv => lhs; simp only [zva, ↓reduceIte, Nat.reduceEqDiff])); (solve | (intro hbb; conv => lhs; simp (disch := first | omega | (simp only [Val.cells, List.all_cons, List.all_nil, Val.one, Bool.and_self])) only [zev, zex, Val.one, List.length_cons, List.length_nil, Nat.reduceAdd, Option.map_some, Option.map_none, List.map_cons, List.map_nil, zva, ↓reduceIte, Nat.reduceEqDiff, hbb, l3, st3])); (solve | (conv => lhs; simp only [zfr, Nat.reduceEqDiff, Nat.reduceLT, ↓reduceIte]))) | (apply o_end; (solve | (conv => lhs; simp only [zdr, inl, Nat.reduceEqDiff, or_false, or_true, ↓reduceIte]))))
                  apply g_next
                  exact tl
              | true =>
                obtain ⟨t, e1, t1⟩ := p6 rfl
                obtain ⟨tv, tb8, _⟩ := (rd_ok (Nat.le_refl 8) g).1 q t q' e1
                have tl := tail (decide (t.set &&& union (zs.map (·.1)) = 0) && lastLt (zs.map (·.1)) t) t t1 tv.ne tv.lt
                obtain ⟨ty, cs, rfl, hty⟩ := t1.iface
                have ht3 : TreeAt (fun j => h2.size ≤ j ∧ j < h3.size) h3 t (.iface ty (.agg (.int .i64 (t.set : Int) :: cs))) := t1
                have htlt := tv.lt
                repeat' (first | (apply o_op; (solve | (conv => lhs; simp (disch := first | omega | (simp only [Val.cells, List.all_cons, List.all_nil, Val.one, Bool.and_self])) only [zev, zex, Val.one, List.length_cons, List.length_nil, Nat.reduceAdd, Option.map_some, Option.map_none, List.map_cons, List.map_nil, zva, ↓reduceIte, Nat.reduceEqDiff, l3])); (solve | (conv => lhs; simp only [zfr, Nat.reduceEqDiff, Nat.reduceLT, ↓reduceIte]))) | (apply o_yes; (solve | (conv => lhs; simp only [zva, ↓reduceIte, Nat.reduceEqDiff, l3])); (solve | rfl)) | (apply o_no; (solve | (conv => lhs; simp only [zva, ↓reduceIte, Nat.reduceEqDiff, l3])); (solve | decide); (solve | (conv => lhs; simp only [zfr, Nat.reduceEqDiff, Nat.reduceLT, ↓reduceIte]))) | (apply o_not; (solve | (conv => lhs; simp only [zva, ↓reduceIte, Nat.reduceEqDiff])); (solve | (conv => lhs; simp only [zfr, Nat.reduceEqDiff, Nat.reduceLT, ↓reduceIte]))) | (apply o_if; (solve | (conv => lhs; simp only [zva, ↓reduceIte, Nat.reduceEqDiff])); (solve | (intro hbb; conv => lhs; simp (disch := first | omega | (simp only [Val.cells, List.all_cons, List.all_nil, Val.one, Bool.and_self])) only [zev, zex, Val.one, List.length_cons, List.length_nil, Nat.reduceAdd, Option.map_some, Option.map_none, List.map_cons, List.map_nil, zva, ↓reduceIte, Nat.reduceEqDiff, hbb, l3])); (solve | (conv => lhs; simp only [zfr, Nat.reduceEqDiff, Nat.reduceLT, ↓reduceIte]))) | (apply o_end; (solve | (conv => lhs; simp only [zdr, inl, Nat.reduceEqDiff, or_false, or_true, ↓reduceIte]))) | apply g_seq | apply g_region | apply g_next | apply g_block | apply g_out | (apply g_true; (solve | (conv => lhs; simp only [zva, ↓reduceIte, Nat.reduceEqDiff, l3]))) | (apply g_false; (solve | (conv => lhs; simp only [zva, ↓reduceIte, Nat.reduceEqDiff, l3]))) | apply g_here | (apply g_past; (solve | decide)) | apply g_exit | apply g_retc | apply g_retb | apply g_ret | apply g_done)
                refine o_beasts hE (hf _ (by decide)) (by simp only [zva, ↓reduceIte, Nat.reduceEqDiff]) ht3 rfl ?_
                (conv => arg 8; simp only [zfr, Nat.reduceEqDiff, Nat.reduceLT, ↓reduceIte])
                repeat' (first | (apply o_op; (solve | (conv => lhs; simp (disch := first | omega | (simp only [Val.cells, List.all_cons, List.all_nil, Val.one, Bool.and_self])) only [zev, zex, Val.one, List.length_cons, List.length_nil, Nat.reduceAdd, Option.map_some, Option.map_none, List.map_cons, List.map_nil, zva, ↓reduceIte, Nat.reduceEqDiff, l3])); (solve | (conv => lhs; simp only [zfr, Nat.reduceEqDiff, Nat.reduceLT, ↓reduceIte]))) | (apply o_yes; (solve | (conv => lhs; simp only [zva, ↓reduceIte, Nat.reduceEqDiff, l3])); (solve | rfl)) | (apply o_no; (solve | (conv => lhs; simp only [zva, ↓reduceIte, Nat.reduceEqDiff, l3])); (solve | decide); (solve | (conv => lhs; simp only [zfr, Nat.reduceEqDiff, Nat.reduceLT, ↓reduceIte]))) | (apply o_not; (solve | (conv => lhs; simp only [zva, ↓reduceIte, Nat.reduceEqDiff])); (solve | (conv => lhs; simp only [zfr, Nat.reduceEqDiff, Nat.reduceLT, ↓reduceIte]))) | (apply o_if; (solve | (conv => lhs; simp only [zva, ↓reduceIte, Nat.reduceEqDiff])); (solve | (intro hbb; conv => lhs; simp (disch := first | omega | (simp only [Val.cells, List.all_cons, List.all_nil, Val.one, Bool.and_self])) only [zev, zex, Val.one, List.length_cons, List.length_nil, Nat.reduceAdd, Option.map_some, Option.map_none, List.map_cons, List.map_nil, zva, ↓reduceIte, Nat.reduceEqDiff, hbb, l3])); (solve | (conv => lhs; simp only [zfr, Nat.reduceEqDiff, Nat.reduceLT, ↓reduceIte]))) | (apply o_end; (solve | (conv => lhs; simp only [zdr, inl, Nat.reduceEqDiff, or_false, or_true, ↓reduceIte]))) | apply g_seq | apply g_region | apply g_next | apply g_block | apply g_out | (apply g_true; (solve | (conv => lhs; simp only [zva, ↓reduceIte, Nat.reduceEqDiff, l3]))) | (apply g_false; (solve | (conv => lhs; simp only [zva, ↓reduceIte, Nat.reduceEqDiff, l3]))) | apply g_here | (apply g_past; (solve | decide)) | apply g_exit | apply g_retc | apply g_retb | apply g_ret | apply g_done)
                by_cases hdis : t.set &&& union (zs.map (·.1)) = 0
                · have e0 : (((t.set &&& union (zs.map (·.1)) : Nat) : Int) == 0) = true := by rw [hdis]; rfl
                  rw [e0]
                  have key : ∀ b : Bool, lastLt (zs.map (·.1)) t = b → At E base T.breed_reader_tree.c21 [.blk 1, .code (.loop T.breed_reader_tree.c12), .blk 0, .code T.breed_reader_tree.c31] [(0, .ptr rb 0), (4, lv), (5, .int .i64 (union (zs.map (·.1)) : Int)), (6, .iface ty (.agg (.int .i64 (t.set : Int) :: cs)))] (h3.set rb (some ⟨[.str q', .bool b], true, 0⟩)) fun x fr' h' => (x = .norm ∨ x = .ret) ∧ ∃ vs, resultVals fr' h' [RV.tmp 2] = some vs ∧ ReadPost rb h (c :: r) (f + 1) (tuple vs) h' := by
                    intro b hb'
                    have := tl (by
                      intro hh
                      simp only [Bool.and_eq_true, decide_eq_true_eq] at hh
                      exact ⟨e1, tv, hh⟩) (by
                      intro hh
                      rw [hrL, e1]
                      simp only [rdNext]
                      rw [if_neg (by
                        rintro ⟨x1, x2⟩
                        rw [decide_eq_true x1, x2] at hh
                        cases hh)])
                    rw [decide_eq_true hdis, hb', Bool.true_and] at this
                    exact this
                  rcases la3 with ⟨rfl, rfl⟩ | ⟨k0, rfl, hk1, hk2, hk3⟩
                  · have ll : lastLt (([] : List Z).map (·.1)) t = true := rfl
                    repeat' (first | (apply o_op; (solve | (conv => lhs; simp (disch := first | omega | (simp only [Val.cells, List.all_cons, List.all_nil, Val.one, Bool.and_self])) only [zev, zex, Val.one, List.length_cons, List.length_nil, Nat.reduceAdd, Option.map_some, Option.map_none, List.map_cons, List.map_nil, zva, ↓reduceIte, Nat.reduceEqDiff, show ((0 : Int) == 0) = true from rfl, l3, st3])); (solve | (conv => lhs; simp only [zfr, Nat.reduceEqDiff, Nat.reduceLT, ↓reduceIte]))) | (apply o_yes; (solve | (conv => lhs; simp only [zva, ↓reduceIte, Nat.reduceEqDiff, show ((0 : Int) == 0) = true from rfl, l3, st3])); (solve | rfl)) | (apply o_no; (solve | (conv => lhs; simp only [zva, ↓reduceIte, Nat.reduceEqDiff, show ((0 : Int) == 0) = true from rfl, l3, st3])); (solve | decide); (solve | (conv => lhs; simp only [zfr, Nat.reduceEqDiff, Nat.reduceLT, ↓reduceIte]))) | (apply o_not; (solve | (conv => lhs; simp only [zva, ↓reduceIte, Nat.reduceEqDiff])); (solve | (conv => lhs; simp only [zfr, Nat.reduceEqDiff, Nat.reduceLT, ↓reduceIte]))) | (apply o_if; (solve | (conv => lhs; simp only [zva, ↓reduceIte, Nat.reduceEqDiff])); (solve | (intro hbb; conv => lhs; simp (disch := first | omega | (simp only [Val.cells, List.all_cons, List.all_nil, Val.one, Bool.and_self])) only [zev, zex, Val.one, List.length_cons, List.length_nil, Nat.reduceAdd, Option.map_some, Option.map_none, List.map_cons, List.map_nil, zva, ↓reduceIte, Nat.reduceEqDiff, hbb, show ((0 : Int) == 0) = true from rfl, l3, st3])); (solve | (conv => lhs; simp only [zfr, Nat.reduceEqDiff, Nat.reduceLT, ↓reduceIte]))) | (apply o_end; (solve | (conv => lhs; simp only [zdr, inl, Nat.reduceEqDiff, or_false, or_true, ↓reduceIte]))))
                    apply g_next
                    exact key true ll
                  · by_cases hz0 : zs.length = 0
                    · have hz : zs = [] := List.eq_nil_of_length_eq_zero hz0
                      subst hz
                      have ll : lastLt (([] : List Z).map (·.1)) t = true := rfl
                      repeat' (first | (apply o_op; (solve | (conv => lhs; simp (disch := first | omega | (simp only [Val.cells, List.all_cons, List.all_nil, Val.one, Bool.and_self])) only [zev, zex, Val.one, List.length_cons, List.length_nil, Nat.reduceAdd, Option.map_some, Option.map_none, List.map_cons, List.map_nil, zva, ↓reduceIte, Nat.reduceEqDiff, show (((0 : Nat) : Int) == 0) = true from rfl, List.length_nil, l3, st3])); (solve | (conv => lhs; simp only [zfr, Nat.reduceEqDiff, Nat.reduceLT, ↓reduceIte]))) | (apply o_yes; (solve | (conv => lhs; simp only [zva, ↓reduceIte, Nat.reduceEqDiff, show (((0 : Nat) : Int) == 0) = true from rfl, List.length_nil, l3, st3])); (solve | rfl)) | (apply o_no; (solve | (conv => lhs; simp only [zva, ↓reduceIte, Nat.reduceEqDiff, show (((0 : Nat) : Int) == 0) = true from rfl, List.length_nil, l3, st3])); (solve | decide); (solve | (conv => lhs; simp only [zfr, Nat.reduceEqDiff, Nat.reduceLT, ↓reduceIte]))) | (apply o_not; (solve | (conv => lhs; simp only [zva, ↓reduceIte, Nat.reduceEqDiff])); (solve | (conv => lhs; simp only [zfr, Nat.reduceEqDiff, Nat.reduceLT, ↓reduceIte]))) | (apply o_if; (solve | (conv => lhs; simp only [zva, ↓reduceIte, Nat.reduceEqDiff])); (solve | (intro hbb; conv => lhs; simp (disch := first | omega | (simp only [Val.cells, List.all_cons, List.all_nil, Val.one, Bool.and_self])) only [zev, zex, Val.one, List.length_cons, List.length_nil, Nat.reduceAdd, Option.map_some, Option.map_none, List.map_cons, List.map_nil, zva, ↓reduceIte, Nat.reduceEqDiff, hbb, show (((0 : Nat) : Int) == 0) = true from rfl, List.length_nil, l3, st3])); (solve | (conv => lhs; simp only [zfr, Nat.reduceEqDiff, Nat.reduceLT, ↓reduceIte]))) | (apply o_end; (solve | (conv => lhs; simp only [zdr, inl, Nat.reduceEqDiff, or_false, or_true, ↓reduceIte]))))
                      apply g_next
                      exact key true ll
                    · have ez : ((zs.length : Int) == 0) = false := by rw [beq_eq_false_iff_ne]; omega
                      have hcl : (cellsZ zs).length = zs.length := by simp [cellsZ]
                      obtain ⟨x1, x2⟩ := own_elem (c := none) (i := zs.length - 1) (n := zs.length) hk2 (by omega) (by omega)
                      have ej : ((zs.length - 1 : Nat) : Int) = (zs.length : Int) - 1 := by omega
                      rw [ej] at x1
                      have x3 : h3.load false 1 k0 (zs.length - 1) = some zs[zs.length - 1].2 := by rw [x2]; simp [cellsZ]
                      obtain ⟨z1, z2, z3⟩ := hk3 zs[zs.length - 1] (List.getElem_mem _)
                      have hfst : ∀ f ∈ [F.breed_first, F.breed_set_beasts, F.bits_TrailingZeros, F.bits_TrailingZeros64], f ∈ l := fun f hf' => hf f (by revert f; decide)
                      repeat' (first | (apply o_op; (solve | (conv => lhs; simp (disch := first | omega | (simp only [Val.cells, List.all_cons, List.all_nil, Val.one, Bool.and_self])) only [zev, zex, Val.one, List.length_cons, List.length_nil, Nat.reduceAdd, Option.map_some, Option.map_none, List.map_cons, List.map_nil, zva, ↓reduceIte, Nat.reduceEqDiff, ez, x1, x3])); (solve | (conv => lhs; simp only [zfr, Nat.reduceEqDiff, Nat.reduceLT, ↓reduceIte]))) | (apply o_yes; (solve | (conv => lhs; simp only [zva, ↓reduceIte, Nat.reduceEqDiff, ez, x1, x3])); (solve | rfl)) | (apply o_no; (solve | (conv => lhs; simp only [zva, ↓reduceIte, Nat.reduceEqDiff, ez, x1, x3])); (solve | decide); (solve | (conv => lhs; simp only [zfr, Nat.reduceEqDiff, Nat.reduceLT, ↓reduceIte]))) | (apply o_not; (solve | (conv => lhs; simp only [zva, ↓reduceIte, Nat.reduceEqDiff])); (solve | (conv => lhs; simp only [zfr, Nat.reduceEqDiff, Nat.reduceLT, ↓reduceIte]))) | (apply o_if; (solve | (conv => lhs; simp only [zva, ↓reduceIte, Nat.reduceEqDiff])); (solve | (intro hbb; conv => lhs; simp (disch := first | omega | (simp only [Val.cells, List.all_cons, List.all_nil, Val.one, Bool.and_self])) only [zev, zex, Val.one, List.length_cons, List.length_nil, Nat.reduceAdd, Option.map_some, Option.map_none, List.map_cons, List.map_nil, zva, ↓reduceIte, Nat.reduceEqDiff, hbb, ez, x1, x3])); (solve | (conv => lhs; simp only [zfr, Nat.reduceEqDiff, Nat.reduceLT, ↓reduceIte]))) | (apply o_end; (solve | (conv => lhs; simp only [zdr, inl, Nat.reduceEqDiff, or_false, or_true, ↓reduceIte]))))
                      (apply o_call; (solve | (conv => lhs; simp only [Callee.find, List.map_cons, List.map_nil, List.cons_append, List.nil_append, zva, ↓reduceIte, Nat.reduceEqDiff])))
                      · exact first_run hE hfst (keepT h3 ho3) z1 z2 z3
                      rintro _ h3' ⟨rfl, e3⟩
                      have e3 := e3.symm
                      subst e3
                      (conv => arg 8; simp only [zfr, Nat.reduceEqDiff, Nat.reduceLT, ↓reduceIte])
                      repeat' (first | (apply o_op; (solve | (conv => lhs; simp (disch := first | omega | (simp only [Val.cells, List.all_cons, List.all_nil, Val.one, Bool.and_self])) only [zev, zex, Val.one, List.length_cons, List.length_nil, Nat.reduceAdd, Option.map_some, Option.map_none, List.map_cons, List.map_nil, zva, ↓reduceIte, Nat.reduceEqDiff])); (solve | (conv => lhs; simp only [zfr, Nat.reduceEqDiff, Nat.reduceLT, ↓reduceIte]))) | (apply o_yes; (solve | (conv => lhs; simp only [zva, ↓reduceIte, Nat.reduceEqDiff])); (solve | rfl)) | (apply o_no; (solve | (conv => lhs; simp only [zva, ↓reduceIte, Nat.reduceEqDiff])); (solve | decide); (solve | (conv => lhs; simp only [zfr, Nat.reduceEqDiff, Nat.reduceLT, ↓reduceIte]))) | (apply o_not; (solve | (conv => lhs; simp only [zva, ↓reduceIte, Nat.reduceEqDiff])); (solve | (conv => lhs; simp only [zfr, Nat.reduceEqDiff, Nat.reduceLT, ↓reduceIte]))) | (apply o_if; (solve | (conv => lhs; simp only [zva, ↓reduceIte, Nat.reduceEqDiff])); (solve | (intro hbb; conv => lhs; simp (disch := first | omega | (simp only [Val.cells, List.all_cons, List.all_nil, Val.one, Bool.and_self])) only [zev, zex, Val.one, List.length_cons, List.length_nil, Nat.reduceAdd, Option.map_some, Option.map_none, List.map_cons, List.map_nil, zva, ↓reduceIte, Nat.reduceEqDiff, hbb])); (solve | (conv => lhs; simp only [zfr, Nat.reduceEqDiff, Nat.reduceLT, ↓reduceIte]))) | (apply o_end; (solve | (conv => lhs; simp only [zdr, inl, Nat.reduceEqDiff, or_false, or_true, ↓reduceIte]))))
                      (apply o_call; (solve | (conv => lhs; simp only [Callee.find, List.map_cons, List.map_nil, List.cons_append, List.nil_append, zva, ↓reduceIte, Nat.reduceEqDiff])))
                      · exact first_run hE hfst (keepT h3 ho3) ht3 tv.ne tv.lt
                      rintro _ h3' ⟨rfl, e3⟩
                      have e3 := e3.symm
                      subst e3
                      (conv => arg 8; simp only [zfr, Nat.reduceEqDiff, Nat.reduceLT, ↓reduceIte])
                      repeat' (first | (apply o_op; (solve | (conv => lhs; simp (disch := first | omega | (simp only [Val.cells, List.all_cons, List.all_nil, Val.one, Bool.and_self])) only [zev, zex, Val.one, List.length_cons, List.length_nil, Nat.reduceAdd, Option.map_some, Option.map_none, List.map_cons, List.map_nil, zva, ↓reduceIte, Nat.reduceEqDiff, l3, st3])); (solve | (conv => lhs; simp only [zfr, Nat.reduceEqDiff, Nat.reduceLT, ↓reduceIte]))) | (apply o_yes; (solve | (conv => lhs; simp only [zva, ↓reduceIte, Nat.reduceEqDiff, l3, st3])); (solve | rfl)) | (apply o_no; (solve | (conv => lhs; simp only [zva, ↓reduceIte, Nat.reduceEqDiff, l3, st3])); (solve | decide); (solve | (conv => lhs; simp only [zfr, Nat.reduceEqDiff, Nat.reduceLT, ↓reduceIte]))) | (apply o_not; (solve | (conv => lhs; simp only [zva, ↓reduceIte, Nat.reduceEqDiff])); (solve | (conv => lhs; simp only [zfr, Nat.reduceEqDiff, Nat.reduceLT, ↓reduceIte]))) | (apply o_if; (solve | (conv => lhs; simp only [zva, ↓reduceIte, Nat.reduceEqDiff])); (solve | (intro hbb; conv => lhs; simp (disch := first | omega | (simp only [Val.cells, List.all_cons, List.all_nil, Val.one, Bool.and_self])) only [zev, zex, Val.one, List.length_cons, List.length_nil, Nat.reduceAdd, Option.map_some, Option.map_none, List.map_cons, List.map_nil, zva, ↓reduceIte, Nat.reduceEqDiff, hbb, l3, st3])); (solve | (conv => lhs; simp only [zfr, Nat.reduceEqDiff, Nat.reduceLT, ↓reduceIte]))) | (apply o_end; (solve | (conv => lhs; simp only [zdr, inl, Nat.reduceEqDiff, or_false, or_true, ↓reduceIte]))))
                      apply g_next
                      refine key _ ?_
                      have hlast : (zs.map (·.1)).getLast? = some zs[zs.length - 1].1 := by
                        rw [List.getLast?_eq_getElem?]
                        simp only [List.length_map]
                        rw [List.getElem?_eq_getElem (by simp; omega)]
                        simp
                      unfold lastLt
                      rw [hlast]
                      simp
                · have e0 : (((t.set &&& union (zs.map (·.1)) : Nat) : Int) == 0) = false := by simp [hdis]
                  rw [e0]
                  repeat' (first | (apply o_op; (solve | (conv => lhs; simp (disch := first | omega | (simp only [Val.cells, List.all_cons, List.all_nil, Val.one, Bool.and_self])) only [zev, zex, Val.one, List.length_cons, List.length_nil, Nat.reduceAdd, Option.map_some, Option.map_none, List.map_cons, List.map_nil, zva, ↓reduceIte, Nat.reduceEqDiff, l3, st3])); (solve | (conv => lhs; simp only [zfr, Nat.reduceEqDiff, Nat.reduceLT, ↓reduceIte]))) | (apply o_yes; (solve | (conv => lhs; simp only [zva, ↓reduceIte, Nat.reduceEqDiff, l3, st3])); (solve | rfl)) | (apply o_no; (solve | (conv => lhs; simp only [zva, ↓reduceIte, Nat.reduceEqDiff, l3, st3])); (solve | decide); (solve | (conv => lhs; simp only [zfr, Nat.reduceEqDiff, Nat.reduceLT, ↓reduceIte]))) | (apply o_not; (solve | (conv => lhs; simp only [zva, ↓reduceIte, Nat.reduceEqDiff])); (solve | (conv => lhs; simp only [zfr, Nat.reduceEqDiff, Nat.reduceLT, ↓reduceIte]))) | (apply o_if; (solve | (conv => lhs; simp only [zva, ↓reduceIte, Nat.reduceEqDiff])); (solve | (intro hbb; conv => lhs; simp (disch := first | omega | (simp only [Val.cells, List.all_cons, List.all_nil, Val.one, Bool.and_self])) only [zev, zex, Val.one, List.length_cons, List.length_nil, Nat.reduceAdd, Option.map_some, Option.map_none, List.map_cons, List.map_nil, zva, ↓reduceIte, Nat.reduceEqDiff, hbb, l3, st3])); (solve | (conv => lhs; simp only [zfr, Nat.reduceEqDiff, Nat.reduceLT, ↓reduceIte]))) | (apply o_end; (solve | (conv => lhs; simp only [zdr, inl, Nat.reduceEqDiff, or_false, or_true, ↓reduceIte]))))
                  apply g_next
                  have := tl (by
                      intro hh
                      simp only [Bool.and_eq_true, decide_eq_true_eq] at hh
                      exact absurd hh.1 hdis) (fun _ => by
                      rw [hrL, e1]
                      simp only [rdNext]
                      rw [if_neg (fun hh => hdis hh.1)])
                  rw [decide_eq_false hdis, Bool.false_and] at this
                  exact this
          rcases hex with rfl | rfl
          · simp only [List.append_nil]
            repeat' (first | (apply o_op; (solve | (conv => lhs; simp (disch := first | omega | (simp only [Val.cells, List.all_cons, List.all_nil, Val.one, Bool.and_self])) only [zev, zex, Val.one, List.length_cons, List.length_nil, Nat.reduceAdd, Option.map_some, Option.map_none, List.map_cons, List.map_nil, zva, ↓reduceIte, Nat.reduceEqDiff, l2])); (solve | (conv => lhs; simp only [zfr, Nat.reduceEqDiff, Nat.reduceLT, ↓reduceIte]))) | (apply o_yes; (solve | (conv => lhs; simp only [zva, ↓reduceIte, Nat.reduceEqDiff, l2])); (solve | rfl)) | (apply o_no; (solve | (conv => lhs; simp only [zva, ↓reduceIte, Nat.reduceEqDiff, l2])); (solve | decide); (solve | (conv => lhs; simp only [zfr, Nat.reduceEqDiff, Nat.reduceLT, ↓reduceIte]))) | (apply o_not; (solve | (conv => lhs; simp only [zva, ↓reduceIte, Nat.reduceEqDiff])); (solve | (conv => lhs; simp only [zfr, Nat.reduceEqDiff, Nat.reduceLT, ↓reduceIte]))) | (apply o_if; (solve | (conv => lhs; simp only [zva, ↓reduceIte, Nat.reduceEqDiff])); (solve | (intro hbb; conv => lhs; simp (disch := first | omega | (simp only [Val.cells, List.all_cons, List.all_nil, Val.one, Bool.and_self])) only [zev, zex, Val.one, List.length_cons, List.length_nil, Nat.reduceAdd, Option.map_some, Option.map_none, List.map_cons, List.map_nil, zva, ↓reduceIte, Nat.reduceEqDiff, hbb, l2])); (solve | (conv => lhs; simp only [zfr, Nat.reduceEqDiff, Nat.reduceLT, ↓reduceIte]))) | (apply o_end; (solve | (conv => lhs; simp only [zdr, inl, Nat.reduceEqDiff, or_false, or_true, ↓reduceIte]))) | apply g_seq | apply g_region | apply g_next | apply g_block | apply g_out | (apply g_true; (solve | (conv => lhs; simp only [zva, ↓reduceIte, Nat.reduceEqDiff, l2]))) | (apply g_false; (solve | (conv => lhs; simp only [zva, ↓reduceIte, Nat.reduceEqDiff, l2]))) | apply g_here | (apply g_past; (solve | decide)) | apply g_exit | apply g_retc | apply g_retb | apply g_ret | apply g_done)
            exact rest
          · simp only [List.cons_append, List.nil_append]
            repeat' (first | (apply o_op; (solve | (conv => lhs; simp (disch := first | omega | (simp only [Val.cells, List.all_cons, List.all_nil, Val.one, Bool.and_self])) only [zev, zex, Val.one, List.length_cons, List.length_nil, Nat.reduceAdd, Option.map_some, Option.map_none, List.map_cons, List.map_nil, zva, ↓reduceIte, Nat.reduceEqDiff, l2])); (solve | (conv => lhs; simp only [zfr, Nat.reduceEqDiff, Nat.reduceLT, ↓reduceIte]))) | (apply o_yes; (solve | (conv => lhs; simp only [zva, ↓reduceIte, Nat.reduceEqDiff, l2])); (solve | rfl)) | (apply o_no; (solve | (conv => lhs; simp only [zva, ↓reduceIte, Nat.reduceEqDiff, l2])); (solve | decide); (solve | (conv => lhs; simp only [zfr, Nat.reduceEqDiff, Nat.reduceLT, ↓reduceIte]))) | (apply o_not; (solve | (conv => lhs; simp only [zva, ↓reduceIte, Nat.reduceEqDiff])); (solve | (conv => lhs; simp only [zfr, Nat.reduceEqDiff, Nat.reduceLT, ↓reduceIte]))) | (apply o_if; (solve | (conv => lhs; simp only [zva, ↓reduceIte, Nat.reduceEqDiff])); (solve | (intro hbb; conv => lhs; simp (disch := first | omega | (simp only [Val.cells, List.all_cons, List.all_nil, Val.one, Bool.and_self])) only [zev, zex, Val.one, List.length_cons, List.length_nil, Nat.reduceAdd, Option.map_some, Option.map_none, List.map_cons, List.map_nil, zva, ↓reduceIte, Nat.reduceEqDiff, hbb, l2])); (solve | (conv => lhs; simp only [zfr, Nat.reduceEqDiff, Nat.reduceLT, ↓reduceIte]))) | (apply o_end; (solve | (conv => lhs; simp only [zdr, inl, Nat.reduceEqDiff, or_false, or_true, ↓reduceIte]))) | apply g_seq | apply g_region | apply g_next | apply g_block | apply g_out | (apply g_true; (solve | (conv => lhs; simp only [zva, ↓reduceIte, Nat.reduceEqDiff, l2]))) | (apply g_false; (solve | (conv => lhs; simp only [zva, ↓reduceIte, Nat.reduceEqDiff, l2]))) | apply g_here | (apply g_past; (solve | decide)) | apply g_exit | apply g_retc | apply g_retb | apply g_ret | apply g_done)
            exact rest
        · have hc' : c.toNat ≠ 40 := fun h => hc (by have := (u8_eq (c := c) (n := 40) (by omega)).1 h; rw [this]; rfl)
          have e1 : ((c.toNat : Int) == 40) = false := by
            rw [beq_eq_false_iff_ne]; omega
          have s1 : (h.set rb (some ⟨[.str r, .bool true], true, 0⟩)).store base rb 1 [.bool false] = some (h.set rb (some ⟨[.str r, .bool false], true, 0⟩)) := by
            rw [store_one get_set_self hb rfl (by simp) rfl, set_set]; rfl
          repeat' (first | (apply o_op; (solve | (conv => lhs; simp (disch := first | omega | (simp only [Val.cells, List.all_cons, List.all_nil, Val.one, Bool.and_self])) only [zev, zex, Val.one, List.length_cons, List.length_nil, Nat.reduceAdd, Option.map_some, Option.map_none, List.map_cons, List.map_nil, zva, ↓reduceIte, Nat.reduceEqDiff, d1, l1, e1, s1])); (solve | (conv => lhs; simp only [zfr, Nat.reduceEqDiff, Nat.reduceLT, ↓reduceIte]))) | (apply o_yes; (solve | (conv => lhs; simp only [zva, ↓reduceIte, Nat.reduceEqDiff, d1, l1, e1, s1])); (solve | rfl)) | (apply o_no; (solve | (conv => lhs; simp only [zva, ↓reduceIte, Nat.reduceEqDiff, d1, l1, e1, s1])); (solve | decide); (solve | (conv => lhs; simp only [zfr, Nat.reduceEqDiff, Nat.reduceLT, ↓reduceIte]))) | (apply o_not; (solve | (conv => lhs; simp only [zva, ↓reduceIte, Nat.reduceEqDiff])); (solve | (conv => lhs; simp only [zfr, Nat.reduceEqDiff, Nat.reduceLT, ↓reduceIte]))) | (apply o_if; (solve | (conv => lhs; simp only [zva, ↓reduceIte, Nat.reduceEqDiff])); (solve | (intro hbb; conv => lhs; simp (disch := first | omega | (simp only [Val.cells, List.all_cons, List.all_nil, Val.one, Bool.and_self])) only [zev, zex, Val.one, List.length_cons, List.length_nil, Nat.reduceAdd, Option.map_some, Option.map_none, List.map_cons, List.map_nil, zva, ↓reduceIte, Nat.reduceEqDiff, hbb, d1, l1, e1, s1])); (solve | (conv => lhs; simp only [zfr, Nat.reduceEqDiff, Nat.reduceLT, ↓reduceIte]))) | (apply o_end; (solve | (conv => lhs; simp only [zdr, inl, Nat.reduceEqDiff, or_false, or_true, ↓reduceIte]))) | apply g_seq | apply g_region | apply g_next | apply g_block | apply g_out | (apply g_true; (solve | (conv => lhs; simp only [zva, ↓reduceIte, Nat.reduceEqDiff, d1, l1, e1, s1]))) | (apply g_false; (solve | (conv => lhs; simp only [zva, ↓reduceIte, Nat.reduceEqDiff, d1, l1, e1, s1]))) | apply g_here | (apply g_past; (solve | decide)) | apply g_exit | apply g_retc | apply g_retb | apply g_ret | apply g_done)
          exact none_end r 0 (by rw [hrd, if_neg hc]) (by simp)
end Gc
end
section
/- Contracts: parse, IsTree, read. -/
set_option linter.unusedVariables false
set_option linter.unusedSimpArgs false
namespace Gc
variable {E : Env} {base kept : Nat} {h : Heap}
theorem treeOf8 {n : Nat} (hn : n ≤ 8) {s : List UInt8} : treeOf n s = match rd 8 (2 * s.length + 1) s with
    | some (t, []) => if t.set = 2 ^ n - 1 then some t else none
    | _ => none := by
  unfold treeOf
  cases h8 : rd 8 (2 * s.length + 1) s with
  | none =>
    cases hr : rd n (2 * s.length + 1) s with
    | none => rfl
    | some q => rw [(rd_up hn _).1 _ _ hr] at h8; cases h8
  | some q =>
    obtain ⟨t, r⟩ := q
    cases hr : rd n (2 * s.length + 1) s with
    | some q' =>
      have := (rd_up hn _).1 _ _ hr
      rw [this] at h8
      cases h8
      rfl
    | none =>
      cases r with
      | cons c r => rfl
      | nil =>
        simp only
        by_cases hs : t.set = 2 ^ n - 1
        · have := (rd_down (n := n) (2 * s.length + 1)).1 s t [] h8 (fun i hi => by rw [hs] at hi; exact bit_full.1 hi)
          rw [hr] at this
          cases this
        · rw [if_neg hs]
theorem pow_le {n : Nat} (hn : n ≤ 8) : 1 ≤ 2 ^ n ∧ 2 ^ n ≤ 256 := ⟨Nat.one_le_two_pow, by
  have := Nat.pow_le_pow_right (n := 2) (by omega) hn
  simpa using this⟩
theorem parse_run {l : List Nat} (hE : E.Has tabs05 l) (hf : ∀ f ∈ F.breed_parse :: needRead, f ∈ l) (w : h.Wf) (tb : Tables h) {n : Nat} (hn : n ≤ 8) (h2s : 2 ≤ h.size) {s : List UInt8} :
    CallV E h.size F.breed_parse [.int .i64 (n : Int), .str s] h fun r h' => Left' h h' ∧ match treeOf n s with
      | none => r = .nili
      | some t => TreeAt (fun j => h.size ≤ j ∧ j < h'.size) h' t r := by
  refine c_begin hE (hf _ (by simp)) rfl (by decide) (by decide) ?_
  simp only [T.breed_parse, Frame.enterFrom, Nat.zero_add, Nat.reduceAdd]
  have f1 : fill [Val.str [], .bool false] [(0, 1, .str s), (1, 1, .bool true)] = some [.str s, .bool true] := rfl
  repeat' (first | (apply o_op; (solve | (conv => lhs; simp (disch := first | omega | (simp only [Val.cells, List.all_cons, List.all_nil, Val.one, Bool.and_self])) only [zev, zex, Val.one, List.length_cons, List.length_nil, Nat.reduceAdd, Option.map_some, Option.map_none, List.map_cons, List.map_nil, zva, ↓reduceIte, Nat.reduceEqDiff, f1])); (solve | (conv => lhs; simp only [zfr, Nat.reduceEqDiff, Nat.reduceLT, ↓reduceIte]))) | (apply o_yes; (solve | (conv => lhs; simp only [zva, ↓reduceIte, Nat.reduceEqDiff, f1])); (solve | rfl)) | (apply o_no; (solve | (conv => lhs; simp only [zva, ↓reduceIte, Nat.reduceEqDiff, f1])); (solve | decide); (solve | (conv => lhs; simp only [zfr, Nat.reduceEqDiff, Nat.reduceLT, ↓reduceIte]))) | (apply o_not; (solve | (conv => lhs; simp only [zva, ↓reduceIte, Nat.reduceEqDiff])); (solve | (conv => lhs; simp only [zfr, Nat.reduceEqDiff, Nat.reduceLT, ↓reduceIte]))) | (apply o_if; (solve | (conv => lhs; simp only [zva, ↓reduceIte, Nat.reduceEqDiff])); (solve | (intro hbb; conv => lhs; simp (disch := first | omega | (simp only [Val.cells, List.all_cons, List.all_nil, Val.one, Bool.and_self])) only [zev, zex, Val.one, List.length_cons, List.length_nil, Nat.reduceAdd, Option.map_some, Option.map_none, List.map_cons, List.map_nil, zva, ↓reduceIte, Nat.reduceEqDiff, hbb, f1])); (solve | (conv => lhs; simp only [zfr, Nat.reduceEqDiff, Nat.reduceLT, ↓reduceIte]))) | (apply o_end; (solve | (conv => lhs; simp only [zdr, inl, Nat.reduceEqDiff, or_false, or_true, ↓reduceIte]))) | apply g_seq | apply g_region | apply g_next | apply g_block | apply g_out | (apply g_true; (solve | (conv => lhs; simp only [zva, ↓reduceIte, Nat.reduceEqDiff, f1]))) | (apply g_false; (solve | (conv => lhs; simp only [zva, ↓reduceIte, Nat.reduceEqDiff, f1]))) | apply g_here | (apply g_past; (solve | decide)) | apply g_exit | apply g_retc | apply g_retb | apply g_ret | apply g_done)
  have L1 := left_push w (some ⟨[.str s, .bool true], true, 0⟩)
  have g1 : (h.push (some ⟨[.str s, .bool true], true, 0⟩)).get h.size = some ⟨[.str s, .bool true], true, 0⟩ := get_push_self
  have s1 : h.size < (h.push (some ⟨[.str s, .bool true], true, 0⟩)).size := by simp
  generalize h.push (some ⟨[.str s, .bool true], true, 0⟩) = h1 at L1 g1 s1 ⊢
  (apply o_call; (solve | (conv => lhs; simp only [Callee.find, List.map_cons, List.map_nil, List.cons_append, List.nil_append, zva, ↓reduceIte, Nat.reduceEqDiff])))
  · exact reader_run hE (fun f hf' => hf f (List.mem_cons_of_mem _ hf')) (s.length + 1) s (2 * s.length + 1) h1 h.size h.size (by omega) (by omega) L1.2.1 (tb.keep w L1.1) (Nat.le_refl _) (by omega) (by omega) g1
  rintro v h3 ⟨q, ok, p1, p2, p3, p4, p5, p6, p7⟩
  (conv => arg 8; simp only [zfr, Nat.reduceEqDiff, Nat.reduceLT, ↓reduceIte])
  have L3 : Left' h h3 := ⟨fun j hj => by rw [p2 j (by omega) (by omega), L1.1 j hj], p3, by omega⟩
  have lq : h3.load false 1 h.size 0 = some (.str q) := load_one p1 rfl
  have lok : h3.load false 1 h.size 1 = some (.bool ok) := load_one p1 rfl
  cases ok with
  | false =>
    obtain ⟨e1, _⟩ := p7 rfl
    repeat' (first | (apply o_op; (solve | (conv => lhs; simp (disch := first | omega | (simp only [Val.cells, List.all_cons, List.all_nil, Val.one, Bool.and_self])) only [zev, zex, Val.one, List.length_cons, List.length_nil, Nat.reduceAdd, Option.map_some, Option.map_none, List.map_cons, List.map_nil, zva, ↓reduceIte, Nat.reduceEqDiff, lok])); (solve | (conv => lhs; simp only [zfr, Nat.reduceEqDiff, Nat.reduceLT, ↓reduceIte]))) | (apply o_yes; (solve | (conv => lhs; simp only [zva, ↓reduceIte, Nat.reduceEqDiff, lok])); (solve | rfl)) | (apply o_no; (solve | (conv => lhs; simp only [zva, ↓reduceIte, Nat.reduceEqDiff, lok])); (solve | decide); (solve | (conv => lhs; simp only [zfr, Nat.reduceEqDiff, Nat.reduceLT, ↓reduceIte]))) | (apply o_not; (solve | (conv => lhs; simp only [zva, ↓reduceIte, Nat.reduceEqDiff])); (solve | (conv => lhs; simp only [zfr, Nat.reduceEqDiff, Nat.reduceLT, ↓reduceIte]))) | (apply o_if; (solve | (conv => lhs; simp only [zva, ↓reduceIte, Nat.reduceEqDiff])); (solve | (intro hbb; conv => lhs; simp (disch := first | omega | (simp only [Val.cells, List.all_cons, List.all_nil, Val.one, Bool.and_self])) only [zev, zex, Val.one, List.length_cons, List.length_nil, Nat.reduceAdd, Option.map_some, Option.map_none, List.map_cons, List.map_nil, zva, ↓reduceIte, Nat.reduceEqDiff, hbb, lok])); (solve | (conv => lhs; simp only [zfr, Nat.reduceEqDiff, Nat.reduceLT, ↓reduceIte]))) | (apply o_end; (solve | (conv => lhs; simp only [zdr, inl, Nat.reduceEqDiff, or_false, or_true, ↓reduceIte]))) | apply g_seq | apply g_region | apply g_next | apply g_block | apply g_out | (apply g_true; (solve | (conv => lhs; simp only [zva, ↓reduceIte, Nat.reduceEqDiff, lok]))) | (apply g_false; (solve | (conv => lhs; simp only [zva, ↓reduceIte, Nat.reduceEqDiff, lok]))) | apply g_here | (apply g_past; (solve | decide)) | apply g_exit | apply g_retc | apply g_retb | apply g_ret | apply g_done)
    refine ⟨.inr rfl, _, rfl, L3, ?_⟩
    rw [treeOf8 hn, e1]
    rfl
  | true =>
    obtain ⟨t, e1, ht⟩ := p6 rfl
    obtain ⟨ty, cs, rfl, hty⟩ := ht.iface
    obtain ⟨tv, _⟩ := (rd_ok (Nat.le_refl 8) _).1 s t q e1
    cases q with
    | cons c q =>
      have eq1 : (!(c :: q == ([] : List UInt8))) = true := rfl
      repeat' (first | (apply o_op; (solve | (conv => lhs; simp (disch := first | omega | (simp only [Val.cells, List.all_cons, List.all_nil, Val.one, Bool.and_self])) only [zev, zex, Val.one, List.length_cons, List.length_nil, Nat.reduceAdd, Option.map_some, Option.map_none, List.map_cons, List.map_nil, zva, ↓reduceIte, Nat.reduceEqDiff, lok, lq, eq1])); (solve | (conv => lhs; simp only [zfr, Nat.reduceEqDiff, Nat.reduceLT, ↓reduceIte]))) | (apply o_yes; (solve | (conv => lhs; simp only [zva, ↓reduceIte, Nat.reduceEqDiff, lok, lq, eq1])); (solve | rfl)) | (apply o_no; (solve | (conv => lhs; simp only [zva, ↓reduceIte, Nat.reduceEqDiff, lok, lq, eq1])); (solve | decide); (solve | (conv => lhs; simp only [zfr, Nat.reduceEqDiff, Nat.reduceLT, ↓reduceIte]))) | (apply o_not; (solve | (conv => lhs; simp only [zva, ↓reduceIte, Nat.reduceEqDiff])); (solve | (conv => lhs; simp only [zfr, Nat.reduceEqDiff, Nat.reduceLT, ↓reduceIte]))) | (apply o_if; (solve | (conv => lhs; simp only [zva, ↓reduceIte, Nat.reduceEqDiff])); (solve | (intro hbb; conv => lhs; simp (disch := first | omega | (simp only [Val.cells, List.all_cons, List.all_nil, Val.one, Bool.and_self])) only [zev, zex, Val.one, List.length_cons, List.length_nil, Nat.reduceAdd, Option.map_some, Option.map_none, List.map_cons, List.map_nil, zva, ↓reduceIte, Nat.reduceEqDiff, hbb, lok, lq, eq1])); (solve | (conv => lhs; simp only [zfr, Nat.reduceEqDiff, Nat.reduceLT, ↓reduceIte]))) | (apply o_end; (solve | (conv => lhs; simp only [zdr, inl, Nat.reduceEqDiff, or_false, or_true, ↓reduceIte]))) | apply g_seq | apply g_region | apply g_next | apply g_block | apply g_out | (apply g_true; (solve | (conv => lhs; simp only [zva, ↓reduceIte, Nat.reduceEqDiff, lok, lq, eq1]))) | (apply g_false; (solve | (conv => lhs; simp only [zva, ↓reduceIte, Nat.reduceEqDiff, lok, lq, eq1]))) | apply g_here | (apply g_past; (solve | decide)) | apply g_exit | apply g_retc | apply g_retb | apply g_ret | apply g_done)
      refine ⟨.inr rfl, _, rfl, L3, ?_⟩
      rw [treeOf8 hn, e1]
      rfl
    | nil =>
      have eq1 : (!(([] : List UInt8) == ([] : List UInt8))) = false := rfl
      obtain ⟨hp1, hp2⟩ := pow_le hn
      have bsh : binOp .plain .shl (.int .i64 1) (.int .i64 (n : Int)) = some (.int .i64 ((2 ^ n : Nat) : Int)) := b_shl1 (by omega)
      have hres : treeOf n s = if t.set = 2 ^ n - 1 then some t else none := by rw [treeOf8 hn, e1]
      rw [hres]
      generalize 2 ^ n = pn at hp1 hp2 bsh
      have htlt := tv.lt
      repeat' (first | (apply o_op; (solve | (conv => lhs; simp (disch := first | omega | (simp only [Val.cells, List.all_cons, List.all_nil, Val.one, Bool.and_self])) only [zev, zex, Val.one, List.length_cons, List.length_nil, Nat.reduceAdd, Option.map_some, Option.map_none, List.map_cons, List.map_nil, zva, ↓reduceIte, Nat.reduceEqDiff, lok, lq, eq1, bsh])); (solve | (conv => lhs; simp only [zfr, Nat.reduceEqDiff, Nat.reduceLT, ↓reduceIte]))) | (apply o_yes; (solve | (conv => lhs; simp only [zva, ↓reduceIte, Nat.reduceEqDiff, lok, lq, eq1, bsh])); (solve | rfl)) | (apply o_no; (solve | (conv => lhs; simp only [zva, ↓reduceIte, Nat.reduceEqDiff, lok, lq, eq1, bsh])); (solve | decide); (solve | (conv => lhs; simp only [zfr, Nat.reduceEqDiff, Nat.reduceLT, ↓reduceIte]))) | (apply o_not; (solve | (conv => lhs; simp only [zva, ↓reduceIte, Nat.reduceEqDiff])); (solve | (conv => lhs; simp only [zfr, Nat.reduceEqDiff, Nat.reduceLT, ↓reduceIte]))) | (apply o_if; (solve | (conv => lhs; simp only [zva, ↓reduceIte, Nat.reduceEqDiff])); (solve | (intro hbb; conv => lhs; simp (disch := first | omega | (simp only [Val.cells, List.all_cons, List.all_nil, Val.one, Bool.and_self])) only [zev, zex, Val.one, List.length_cons, List.length_nil, Nat.reduceAdd, Option.map_some, Option.map_none, List.map_cons, List.map_nil, zva, ↓reduceIte, Nat.reduceEqDiff, hbb, lok, lq, eq1, bsh])); (solve | (conv => lhs; simp only [zfr, Nat.reduceEqDiff, Nat.reduceLT, ↓reduceIte]))) | (apply o_end; (solve | (conv => lhs; simp only [zdr, inl, Nat.reduceEqDiff, or_false, or_true, ↓reduceIte]))) | apply g_seq | apply g_region | apply g_next | apply g_block | apply g_out | (apply g_true; (solve | (conv => lhs; simp only [zva, ↓reduceIte, Nat.reduceEqDiff, lok, lq, eq1, bsh]))) | (apply g_false; (solve | (conv => lhs; simp only [zva, ↓reduceIte, Nat.reduceEqDiff, lok, lq, eq1, bsh]))) | apply g_here | (apply g_past; (solve | decide)) | apply g_exit | apply g_retc | apply g_retb | apply g_ret | apply g_done)
      refine o_beasts hE (hf _ (by decide)) (by simp only [zva, ↓reduceIte, Nat.reduceEqDiff]) ht rfl ?_
      (conv => arg 8; simp only [zfr, Nat.reduceEqDiff, Nat.reduceLT, ↓reduceIte])
      by_cases hs : t.set = pn - 1
      · have e2 : ((t.set : Int) != (pn : Int) - 1) = false := by
          rw [bne_eq_false_iff_eq]; omega
        repeat' (first | (apply o_op; (solve | (conv => lhs; simp (disch := first | omega | (simp only [Val.cells, List.all_cons, List.all_nil, Val.one, Bool.and_self])) only [zev, zex, Val.one, List.length_cons, List.length_nil, Nat.reduceAdd, Option.map_some, Option.map_none, List.map_cons, List.map_nil, zva, ↓reduceIte, Nat.reduceEqDiff, e2])); (solve | (conv => lhs; simp only [zfr, Nat.reduceEqDiff, Nat.reduceLT, ↓reduceIte]))) | (apply o_yes; (solve | (conv => lhs; simp only [zva, ↓reduceIte, Nat.reduceEqDiff, e2])); (solve | rfl)) | (apply o_no; (solve | (conv => lhs; simp only [zva, ↓reduceIte, Nat.reduceEqDiff, e2])); (solve | decide); (solve | (conv => lhs; simp only [zfr, Nat.reduceEqDiff, Nat.reduceLT, ↓reduceIte]))) | (apply o_not; (solve | (conv => lhs; simp only [zva, ↓reduceIte, Nat.reduceEqDiff])); (solve | (conv => lhs; simp only [zfr, Nat.reduceEqDiff, Nat.reduceLT, ↓reduceIte]))) | (apply o_if; (solve | (conv => lhs; simp only [zva, ↓reduceIte, Nat.reduceEqDiff])); (solve | (intro hbb; conv => lhs; simp (disch := first | omega | (simp only [Val.cells, List.all_cons, List.all_nil, Val.one, Bool.and_self])) only [zev, zex, Val.one, List.length_cons, List.length_nil, Nat.reduceAdd, Option.map_some, Option.map_none, List.map_cons, List.map_nil, zva, ↓reduceIte, Nat.reduceEqDiff, hbb, e2])); (solve | (conv => lhs; simp only [zfr, Nat.reduceEqDiff, Nat.reduceLT, ↓reduceIte]))) | (apply o_end; (solve | (conv => lhs; simp only [zdr, inl, Nat.reduceEqDiff, or_false, or_true, ↓reduceIte]))) | apply g_seq | apply g_region | apply g_next | apply g_block | apply g_out | (apply g_true; (solve | (conv => lhs; simp only [zva, ↓reduceIte, Nat.reduceEqDiff, e2]))) | (apply g_false; (solve | (conv => lhs; simp only [zva, ↓reduceIte, Nat.reduceEqDiff, e2]))) | apply g_here | (apply g_past; (solve | decide)) | apply g_exit | apply g_retc | apply g_retb | apply g_ret | apply g_done)
        refine ⟨.inr rfl, _, rfl, L3, ?_⟩
        rw [if_pos hs]
        exact TreeAt.keep (fun _ _ => rfl) (fun j hj => by omega) _ _ ht
      · have e2 : ((t.set : Int) != (pn : Int) - 1) = true := by
          rw [bne_iff_ne]; omega
        repeat' (first | (apply o_op; (solve | (conv => lhs; simp (disch := first | omega | (simp only [Val.cells, List.all_cons, List.all_nil, Val.one, Bool.and_self])) only [zev, zex, Val.one, List.length_cons, List.length_nil, Nat.reduceAdd, Option.map_some, Option.map_none, List.map_cons, List.map_nil, zva, ↓reduceIte, Nat.reduceEqDiff, e2])); (solve | (conv => lhs; simp only [zfr, Nat.reduceEqDiff, Nat.reduceLT, ↓reduceIte]))) | (apply o_yes; (solve | (conv => lhs; simp only [zva, ↓reduceIte, Nat.reduceEqDiff, e2])); (solve | rfl)) | (apply o_no; (solve | (conv => lhs; simp only [zva, ↓reduceIte, Nat.reduceEqDiff, e2])); (solve | decide); (solve | (conv => lhs; simp only [zfr, Nat.reduceEqDiff, Nat.reduceLT, ↓reduceIte]))) | (apply o_not; (solve | (conv => lhs; simp only [zva, ↓reduceIte, Nat.reduceEqDiff])); (solve | (conv => lhs; simp only [zfr, Nat.reduceEqDiff, Nat.reduceLT, ↓reduceIte]))) | (apply o_if; (solve | (conv => lhs; simp only [zva, ↓reduceIte, Nat.reduceEqDiff])); (solve | (intro hbb; conv => lhs; simp (disch := first | omega | (simp only [Val.cells, List.all_cons, List.all_nil, Val.one, Bool.and_self])) only [zev, zex, Val.one, List.length_cons, List.length_nil, Nat.reduceAdd, Option.map_some, Option.map_none, List.map_cons, List.map_nil, zva, ↓reduceIte, Nat.reduceEqDiff, hbb, e2])); (solve | (conv => lhs; simp only [zfr, Nat.reduceEqDiff, Nat.reduceLT, ↓reduceIte]))) | (apply o_end; (solve | (conv => lhs; simp only [zdr, inl, Nat.reduceEqDiff, or_false, or_true, ↓reduceIte]))) | apply g_seq | apply g_region | apply g_next | apply g_block | apply g_out | (apply g_true; (solve | (conv => lhs; simp only [zva, ↓reduceIte, Nat.reduceEqDiff, e2]))) | (apply g_false; (solve | (conv => lhs; simp only [zva, ↓reduceIte, Nat.reduceEqDiff, e2]))) | apply g_here | (apply g_past; (solve | decide)) | apply g_exit | apply g_retc | apply g_retb | apply g_ret | apply g_done)
        refine ⟨.inr rfl, _, rfl, L3, ?_⟩
        rw [if_neg hs]
        rfl
/-- The tree that a string is, for every number n. -/
def treeI (n : Int) (s : List UInt8) : Option Tr := if 1 ≤ n ∧ n ≤ 8 then treeOf n.toNat s else none
/-- A slice holds strings. -/
def StrsAt (h : Heap) (v : Val) (ss : List (List UInt8)) : Prop := (∀ s, v ≠ .str s) ∧ spread h 1 v = some (ss.length, ss.map .str)
theorem StrsAt.left {h h' : Heap} {v : Val} {l : List (List UInt8)} (t : StrsAt h v l) (w : h.Wf) (L : Left' h h') : StrsAt h' v l := ⟨t.1, spread_left w t.2 L⟩
theorem StrsAt.len {h : Heap} {v : Val} {l : List (List UInt8)} (t : StrsAt h v l) : lenV h false v = some (.int .i64 (l.length : Int), h) := spread_len t.1 t.2
theorem StrsAt.elem {h : Heap} {v : Val} {l : List (List UInt8)} (t : StrsAt h v l) {i : Nat} (hi : i < l.length) : ∃ p, indexAddrV h 1 v (.int .i64 (i : Int)) = some (p, h) ∧ loadV h false 1 p = some (.str l[i], h) := by
  obtain ⟨k, o, c, rfl, e1, e2⟩ := spread_elem (ki := .i64) t.1 t.2 hi
  refine ⟨_, e1, ?_⟩
  rw [loadV_ptr, e2 false 1 (Nat.le_refl _), Nat.mul_one]
  rw [List.drop_eq_getElem_cons (by simpa using hi)]
  simp [withH, Val.ofCells]
/-- The error of a number and texts. -/
def readErr (n : Int) (ss : List (List UInt8)) : Int := if 1 ≤ n ∧ n ≤ 8 then (if ss.all (fun s => (treeI n s).isSome) then 0 else 5) else 2
theorem treeI_V {n : Int} {s : List UInt8} {t : Tr} (h : treeI n s = some t) : t.V ∧ t.set = 2 ^ n.toNat - 1 ∧ s = t.text ∧ 1 ≤ n ∧ n ≤ 8 := by
  unfold treeI at h
  split at h
  · rename_i hn
    obtain ⟨a, b, c⟩ := (treeOf_iff (by omega)).1 h
    exact ⟨a, b, c, hn⟩
  · cases h
theorem read_run {l : List Nat} (hE : E.Has tabs05 l) (hf : ∀ f ∈ F.breed_read :: F.breed_herd :: F.breed_parse :: needRead, f ∈ l) (w : h.Wf) (tb : Tables h) {n : Int} (h2s : 2 ≤ h.size) {v : Val} {ss : List (List UInt8)} (hv : StrsAt h v ss) (hlen : ss.length ≤ 100) :
    CallV E h.size F.breed_read [.int .i64 n, v] h fun r h' => Left' h h' ∧ ∃ lv, r = .tup [lv, .int .i64 (readErr n ss)] ∧ lv.one = true ∧ (readErr n ss = 0 → ∃ zs : List Z, ListAt h.size h' lv zs ∧ ss.map (treeI n) = zs.map fun z => some z.1) := by
  refine c_begin hE (hf _ (by simp)) rfl (by decide) (by decide) ?_
  simp only [T.breed_read, Frame.enterFrom, Nat.zero_add, Nat.reduceAdd]
  repeat' (first | (apply o_op; (solve | (conv => lhs; simp (disch := first | omega | (simp only [Val.cells, List.all_cons, List.all_nil, Val.one, Bool.and_self])) only [zev, zex, Val.one, List.length_cons, List.length_nil, Nat.reduceAdd, Option.map_some, Option.map_none, List.map_cons, List.map_nil, zva, ↓reduceIte, Nat.reduceEqDiff])); (solve | (conv => lhs; simp only [zfr, Nat.reduceEqDiff, Nat.reduceLT, ↓reduceIte]))) | (apply o_yes; (solve | (conv => lhs; simp only [zva, ↓reduceIte, Nat.reduceEqDiff])); (solve | rfl)) | (apply o_no; (solve | (conv => lhs; simp only [zva, ↓reduceIte, Nat.reduceEqDiff])); (solve | decide); (solve | (conv => lhs; simp only [zfr, Nat.reduceEqDiff, Nat.reduceLT, ↓reduceIte]))) | (apply o_not; (solve | (conv => lhs; simp only [zva, ↓reduceIte, Nat.reduceEqDiff])); (solve | (conv => lhs; simp only [zfr, Nat.reduceEqDiff, Nat.reduceLT, ↓reduceIte]))) | (apply o_if; (solve | (conv => lhs; simp only [zva, ↓reduceIte, Nat.reduceEqDiff])); (solve | (intro hbb; conv => lhs; simp (disch := first | omega | (simp only [Val.cells, List.all_cons, List.all_nil, Val.one, Bool.and_self])) only [zev, zex, Val.one, List.length_cons, List.length_nil, Nat.reduceAdd, Option.map_some, Option.map_none, List.map_cons, List.map_nil, zva, ↓reduceIte, Nat.reduceEqDiff, hbb])); (solve | (conv => lhs; simp only [zfr, Nat.reduceEqDiff, Nat.reduceLT, ↓reduceIte]))) | (apply o_end; (solve | (conv => lhs; simp only [zdr, inl, Nat.reduceEqDiff, or_false, or_true, ↓reduceIte]))) | apply g_seq | apply g_region | apply g_next | apply g_block | apply g_out | (apply g_true; (solve | (conv => lhs; simp only [zva, ↓reduceIte, Nat.reduceEqDiff]))) | (apply g_false; (solve | (conv => lhs; simp only [zva, ↓reduceIte, Nat.reduceEqDiff]))) | apply g_here | (apply g_past; (solve | decide)) | apply g_exit | apply g_retc | apply g_retb | apply g_ret | apply g_done)
  (apply o_call; (solve | (conv => lhs; simp only [Callee.find, List.map_cons, List.map_nil, List.cons_append, List.nil_append, zva, ↓reduceIte, Nat.reduceEqDiff])))
  · exact herd_run hE (hf _ (by simp))
  rintro _ h' ⟨rfl, e⟩
  have e := e.symm
  subst e
  (conv => arg 8; simp only [zfr, Nat.reduceEqDiff, Nat.reduceLT, ↓reduceIte])
  by_cases hn : 1 ≤ n ∧ n ≤ 8
  · obtain ⟨m0, rfl⟩ : ∃ m : Nat, n = m := ⟨n.toNat, by omega⟩
    rw [decide_eq_true hn]
    have e1 : ∀ s, treeI (m0 : Int) s = treeOf m0 s := fun s => by rw [treeI, if_pos hn]; simp
    have elen := hv.len
    repeat' (first | (apply o_op; (solve | (conv => lhs; simp (disch := first | omega | (simp only [Val.cells, List.all_cons, List.all_nil, Val.one, Bool.and_self])) only [zev, zex, Val.one, List.length_cons, List.length_nil, Nat.reduceAdd, Option.map_some, Option.map_none, List.map_cons, List.map_nil, zva, ↓reduceIte, Nat.reduceEqDiff, elen])); (solve | (conv => lhs; simp only [zfr, Nat.reduceEqDiff, Nat.reduceLT, ↓reduceIte]))) | (apply o_yes; (solve | (conv => lhs; simp only [zva, ↓reduceIte, Nat.reduceEqDiff, elen])); (solve | rfl)) | (apply o_no; (solve | (conv => lhs; simp only [zva, ↓reduceIte, Nat.reduceEqDiff, elen])); (solve | decide); (solve | (conv => lhs; simp only [zfr, Nat.reduceEqDiff, Nat.reduceLT, ↓reduceIte]))) | (apply o_not; (solve | (conv => lhs; simp only [zva, ↓reduceIte, Nat.reduceEqDiff])); (solve | (conv => lhs; simp only [zfr, Nat.reduceEqDiff, Nat.reduceLT, ↓reduceIte]))) | (apply o_if; (solve | (conv => lhs; simp only [zva, ↓reduceIte, Nat.reduceEqDiff])); (solve | (intro hbb; conv => lhs; simp (disch := first | omega | (simp only [Val.cells, List.all_cons, List.all_nil, Val.one, Bool.and_self])) only [zev, zex, Val.one, List.length_cons, List.length_nil, Nat.reduceAdd, Option.map_some, Option.map_none, List.map_cons, List.map_nil, zva, ↓reduceIte, Nat.reduceEqDiff, hbb, elen])); (solve | (conv => lhs; simp only [zfr, Nat.reduceEqDiff, Nat.reduceLT, ↓reduceIte]))) | (apply o_end; (solve | (conv => lhs; simp only [zdr, inl, Nat.reduceEqDiff, or_false, or_true, ↓reduceIte]))) | apply g_seq | apply g_region | apply g_next | apply g_block | apply g_out | (apply g_true; (solve | (conv => lhs; simp only [zva, ↓reduceIte, Nat.reduceEqDiff, elen]))) | (apply g_false; (solve | (conv => lhs; simp only [zva, ↓reduceIte, Nat.reduceEqDiff, elen]))) | apply g_here | (apply g_past; (solve | decide)) | apply g_exit | apply g_retc | apply g_retb | apply g_ret | apply g_done)
    refine loop_ind (fun m fr h2 => ∃ (i : Nat) (lv : Val) (zs : List Z), i + m = ss.length ∧ fr = [(0, .int .i64 (m0 : Int)), (6, lv), (13, v), (14, .int .i64 (ss.length : Int)), (15, .int .i64 (i : Int))] ∧ Left' h h2 ∧ ListAt h.size h2 lv zs ∧ (ss.take i).map (treeI m0) = zs.map fun z => some z.1) ?_ ss.length _ _
      ⟨0, .nils, [], by omega, rfl, Left'.refl w, .inl ⟨rfl, rfl⟩, rfl⟩
    rintro m fr h2 ⟨i, lv, zs, him, rfl, L2, hla, hzs⟩ ih
    have hzl : zs.length ≤ 100 := by
      have := congrArg List.length hzs
      simp at this
      omega
    by_cases hi : i < ss.length
    · have d2 : decide ((i : Int) < (ss.length : Int)) = true := decide_eq_true (by omega)
      obtain ⟨p, p1, p2⟩ := (hv.left w L2).elem hi
      have hs2 := L2.2.2
      repeat' (first | (apply o_op; (solve | (conv => lhs; simp (disch := first | omega | (simp only [Val.cells, List.all_cons, List.all_nil, Val.one, Bool.and_self])) only [zev, zex, Val.one, List.length_cons, List.length_nil, Nat.reduceAdd, Option.map_some, Option.map_none, List.map_cons, List.map_nil, zva, ↓reduceIte, Nat.reduceEqDiff, d2, p1, p2])); (solve | (conv => lhs; simp only [zfr, Nat.reduceEqDiff, Nat.reduceLT, ↓reduceIte]))) | (apply o_yes; (solve | (conv => lhs; simp only [zva, ↓reduceIte, Nat.reduceEqDiff, d2, p1, p2])); (solve | rfl)) | (apply o_no; (solve | (conv => lhs; simp only [zva, ↓reduceIte, Nat.reduceEqDiff, d2, p1, p2])); (solve | decide); (solve | (conv => lhs; simp only [zfr, Nat.reduceEqDiff, Nat.reduceLT, ↓reduceIte]))) | (apply o_not; (solve | (conv => lhs; simp only [zva, ↓reduceIte, Nat.reduceEqDiff])); (solve | (conv => lhs; simp only [zfr, Nat.reduceEqDiff, Nat.reduceLT, ↓reduceIte]))) | (apply o_if; (solve | (conv => lhs; simp only [zva, ↓reduceIte, Nat.reduceEqDiff])); (solve | (intro hbb; conv => lhs; simp (disch := first | omega | (simp only [Val.cells, List.all_cons, List.all_nil, Val.one, Bool.and_self])) only [zev, zex, Val.one, List.length_cons, List.length_nil, Nat.reduceAdd, Option.map_some, Option.map_none, List.map_cons, List.map_nil, zva, ↓reduceIte, Nat.reduceEqDiff, hbb, d2, p1, p2])); (solve | (conv => lhs; simp only [zfr, Nat.reduceEqDiff, Nat.reduceLT, ↓reduceIte]))) | (apply o_end; (solve | (conv => lhs; simp only [zdr, inl, Nat.reduceEqDiff, or_false, or_true, ↓reduceIte]))) | apply g_seq | apply g_region | apply g_next | apply g_block | apply g_out | (apply g_true; (solve | (conv => lhs; simp only [zva, ↓reduceIte, Nat.reduceEqDiff, d2, p1, p2]))) | (apply g_false; (solve | (conv => lhs; simp only [zva, ↓reduceIte, Nat.reduceEqDiff, d2, p1, p2]))) | apply g_here | (apply g_past; (solve | decide)) | apply g_exit | apply g_retc | apply g_retb | apply g_ret | apply g_done)
      (apply o_call; (solve | (conv => lhs; simp only [Callee.find, List.map_cons, List.map_nil, List.cons_append, List.nil_append, zva, ↓reduceIte, Nat.reduceEqDiff])))
      · exact (parse_run hE (fun f hf' => hf f (List.mem_cons_of_mem _ (List.mem_cons_of_mem _ hf'))) L2.2.1 (tb.keep w L2.1) (n := m0) (by omega) (by omega)).lower hs2
      rintro x h3 ⟨L3, p⟩
      (conv => arg 8; simp only [zfr, Nat.reduceEqDiff, Nat.reduceLT, ↓reduceIte])
      cases ht : treeOf m0 ss[i] with
      | none =>
        rw [ht] at p
        subst p
        repeat' (first | (apply o_op; (solve | (conv => lhs; simp (disch := first | omega | (simp only [Val.cells, List.all_cons, List.all_nil, Val.one, Bool.and_self])) only [zev, zex, Val.one, List.length_cons, List.length_nil, Nat.reduceAdd, Option.map_some, Option.map_none, List.map_cons, List.map_nil, zva, ↓reduceIte, Nat.reduceEqDiff])); (solve | (conv => lhs; simp only [zfr, Nat.reduceEqDiff, Nat.reduceLT, ↓reduceIte]))) | (apply o_yes; (solve | (conv => lhs; simp only [zva, ↓reduceIte, Nat.reduceEqDiff])); (solve | rfl)) | (apply o_no; (solve | (conv => lhs; simp only [zva, ↓reduceIte, Nat.reduceEqDiff])); (solve | decide); (solve | (conv => lhs; simp only [zfr, Nat.reduceEqDiff, Nat.reduceLT, ↓reduceIte]))) | (apply o_not; (solve | (conv => lhs; simp only [zva, ↓reduceIte, Nat.reduceEqDiff])); (solve | (conv => lhs; simp only [zfr, Nat.reduceEqDiff, Nat.reduceLT, ↓reduceIte]))) | (apply o_if; (solve | (conv => lhs; simp only [zva, ↓reduceIte, Nat.reduceEqDiff])); (solve | (intro hbb; conv => lhs; simp (disch := first | omega | (simp only [Val.cells, List.all_cons, List.all_nil, Val.one, Bool.and_self])) only [zev, zex, Val.one, List.length_cons, List.length_nil, Nat.reduceAdd, Option.map_some, Option.map_none, List.map_cons, List.map_nil, zva, ↓reduceIte, Nat.reduceEqDiff, hbb])); (solve | (conv => lhs; simp only [zfr, Nat.reduceEqDiff, Nat.reduceLT, ↓reduceIte]))) | (apply o_end; (solve | (conv => lhs; simp only [zdr, inl, Nat.reduceEqDiff, or_false, or_true, ↓reduceIte]))) | apply g_seq | apply g_region | apply g_next | apply g_block | apply g_out | (apply g_true; (solve | (conv => lhs; simp only [zva, ↓reduceIte, Nat.reduceEqDiff]))) | (apply g_false; (solve | (conv => lhs; simp only [zva, ↓reduceIte, Nat.reduceEqDiff]))) | apply g_here | (apply g_past; (solve | decide)) | apply g_exit | apply g_retc | apply g_retb | apply g_ret | apply g_done)
        refine ⟨.inr rfl, _, rfl, L2.trans L3, .nils, ?_, rfl, fun h0 => ?_⟩
        · have : ¬ (ss.all (fun s => (treeI m0 s).isSome) = true) := fun h => by
            rw [List.all_eq_true] at h
            have := h _ (List.getElem_mem hi)
            rw [e1, ht] at this
            cases this
          simp [tuple, Frame.get, readErr, hn, this]
        · have : ¬ (ss.all (fun s => (treeI m0 s).isSome) = true) := fun h => by
            rw [List.all_eq_true] at h
            have := h _ (List.getElem_mem hi)
            rw [e1, ht] at this
            cases this
          simp [readErr, hn, this] at h0
      | some t =>
        rw [ht] at p
        have tv := (treeI_V ((e1 _).trans ht)).1
        obtain ⟨ty, cs, rfl, hty⟩ := TreeAt.iface p
        have hap : ∀ j, h2.size ≤ j ∧ j < h3.size → h.size ≤ j ∧ j < h3.size ∧ lv.apart j := fun j hj => ⟨by omega, by omega, by
          rcases hla with ⟨rfl, _⟩ | ⟨k0, rfl, _, hk0, _⟩
          · trivial
          · have := L2.2.1.lt hk0
            simp only [Val.apart]; omega⟩
        have hla3 := hla.keep L2.2.1 (fun j _ hj => L3.1 j hj) L3.2.2
        have L4 := L2.trans L3
        obtain ⟨h5, k5, a1, a2, a3, a4, a5, a6⟩ := hla3.snoc (base := h.size) L4.2.2 L4.2.1 (Nat.le_refl _) hap p tv.ne tv.lt (by omega)
        have f1 : fill [Val.nili] [(0, 1, .iface ty (.agg (.int .i64 (t.set : Int) :: cs)))] = some [.iface ty (.agg (.int .i64 (t.set : Int) :: cs))] := rfl
        have f2 := buildSliceV_new (h := h3) (base := h.size) (esz := 1) (n0 := 1) (cs := [.iface ty (.agg (.int .i64 (t.set : Int) :: cs))]) rfl
        repeat' (first | (apply o_op; (solve | (conv => lhs; simp (disch := first | omega | (simp only [Val.cells, List.all_cons, List.all_nil, Val.one, Bool.and_self])) only [zev, zex, Val.one, List.length_cons, List.length_nil, Nat.reduceAdd, Option.map_some, Option.map_none, List.map_cons, List.map_nil, zva, ↓reduceIte, Nat.reduceEqDiff, f1, f2, a1])); (solve | (conv => lhs; simp only [zfr, Nat.reduceEqDiff, Nat.reduceLT, ↓reduceIte]))) | (apply o_yes; (solve | (conv => lhs; simp only [zva, ↓reduceIte, Nat.reduceEqDiff, f1, f2, a1])); (solve | rfl)) | (apply o_no; (solve | (conv => lhs; simp only [zva, ↓reduceIte, Nat.reduceEqDiff, f1, f2, a1])); (solve | decide); (solve | (conv => lhs; simp only [zfr, Nat.reduceEqDiff, Nat.reduceLT, ↓reduceIte]))) | (apply o_not; (solve | (conv => lhs; simp only [zva, ↓reduceIte, Nat.reduceEqDiff])); (solve | (conv => lhs; simp only [zfr, Nat.reduceEqDiff, Nat.reduceLT, ↓reduceIte]))) | (apply o_if; (solve | (conv => lhs; simp only [zva, ↓reduceIte, Nat.reduceEqDiff])); (solve | (intro hbb; conv => lhs; simp (disch := first | omega | (simp only [Val.cells, List.all_cons, List.all_nil, Val.one, Bool.and_self])) only [zev, zex, Val.one, List.length_cons, List.length_nil, Nat.reduceAdd, Option.map_some, Option.map_none, List.map_cons, List.map_nil, zva, ↓reduceIte, Nat.reduceEqDiff, hbb, f1, f2, a1])); (solve | (conv => lhs; simp only [zfr, Nat.reduceEqDiff, Nat.reduceLT, ↓reduceIte]))) | (apply o_end; (solve | (conv => lhs; simp only [zdr, inl, Nat.reduceEqDiff, or_false, or_true, ↓reduceIte]))) | apply g_seq | apply g_region | apply g_next | apply g_block | apply g_out | (apply g_true; (solve | (conv => lhs; simp only [zva, ↓reduceIte, Nat.reduceEqDiff, f1, f2, a1]))) | (apply g_false; (solve | (conv => lhs; simp only [zva, ↓reduceIte, Nat.reduceEqDiff, f1, f2, a1]))) | apply g_here | (apply g_past; (solve | decide)) | apply g_exit | apply g_retc | apply g_retb | apply g_ret | apply g_done)
        refine ih (m - 1) _ _ (by omega) ⟨i + 1, _, zs ++ [(t, .iface ty (.agg (.int .i64 (t.set : Int) :: cs)))], by omega, by simp, ⟨fun j hj => by rw [a6 j hj, L4.1 j hj], a3, by have := L4.2.2; omega⟩, a2, ?_⟩
        rw [List.take_add_one, List.getElem?_eq_getElem hi, List.map_append, hzs]
        simp [e1, ht]
    · have d2 : decide ((i : Int) < (ss.length : Int)) = false := decide_eq_false (by omega)
      repeat' (first | (apply o_op; (solve | (conv => lhs; simp (disch := first | omega | (simp only [Val.cells, List.all_cons, List.all_nil, Val.one, Bool.and_self])) only [zev, zex, Val.one, List.length_cons, List.length_nil, Nat.reduceAdd, Option.map_some, Option.map_none, List.map_cons, List.map_nil, zva, ↓reduceIte, Nat.reduceEqDiff, d2])); (solve | (conv => lhs; simp only [zfr, Nat.reduceEqDiff, Nat.reduceLT, ↓reduceIte]))) | (apply o_yes; (solve | (conv => lhs; simp only [zva, ↓reduceIte, Nat.reduceEqDiff, d2])); (solve | rfl)) | (apply o_no; (solve | (conv => lhs; simp only [zva, ↓reduceIte, Nat.reduceEqDiff, d2])); (solve | decide); (solve | (conv => lhs; simp only [zfr, Nat.reduceEqDiff, Nat.reduceLT, ↓reduceIte]))) | (apply o_not; (solve | (conv => lhs; simp only [zva, ↓reduceIte, Nat.reduceEqDiff])); (solve | (conv => lhs; simp only [zfr, Nat.reduceEqDiff, Nat.reduceLT, ↓reduceIte]))) | (apply o_if; (solve | (conv => lhs; simp only [zva, ↓reduceIte, Nat.reduceEqDiff])); (solve | (intro hbb; conv => lhs; simp (disch := first | omega | (simp only [Val.cells, List.all_cons, List.all_nil, Val.one, Bool.and_self])) only [zev, zex, Val.one, List.length_cons, List.length_nil, Nat.reduceAdd, Option.map_some, Option.map_none, List.map_cons, List.map_nil, zva, ↓reduceIte, Nat.reduceEqDiff, hbb, d2])); (solve | (conv => lhs; simp only [zfr, Nat.reduceEqDiff, Nat.reduceLT, ↓reduceIte]))) | (apply o_end; (solve | (conv => lhs; simp only [zdr, inl, Nat.reduceEqDiff, or_false, or_true, ↓reduceIte]))) | apply g_seq | apply g_region | apply g_next | apply g_block | apply g_out | (apply g_true; (solve | (conv => lhs; simp only [zva, ↓reduceIte, Nat.reduceEqDiff, d2]))) | (apply g_false; (solve | (conv => lhs; simp only [zva, ↓reduceIte, Nat.reduceEqDiff, d2]))) | apply g_here | (apply g_past; (solve | decide)) | apply g_exit | apply g_retc | apply g_retb | apply g_ret | apply g_done)
      rw [List.take_of_length_le (by omega)] at hzs
      have : ss.all (fun s => (treeI m0 s).isSome) = true := by
        rw [List.all_eq_true]
        intro s hs
        have hm : treeI m0 s ∈ ss.map (treeI m0) := List.mem_map.2 ⟨s, hs, rfl⟩
        rw [hzs] at hm
        obtain ⟨z, _, e⟩ := List.mem_map.1 hm
        rw [← e]; rfl
      refine ⟨.inr rfl, _, rfl, L2, lv, ?_, ?_, fun _ => ⟨zs, hla, hzs⟩⟩
      · simp [tuple, Frame.get, readErr, hn, this]
      · rcases hla with ⟨rfl, _⟩ | ⟨k0, rfl, _⟩ <;> rfl
  · rw [decide_eq_false hn]
    repeat' (first | (apply o_op; (solve | (conv => lhs; simp (disch := first | omega | (simp only [Val.cells, List.all_cons, List.all_nil, Val.one, Bool.and_self])) only [zev, zex, Val.one, List.length_cons, List.length_nil, Nat.reduceAdd, Option.map_some, Option.map_none, List.map_cons, List.map_nil, zva, ↓reduceIte, Nat.reduceEqDiff])); (solve | (conv => lhs; simp only [zfr, Nat.reduceEqDiff, Nat.reduceLT, ↓reduceIte]))) | (apply o_yes; (solve | (conv => lhs; simp only [zva, ↓reduceIte, Nat.reduceEqDiff])); (solve | rfl)) | (apply o_no; (solve | (conv => lhs; simp only [zva, ↓reduceIte, Nat.reduceEqDiff])); (solve | decide); (solve | (conv => lhs; simp only [zfr, Nat.reduceEqDiff, Nat.reduceLT, ↓reduceIte]))) | (apply o_not; (solve | (conv => lhs; simp only [zva, ↓reduceIte, Nat.reduceEqDiff])); (solve | (conv => lhs; simp only [zfr, Nat.reduceEqDiff, Nat.reduceLT, ↓reduceIte]))) | (apply o_if; (solve | (conv => lhs; simp only [zva, ↓reduceIte, Nat.reduceEqDiff])); (solve | (intro hbb; conv => lhs; simp (disch := first | omega | (simp only [Val.cells, List.all_cons, List.all_nil, Val.one, Bool.and_self])) only [zev, zex, Val.one, List.length_cons, List.length_nil, Nat.reduceAdd, Option.map_some, Option.map_none, List.map_cons, List.map_nil, zva, ↓reduceIte, Nat.reduceEqDiff, hbb])); (solve | (conv => lhs; simp only [zfr, Nat.reduceEqDiff, Nat.reduceLT, ↓reduceIte]))) | (apply o_end; (solve | (conv => lhs; simp only [zdr, inl, Nat.reduceEqDiff, or_false, or_true, ↓reduceIte]))) | apply g_seq | apply g_region | apply g_next | apply g_block | apply g_out | (apply g_true; (solve | (conv => lhs; simp only [zva, ↓reduceIte, Nat.reduceEqDiff]))) | (apply g_false; (solve | (conv => lhs; simp only [zva, ↓reduceIte, Nat.reduceEqDiff]))) | apply g_here | (apply g_past; (solve | decide)) | apply g_exit | apply g_retc | apply g_retb | apply g_ret | apply g_done)
    refine ⟨.inr rfl, _, rfl, Left'.refl w, .nils, by simp [tuple, Frame.get, readErr, hn], rfl, fun h0 => ?_⟩
    simp [readErr, hn] at h0
end Gc
end
