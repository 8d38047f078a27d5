/- That the law BreedMore holds of every input (the tied card BreedMoreCardSaid), where the two listed tables lie as the program's text lays them. (Part 2 of this claim's texts.) -/
import Derived.Test.YtdebnmpbochgbaaDoorMo1
import Derived.Deep.LoopGhost
import Derived.IntWalk
set_option linter.unusedSimpArgs false
set_option linter.unusedVariables false
set_option linter.unnecessarySimpa false
section
/- The main theorem: what a function's text in Gc gives, the model's call of the function gives. -/
set_option linter.unusedVariables false
namespace Gc
open Go Go.RowKit
variable {P : Program} {S : Sig} {I : Inv} {B N : Nat} {μ : Place} {h h' : Heap} {w : World} {fr : Frame} {a : Act} {x : Val}
theorem pairs_of {ops : Array Oper} {tab : List (Nat × Nat)} (T : TabOk ops tab) : ∀ {τ : List (Nat × ROp)}, pairsOk tab τ = true → τ.Pairwise fun p q => (∀ L, Closed ops L → (∀ d ∈ deps ops q.1, L d) → L p.1) ∨ commB p.2 q.2 = true
  | [], _ => .nil
  | p :: r, h => by
    simp only [pairsOk, Bool.and_eq_true, List.all_eq_true, Bool.or_eq_true] at h
    refine .cons (fun q hq => ?_) (pairs_of T h.2)
    rcases h.1 q hq with h | h
    · exact .inl fun L hL hd => T q.1 p.1 h L hL hd
    · exact .inr h
theorem order_of {ops : Array Oper} : ∀ {l seen : List Nat}, depsBefore ops seen l = true → ∀ pre i post, l = pre ++ i :: post → ∀ d ∈ deps ops i, d ∈ seen ∨ d ∈ pre
  | [], seen, h, pre, i, post, e => by simp at e
  | j :: l, seen, h, pre, i, post, e => by
    simp only [depsBefore, Bool.and_eq_true, List.all_eq_true] at h
    intro d hd
    cases pre with
    | nil =>
      simp only [List.nil_append, List.cons.injEq] at e
      obtain ⟨rfl, rfl⟩ := e
      exact .inl (by simpa using h.1 d hd)
    | cons k pre =>
      simp only [List.cons_append, List.cons.injEq] at e
      obtain ⟨rfl, rfl⟩ := e
      rcases order_of h.2 pre i post rfl d hd with h | h
      · simp only [List.mem_cons] at h
        rcases h with rfl | h
        · exact .inr (by simp)
        · exact .inl h
      · exact .inr (by simp [h])
theorem zip_fst {α β : Type} : ∀ {l : List α} {r : List β}, r.length = l.length → (l.zip r).map (·.1) = l
  | [], r, _ => by simp
  | a :: l, [], h => by simp at h
  | a :: l, b :: r, h => by simp [zip_fst (l := l) (r := r) (by simpa using h)]
theorem zip_snd {α β : Type} : ∀ {l : List α} {r : List β}, r.length = l.length → (l.zip r).map (·.2) = r
  | [], [], _ => by simp
  | [], b :: r, h => by simp at h
  | a :: l, [], h => by simp at h
  | a :: l, b :: r, h => by simp [zip_snd (l := l) (r := r) (by simpa using h)]
theorem getD_fresh (n j : Nat) : (Array.replicate n false).getD j false = false := getD_replicate_false n j
theorem left_start {ops : Array Oper} {Hn : Hint} {Nt : Nat} {l : List Nat} {rops : List ROp} (hc : cROps P S I Nt ops Hn l = some rops) (hd : drawOk ops l rops = true) : Left P S I Nt ops Hn (Array.replicate ops.size false) (l.zip rops) := by
  simp only [drawOk, Bool.and_eq_true, beq_iff_eq, decide_eq_true_eq, List.all_eq_true] at hd
  obtain ⟨⟨⟨⟨⟨h1, h2⟩, h3⟩, h6⟩, h4⟩, h5⟩ := hd
  obtain ⟨hl, ht⟩ := cROps_mem hc
  have hf := zip_fst (l := l) (r := rops) hl
  have hperm : ∀ j, j < ops.size → j ∈ l := by
    intro j hj
    simpa using h6 j (by simpa using hj)
  refine ⟨by simp, fun j hj => ?_, by rw [hf]; exact h2, fun p hp => ?_, fun j hj => ?_, ht, pairs_of (maskTab_ok ops l) h5, fun pre p post e d hdd => ?_⟩
  · rw [getD_fresh, hf]
    simp [hperm j hj]
  · have : p.1 ∈ (l.zip rops).map (·.1) := List.mem_map.2 ⟨p, hp, rfl⟩
    rw [hf] at this
    exact h3 _ this
  · simp only [getD_fresh] at hj
    cases hj
  · refine .inr ?_
    have e2 : l = pre.map (·.1) ++ p.1 :: post.map (·.1) := by
      rw [← hf, e]; simp
    rcases order_of h4 _ _ _ e2 d hdd with h | h
    · simp at h
    · exact h
/-- A region, whether its order is drawn or not. -/
theorem region_sound {E : Env} {call : CallF} (C : CallOk P S B call) (K : CallKeeps call) (M : MethodOk P S I E) (hm : P.follows .mixedOrders = true) {ops : Array Oper} {Hn : Hint} {id base Nt : Nat} {rops : List ROp} {draw : Bool} {l : List Nat} {fr' : Frame} {ex : Ex} {Q : Exit → Act → World → Prop} (hN : Nt ≤ N)
    (hl : draw = false → l = List.range ops.size) (hd : draw = true → drawOk ops l rops = true) (hc : cROps P S I Nt ops Hn l = some rops) (hb : base ≤ h.size) {kept : Nat}
    (hr : runOps call E base kept rops fr h = some (ex, fr', h')) (hp : draw = true → ex = .norm) (F : FRel S μ N fr a.tmps) (H : HRel S B μ h w) (s : Sat S B N Q ex fr' h' μ w a.defers) : (Go.Code.region id ops draw).wp P Q a w := by
  cases draw with
  | false =>
    obtain rfl := hl rfl
    exact wp_region (ops_sound C K M hN hb hc hr F H s)
  | true =>
    obtain rfl := hp rfl
    have hd' := hd rfl
    have L := left_start hc hd'
    obtain ⟨hlen, _⟩ := cROps_mem hc
    have hsz : (l.zip rops).length = ops.size := by
      simp only [drawOk, Bool.and_eq_true, beq_iff_eq] at hd'
      have := hd'.1.1.1.1.1
      simp [hlen, this]
    refine wp_region_any hm ?_
    have Hd : HRel S B μ h w.drew := H.later (Nat.le_refl _) fun i _ => rfl
    exact any_sound C K M hN ops.size hsz L hb (by rw [zip_snd hlen]; exact hr) F Hd (s.later (Ext.refl _) ((Below.refl B w).drew))
theorem reserve_rel : ∀ (n : Nat) {h : Heap}, HRel S B μ h w → HRel S B μ (h.reserve n) w
  | 0, h, H => H
  | n + 1, h, H => by
    refine reserve_rel n (h := h.push none) ⟨H.base, fun k hk => ?_, fun k hk => ?_, H.old, fun k b hk => ?_, ?_⟩
    · simp only [Heap.size_push] at hk
      rw [Heap.get_push, if_neg (by omega)]
      exact H.wf k (by omega)
    · rw [Heap.get_push] at hk
      split at hk
      · rename_i e; subst e; exact H.dom _ (H.wf _ (Nat.le_refl _))
      · exact H.dom k hk
    · rw [Heap.get_push] at hk
      split at hk
      · cases hk
      · exact H.blk k b hk
    · intro i j bi bj pi pj hij hbi hbj
      rw [Heap.get_push] at hbi hbj
      split at hbi
      · cases hbi
      · split at hbj
        · cases hbj
        · exact H.sep i j bi bj pi pj hij hbi hbj
theorem runOps_ends {call : CallF} {E : Env} {base kept : Nat} : ∀ {os : List ROp} {fr fr' : Frame} {h h' : Heap} {ex : Ex}, runOps call E base kept os fr h = some (ex, fr', h') → ex = .norm ∨ ∃ v, ex = .pan v
  | [], fr, fr', h, h', ex, e => by
    simp only [runOps, Option.some.injEq, Prod.mk.injEq] at e
    exact .inl e.1.symm
  | o :: os, fr, fr', h, h', ex, e => by
    simp only [runOps] at e
    cases hs : stepOp call E base kept o fr h with
    | none => simp [hs] at e
    | some q =>
      obtain ⟨x1, fr1, h1⟩ := q
      rw [hs] at e
      have hx := hs
      rw [stepOp_eq, Option.map_eq_some_iff] at hx
      obtain ⟨⟨r, h2⟩, hv, hx⟩ := hx
      cases r with
      | ret v =>
        simp only [Res.into, Prod.mk.injEq] at hx
        obtain ⟨rfl, rfl, rfl⟩ := hx
        exact runOps_ends e
      | pan v =>
        simp only [Res.into, Prod.mk.injEq] at hx
        obtain ⟨rfl, rfl, rfl⟩ := hx
        simp only [Option.some.injEq, Prod.mk.injEq] at e
        exact .inr ⟨v, e.1.symm⟩
theorem ExR.drop {e : Exit} {t : Array Value} {ks : List Nat} {ex : Ex} (hx : ex = .norm) (h : ExR S μ N ex fr e t) : ExR S μ N ex (fr.drop ks) e t := by
  subst hx
  cases e <;> simp only [ExR] at h ⊢
  exact h.drop ks
/-- The code of a function. -/
theorem exec_sound {E : Env} (M : MethodOk P S I E) (hm : P.follows .mixedOrders = true) {Nt : Nat} {hints : Nat → Option Hint} (hN : Nt ≤ N) :
    ∀ (n : Nat), (∀ m, m < n → CallOk P S B (callBy (exec E m) E)) → ∀ {base : Nat} {gc : Go.Code} {c : Code} {fr fr' : Frame} {h h' : Heap} {ex : Ex} {μ : Place} {a : Act} {w : World} {Q : Exit → Act → World → Prop},
      cCode P S I Nt hints gc = some c → base ≤ h.size → exec E n base c fr h = some (ex, fr', h') → FRel S μ N fr a.tmps → HRel S B μ h w → Sat S B N Q ex fr' h' μ w a.defers → gc.wp P Q a w := by
  intro n
  induction n using Nat.strongRecOn with
  | _ n ihs =>
    cases n with
    | zero => intro C base gc c fr fr' h h' ex μ a w Q hc hb hx; simp [exec] at hx
    | succ n =>
    intro C base gc c fr fr' h h' ex μ a w Q hc hb hx F H s
    have ihm : ∀ m, m < n + 1 → ∀ {base : Nat} {gc : Go.Code} {c : Code} {fr fr' : Frame} {h h' : Heap} {ex : Ex} {μ : Place} {a : Act} {w : World} {Q : Exit → Act → World → Prop},
      cCode P S I Nt hints gc = some c → base ≤ h.size → exec E m base c fr h = some (ex, fr', h') → FRel S μ N fr a.tmps → HRel S B μ h w → Sat S B N Q ex fr' h' μ w a.defers → gc.wp P Q a w :=
      fun m hmn => ihs m hmn fun k hk => C k (by omega)
    have ih := fun {base gc c fr fr' h h' ex μ a w Q} => @ihm n (by omega) base gc c fr fr' h h' ex μ a w Q
    cases gc <;> simp only [cCode, Option.bind_eq_some_iff, Option.map_eq_some_iff, Option.some.injEq] at hc
    case label => subst hc; simp [exec, runOps, stepOp, stepK, Op.eval] at hx
    case goto => subst hc; simp [exec, runOps, stepOp, stepK, Op.eval] at hx
    case scope => subst hc; simp [exec, runOps, stepOp, stepK, Op.eval] at hx
    case rangeFunc => subst hc; simp [exec, runOps, stepOp, stepK, Op.eval] at hx
    case refuse => subst hc; simp [exec, runOps, stepOp, stepK, Op.eval] at hx
    case skip =>
      subst hc
      simp only [exec, Option.some.injEq, Prod.mk.injEq] at hx
      obtain ⟨rfl, rfl, rfl⟩ := hx
      exact wp_skip (s μ .normal a w (Ext.refl _) H (Below.refl _ _) rfl F)
    case exit id =>
      subst hc
      simp only [exec, Option.some.injEq, Prod.mk.injEq] at hx
      obtain ⟨rfl, rfl, rfl⟩ := hx
      exact wp_exit (s μ (.exit id) a w (Ext.refl _) H (Below.refl _ _) rfl ⟨rfl, F⟩)
    case ret =>
      subst hc
      simp only [exec, Option.some.injEq, Prod.mk.injEq] at hx
      obtain ⟨rfl, rfl, rfl⟩ := hx
      exact wp_ret (s μ .ret a w (Ext.refl _) H (Below.refl _ _) rfl F)
    case seq ga gb =>
      obtain ⟨ca, hca, cb, hcb, rfl⟩ := hc
      simp only [exec] at hx
      cases hxa : exec E n base ca fr h with
      | none => simp [hxa] at hx
      | some q =>
        obtain ⟨x1, fr1, h1⟩ := q
        rw [hxa] at hx
        refine wp_seq (ih hca hb hxa F H ?_)
        intro μ' e a' w' E' H' Bw hd hR
        have g := grows_exec E n base ca fr h x1 fr1 h1 H.wf hb hxa
        cases x1 with
        | norm =>
          cases e <;> simp only [ExR] at hR
          exact ih hcb (Nat.le_trans hb g.size) hx hR H' (hd ▸ s.later E' Bw)
        | brk i =>
          simp only [Option.some.injEq, Prod.mk.injEq] at hx
          obtain ⟨rfl, rfl, rfl⟩ := hx
          cases e <;> simp only [ExR] at hR
          exact s μ' _ a' w' E' H' Bw hd hR
        | ret =>
          simp only [Option.some.injEq, Prod.mk.injEq] at hx
          obtain ⟨rfl, rfl, rfl⟩ := hx
          cases e <;> simp only [ExR] at hR
          exact s μ' _ a' w' E' H' Bw hd hR
        | pan v =>
          simp only [Option.some.injEq, Prod.mk.injEq] at hx
          obtain ⟨rfl, rfl, rfl⟩ := hx
          cases e <;> simp only [ExR] at hR
          exact s μ' _ a' w' E' H' Bw hd hR
    case cond gx ga gb =>
      obtain ⟨cx, hcx, ca, hca, cb, hcb, rfl⟩ := hc
      simp only [exec] at hx
      have hr := cOpd_rel F hcx
      cases hv : cx.ev fr <;> simp only [hv, reduceCtorEq] at hx
      rename_i t
      rw [hv] at hr
      refine wp_cond hr.of_bool ?_
      cases t with
      | true => exact ih hca hb (by simpa using hx) F H s
      | false => exact ih hcb hb (by simpa using hx) F H s
    case block id gc =>
      obtain ⟨c', hc', rfl⟩ := hc
      simp only [exec] at hx
      cases hxa : exec E n base c' fr h with
      | none => simp [hxa] at hx
      | some q =>
        obtain ⟨x1, fr1, h1⟩ := q
        rw [hxa] at hx
        refine wp_block (ih hc' hb hxa F H ?_)
        intro μ' e a' w' E' H' Bw hd hR
        cases x1 with
        | norm =>
          simp only [Option.some.injEq, Prod.mk.injEq] at hx
          obtain ⟨rfl, rfl, rfl⟩ := hx
          cases e <;> simp only [ExR] at hR
          exact s μ' .normal a' w' E' H' Bw hd hR
        | ret =>
          simp only [Option.some.injEq, Prod.mk.injEq] at hx
          obtain ⟨rfl, rfl, rfl⟩ := hx
          cases e <;> simp only [ExR] at hR
          exact s μ' .ret a' w' E' H' Bw hd hR
        | pan v =>
          simp only [Option.some.injEq, Prod.mk.injEq] at hx
          obtain ⟨rfl, rfl, rfl⟩ := hx
          cases e <;> simp only [ExR] at hR
          exact s μ' (.panic _) a' w' E' H' Bw hd hR
        | brk i =>
          simp only [Option.some.injEq, Prod.mk.injEq] at hx
          obtain ⟨rfl, rfl, rfl⟩ := hx
          cases e <;> simp only [ExR] at hR
          obtain ⟨rfl, hR⟩ := hR
          simp only [Exit.inBlock]
          by_cases e : i = id
          · simp only [e, if_true] at s ⊢
            exact s μ' .normal a' w' E' H' Bw hd hR
          · simp only [e, if_false] at s ⊢
            exact s μ' (.exit i) a' w' E' H' Bw hd ⟨rfl, hR⟩
    case loop gc =>
      obtain ⟨c', hc', rfl⟩ := hc
      refine wp_loop_ghost (fun m a' w' => ∃ μ' fr1 h1, m ≤ n + 1 ∧ base ≤ h1.size ∧ exec E m base (.loop c') fr1 h1 = some (ex, fr', h') ∧ FRel S μ' N fr1 a'.tmps ∧ HRel S B μ' h1 w' ∧ Sat S B N Q ex fr' h' μ' w' a'.defers) (n + 1) ⟨μ, fr, h, Nat.le_refl _, hb, hx, F, H, s⟩ ?_
      rintro m a1 w1 ⟨μ1, fr1, h1, hm1, hb1, hx1, F1, H1, s1⟩
      cases m with
      | zero => simp [exec] at hx1
      | succ m =>
        simp only [exec] at hx1
        cases hxa : exec E m base c' fr1 h1 with
        | none => simp [hxa] at hx1
        | some q =>
          obtain ⟨x2, fr2, h2⟩ := q
          rw [hxa] at hx1
          refine ihm m (by omega) hc' hb1 hxa F1 H1 ?_
          intro μ' e a' w' E' H' Bw hd hR
          have g := grows_exec E m base c' fr1 h1 x2 fr2 h2 H1.wf hb1 hxa
          cases x2 with
          | norm =>
            cases e <;> simp only [ExR] at hR
            exact ⟨m, by omega, μ', fr2, h2, by omega, Nat.le_trans hb1 g.size, hx1, hR, H', hd ▸ s1.later E' Bw⟩
          | brk i =>
            simp only [Option.some.injEq, Prod.mk.injEq] at hx1
            obtain ⟨rfl, rfl, rfl⟩ := hx1
            cases e <;> simp only [ExR] at hR
            exact s1 μ' _ a' w' E' H' Bw hd hR
          | ret =>
            simp only [Option.some.injEq, Prod.mk.injEq] at hx1
            obtain ⟨rfl, rfl, rfl⟩ := hx1
            cases e <;> simp only [ExR] at hR
            exact s1 μ' _ a' w' E' H' Bw hd hR
          | pan v =>
            simp only [Option.some.injEq, Prod.mk.injEq] at hx1
            obtain ⟨rfl, rfl, rfl⟩ := hx1
            cases e <;> simp only [ExR] at hR
            exact s1 μ' _ a' w' E' H' Bw hd hR
    case region id ops draw =>
      obtain ⟨Hn, hHn, hc⟩ := hc
      have key : ∃ l rops, c = .region rops Hn.drop Hn.keep draw ∧ (draw = false → l = List.range ops.size) ∧ (draw = true → drawOk ops l rops = true) ∧ cROps P S I Nt ops Hn l = some rops := by
        cases draw with
        | true =>
          simp only [if_true, Option.bind_eq_some_iff] at hc
          obtain ⟨rops, hr, hc⟩ := hc
          split at hc
          case isFalse => cases hc
          rename_i hd
          exact ⟨Hn.order, rops, (Option.some.inj hc).symm, (fun e => by cases e), (fun _ => hd), hr⟩
        | false =>
          simp only [Bool.false_eq_true, if_false, Option.map_eq_some_iff] at hc
          obtain ⟨rops, hr, rfl⟩ := hc
          exact ⟨_, rops, rfl, (fun _ => rfl), (fun e => by cases e), hr⟩
      obtain ⟨l, rops, rfl, hl, hd, hr⟩ := key
      simp only [exec] at hx
      cases hxr : runOps (callBy (exec E n) E) E base h.size rops fr (h.reserve Hn.keep) with
      | none => simp [hxr] at hx
      | some q =>
        obtain ⟨x1, fr1, h1⟩ := q
        rw [hxr] at hx
        have hg := grows_reserve (base := base) Hn.keep H.wf hb
        refine region_sound (C n (by omega)) (callN_keeps E n) M hm hN hl hd hr (Nat.le_trans hb hg.size) hxr (fun e => ?_) F (reserve_rel Hn.keep H) ?_
        · subst e
          rcases runOps_ends hxr with rfl | ⟨v, rfl⟩
          · rfl
          · simp at hx
        · intro μ' e a' w' E' H' Bw hd' hR
          rcases runOps_ends hxr with rfl | ⟨v, rfl⟩
          · simp only [Option.some.injEq, Prod.mk.injEq] at hx
            obtain ⟨rfl, rfl, rfl⟩ := hx
            exact s μ' e a' w' E' H' Bw hd' (hR.drop rfl)
          · simp only at hx
            split at hx
            · cases hx
            · simp only [Option.some.injEq, Prod.mk.injEq] at hx
              obtain ⟨rfl, rfl, rfl⟩ := hx
              exact s μ' e a' w' E' H' Bw hd' hR
/-! ### Functions -/
structure EnvOk (P : Program) (S : Sig) (I : Inv) (B : Nat) (E : Env) : Prop where
  mixed : P.follows .mixedOrders = true
  meth : MethodOk P S I E
  code : ∀ f fn, E.code f = some fn → ∃ gf body hints, P.funcs[S.fn f]? = some gf ∧ gf.body = some body ∧ (gf.name == "runtime.NumGoroutine") = false ∧ cCode P S I gf.ntmps hints body = some fn.body ∧ cRVs P gf.results.toList = some fn.results
  told : ∀ f args h v, E.told f args h = some v → ∀ vargs μ w, Ext S.base μ → VRels S μ args vargs → HRel S B μ h w → IsFn P (S.fn f) ∧ Calls P (S.fn f) vargs.toArray w (CPost S B μ (.ret v) h w)
theorem enter_get (vs : List Val) : ∀ (i k : Nat), (Frame.enterFrom i vs).get k = if i ≤ k then vs.getD (k - i) .undef else .undef := by
  induction vs with
  | nil => intro i k; simp [Frame.enterFrom, Frame.get]
  | cons v vs ih =>
    intro i k
    simp only [Frame.enterFrom, Frame.get]
    by_cases e : i = k
    · subst e; simp
    · rw [if_neg e, ih]
      by_cases h : i + 1 ≤ k
      · rw [if_pos h, if_pos (by omega)]
        have : k - i = (k - (i + 1)) + 1 := by omega
        rw [this]; simp
      · rw [if_neg h, if_neg (by omega)]
theorem enter_rel {vs : List Val} {vargs : List Value} (h : VRels S μ vs vargs) (he : Ext S.base μ) (n : Nat) :
    FRel S μ (vargs.toArray ++ Array.replicate n Go.undef).size (Frame.enterFrom 0 vs) (vargs.toArray ++ Array.replicate n Go.undef) := by
  refine ⟨rfl, fun k => ?_, he⟩
  rw [enter_get, if_pos (Nat.zero_le _), Nat.sub_zero]
  cases hx : vs[k]? with
  | none => rw [List.getD_eq_getElem?_getD, hx]; simp [VRel]
  | some x =>
    obtain ⟨v, hv, hr⟩ := h.get hx
    rw [List.getD_eq_getElem?_getD, hx]
    have hk : k < vargs.length := by
      rcases Nat.lt_or_ge k vargs.length with h | h
      · exact h
      · rw [List.getElem?_eq_none h] at hv; cases hv
    have : (vargs.toArray ++ Array.replicate n Go.undef)[k]? = some v := by
      rw [Array.getElem?_append_left (by simpa using hk)]
      simpa using hv
    rw [Array.getD_eq_getD_getElem?, this]
    exact hr
def rvRead (tmps : Array Value) : ResultVar → Sem Value
  | .tmp t => pure (tmps.getD t Go.undef)
  | .cell a t => do loadVar t (← asAddr (tmps.getD a Go.undef))
theorem results_eq (fn : Func) (tmps : Array Value) : results fn tmps = (do
    let vs ← fn.results.mapM (rvRead tmps)
    pure (if h : vs.size = 1 then vs[0] else .tuple vs)) := rfl
theorem rvs_rel (H : HRel S B μ h w) {tmps : Array Value} (F : FRel S μ N fr tmps) : ∀ {rs : List ResultVar} {rv : List RV} {vs : List Val}, cRVs P rs = some rv → resultVals fr h rv = some vs →
    ∃ us : List Value, (rs.mapM (rvRead tmps)).run P w = .ok us w ∧ VRels S μ vs us
  | [], rv, vs, hc, hr => by
    simp [cRVs] at hc
    subst hc
    simp [resultVals] at hr
    subst hr
    exact ⟨[], by simp, by simp [VRels]⟩
  | .tmp t :: rs, rv, vs, hc, hr => by
    simp only [cRVs, Option.map_eq_some_iff] at hc
    obtain ⟨rv', hc, rfl⟩ := hc
    simp only [resultVals, Option.map_eq_some_iff] at hr
    obtain ⟨vs', hr, rfl⟩ := hr
    obtain ⟨us, h1, h2⟩ := rvs_rel H F hc hr
    refine ⟨_ :: us, by simp [List.mapM_cons, rvRead, h1]; rfl, ?_⟩
    simp only [VRels]
    exact ⟨_, _, rfl, by simpa [Array.getD_eq_getD_getElem?] using F.get t, h2⟩
  | .cell a t :: rs, rv, vs, hc, hr => by
    simp only [cRVs, Option.bind_eq_some_iff, Option.map_eq_some_iff] at hc
    obtain ⟨d, hd, i, hi, rv', hc, rfl⟩ := hc
    simp only [resultVals] at hr
    have hv := F.get a
    cases hp : fr.get a <;> simp only [hp, reduceCtorEq] at hr
    rename_i k o
    rw [hp] at hv
    simp only [VRel] at hv
    obtain ⟨p, hp', hv⟩ := hv
    cases hl : h.load (isAggD d) (if isAggD d = true then i.size else 1) k o with
    | none => simp [hl] at hr
    | some v =>
      simp only [hl, Option.map_eq_some_iff] at hr
      obtain ⟨vs', hr, rfl⟩ := hr
      obtain ⟨us, h1, h2⟩ := rvs_rel H F hc hr
      obtain ⟨u, h3, h4⟩ := load_rel H hd hi rfl (fun h => by simp [h]) hl hp'
      refine ⟨u :: us, by simp [List.mapM_cons, rvRead, hv, asAddr, h1, h3], ?_⟩
      simp only [VRels]
      exact ⟨_, _, rfl, h4, h2⟩
theorem tuple_rel {vs : List Val} {us : List Value} (h : VRels S μ vs us) : VRel S μ (tuple vs) (if h : us.toArray.size = 1 then us.toArray[0] else .tuple us.toArray) := by
  have hl := h.length
  match vs, us, h with
  | [], [], h => simp [tuple, VRel, VRels]
  | [v], [u], h => simpa [tuple, VRels] using h
  | v :: v' :: vs, u :: u' :: us, h => simpa [tuple, VRel] using h
  | [], _ :: _, _ => simp at hl
  | _ :: _, [], _ => simp at hl
  | [_], _ :: _ :: _, _ => simp at hl
  | _ :: _ :: _, [_], _ => simp at hl
theorem results_rel (H : HRel S B μ h w) {tmps : Array Value} (F : FRel S μ N fr tmps) {fn : Func} {rv : List RV} {vs : List Val} (hc : cRVs P fn.results.toList = some rv) (hr : resultVals fr h rv = some vs) :
    ∃ v, (results fn tmps).run P w = .ok v w ∧ VRel S μ (tuple vs) v := by
  obtain ⟨us, h1, h2⟩ := rvs_rel H F hc hr
  refine ⟨_, ?_, tuple_rel h2⟩
  rw [results_eq, Array.mapM_eq_mapM_toList]
  simp only [map_eq_pure_bind, bind_assoc, pure_bind, Sem.run_bind, h1, Result.andThen_ok, Sem.run_pure]
theorem env_sound {E : Env} (O : EnvOk P S I B E) : ∀ n, CallOk P S B (callN E n) := by
  intro n
  induction n using Nat.strongRecOn with
  | _ n ih =>
    intro base f args h r h' vargs μ w hb hc hext hv H
    unfold callN callBy at hc
    cases ht : E.told f args h with
    | some v =>
      simp only [ht, Option.some.injEq, Prod.mk.injEq] at hc
      obtain ⟨rfl, rfl⟩ := hc
      exact O.told f args h v ht vargs μ w hext hv H
    | none =>
      simp only [ht] at hc
      cases hf : E.code f with
      | none => simp [hf] at hc
      | some fn =>
        simp only [hf] at hc
        obtain ⟨gf, body, hints, h1, h2, h3, h4, h5⟩ := O.code f fn hf
        refine ⟨⟨gf, h1, by simp [h2], h3⟩, ?_⟩
        cases hx : exec E n base fn.body (Frame.enterFrom 0 args) h with
        | none => simp [hx] at hc
        | some q =>
          obtain ⟨ex, fr', h2'⟩ := q
          rw [hx] at hc
          refine calls_of_wp h1 h2 ?_
          have hN : gf.ntmps ≤ (vargs.toArray ++ Array.replicate (gf.ntmps - vargs.toArray.size) Go.undef).size := by simp; omega
          refine exec_sound (S := S) (I := I) (B := B) O.meth O.mixed hN n (fun m hm => ih m hm) h4 hb hx (enter_rel hv hext _) H ?_
          intro μ' e a' w' E' H' Bw hd hR
          have hd : a'.defers = [] := hd
          have fin : ∀ vs, FRel S μ' (vargs.toArray ++ Array.replicate (gf.ntmps - vargs.toArray.size) Go.undef).size fr' a'.tmps → resultVals fr' h2' fn.results = some vs → r = .ret (tuple vs) → h' = h2' →
              ∃ v, (results gf a'.tmps).run P w' = .ok v w' ∧ CPost S B μ r h' w (.returned v) w' := by
            rintro vs F' hv rfl rfl
            obtain ⟨v, h6, h7⟩ := results_rel (P := P) H' F' h5 hv
            exact ⟨v, h6, μ', E', H', Bw, h7⟩
          cases ex with
          | norm =>
            simp only [Option.map_eq_some_iff, Prod.mk.injEq] at hc
            obtain ⟨vs, hv, rfl, rfl⟩ := hc
            cases e <;> simp only [ExR] at hR
            exact ⟨hd, fin vs hR hv rfl rfl⟩
          | ret =>
            simp only [Option.map_eq_some_iff, Prod.mk.injEq] at hc
            obtain ⟨vs, hv, rfl, rfl⟩ := hc
            cases e <;> simp only [ExR] at hR
            exact ⟨hd, fin vs hR hv rfl rfl⟩
          | brk i => simp at hc
          | pan v =>
            simp only [Option.some.injEq, Prod.mk.injEq] at hc
            obtain ⟨rfl, rfl⟩ := hc
            cases e <;> simp only [ExR] at hR
            exact ⟨hd, μ', E', H', Bw, hR⟩
end Gc
end
section
/- The runs of the small language Gc with no bound on their rounds: more rounds, and a lower bound of what may be written, change no result; and how each piece of code runs. -/
set_option linter.unusedVariables false
namespace Gc
/-! ### More rounds, and a lower bound -/
theorem store_mono {h h' : Heap} {base base' k o : Nat} {cs : List Val} (hb : base' ≤ base) (e : h.store base k o cs = some h') : h.store base' k o cs = some h' := by
  unfold Heap.store at e ⊢
  cases hk : h.get k with
  | none => simp [hk] at e
  | some b =>
    simp only [hk] at e ⊢
    split at e
    · rename_i c
      rw [if_pos ⟨Nat.le_trans hb c.1, c.2⟩]
      exact e
    · cases e
theorem lay_mono {h : Heap} {base base' : Nat} {slot : Option Nat} {b : Blk} {r : Nat × Heap} (hb : base' ≤ base) (e : h.lay base slot b = some r) : h.lay base' slot b = some r := by
  unfold Heap.lay at e ⊢
  cases slot with
  | none => exact e
  | some s =>
    simp only at e ⊢
    split at e
    · rename_i c
      rw [if_pos ⟨Nat.le_trans hb c.1, c.2⟩]
      exact e
    · cases e
theorem lay_map_mono {α : Type} {h : Heap} {base base' : Nat} {slot : Option Nat} {b : Blk} {f : Nat × Heap → α} {r : α} (hb : base' ≤ base) (e : (h.lay base slot b).map f = some r) : (h.lay base' slot b).map f = some r := by
  cases hl : h.lay base slot b with
  | none => simp [hl] at e
  | some q => rw [lay_mono hb hl]; rw [hl] at e; exact e
theorem append_mono {h : Heap} {base base' esz bytes n : Nat} {slot : Option Nat} {s : Val} {new : List Val} {r : Val × Heap} (hb : base' ≤ base) (e : appendOp base h slot esz bytes s n new = some r) : appendOp base' h slot esz bytes s n new = some r := by
  unfold appendOp at e ⊢
  split at e
  · cases e
  · rename_i hn
    rw [if_neg hn]
    cases s <;> simp only [reduceCtorEq] at e ⊢
    case nils =>
      split at e
      · rename_i h0; rw [if_pos h0]; exact e
      · rename_i h0
        rw [if_neg h0]
        split at e
        · rename_i h1; rw [if_pos h1]; exact lay_map_mono hb e
        · cases e
    case slice k o len c =>
      split at e
      · rename_i h0; rw [if_pos h0]; exact e
      · rename_i h0
        rw [if_neg h0]
        cases hk : h.get k with
        | none => simp [hk] at e
        | some b =>
          simp only [hk] at e ⊢
          split at e
          · cases e
          · rename_i h1
            rw [if_neg h1]
            cases c with
            | some c =>
              simp only at e ⊢
              split at e
              · rename_i h2
                rw [if_pos h2]
                split at e
                · cases e
                · rename_i h3
                  rw [if_neg h3]
                  cases hs : h.store base k (o + len * esz) new with
                  | none => simp [hs] at e
                  | some h' => rw [store_mono hb hs]; rw [hs] at e; exact e
              · rename_i h2
                rw [if_neg h2]
                exact lay_map_mono hb e
            | none =>
              simp only at e ⊢
              split at e
              · rename_i h2
                rw [if_pos ⟨Nat.le_trans hb h2.1, h2.2⟩]
                exact lay_map_mono hb e
              · cases e
theorem eval_mono {base base' kept : Nat} {fr : Frame} {h : Heap} {p : Op} {r : Val × Heap} (hb : base' ≤ base) (e : p.eval base kept fr h = some r) : p.eval base' kept fr h = some r := by
  cases p <;> simp only [Op.eval] at e ⊢ <;> try exact e
  case box slot x =>
    split at e
    · rename_i h0; rw [if_pos h0]; exact lay_map_mono hb e
    · cases e
  case buildSlice slot esz zero n0 parts =>
    cases hf : fill zero (evParts fr parts) with
    | none => simp [hf] at e
    | some cs =>
      simp only [hf] at e ⊢
      split at e
      · rename_i h0; rw [if_pos h0]; exact lay_map_mono hb e
      · cases e
  case store size a x =>
    cases hv : a.ev fr <;> simp only [hv, reduceCtorEq] at e ⊢
    rename_i k o
    split at e
    · rename_i h0
      rw [if_pos h0]
      cases hs : h.store base k o (x.ev fr).cells with
      | none => simp [hs] at e
      | some h' => rw [store_mono hb hs]; rw [hs] at e; exact e
    · cases e
  case storeApart size a x t =>
    split at e
    case isFalse => cases e
    rename_i hsb
    rw [if_pos hsb]
    cases hv : a.ev fr <;> simp only [hv, reduceCtorEq] at e ⊢
    rename_i k o
    split at e
    · rename_i h0
      rw [if_pos h0]
      cases hs : h.store base k o (x.ev fr).cells with
      | none => simp [hs] at e
      | some h' => rw [store_mono hb hs]; rw [hs] at e; exact e
    · cases e
  case clear zero x =>
    cases hv : x.ev fr <;> simp only [hv, reduceCtorEq] at e ⊢
    · exact e
    · rename_i k o n c
      split at e
      · rename_i h0; rw [if_pos h0]; exact e
      · rename_i h0
        rw [if_neg h0]
        cases hs : h.store base k o (List.replicate n zero).flatten with
        | none => simp [hs] at e
        | some h' => rw [store_mono hb hs]; rw [hs] at e; exact e
  case append slot esz bytes s x =>
    cases hs : spread h esz (x.ev fr) with
    | none => simp [hs] at e
    | some q =>
      obtain ⟨n, new⟩ := q
      simp only [hs] at e ⊢
      exact append_mono hb e
/-- What one set of calls gives, the other gives. -/
def CallLe (c c' : CallF) : Prop := ∀ base base' f args h r, base' ≤ base → c base f args h = some r → c' base' f args h = some r
theorem stepK_mono {c c' : CallF} (L : CallLe c c') {E : Env} {base base' kept : Nat} {o : ROp} {fr : Frame} {h : Heap} {r : Ex × Frame × Heap} (hb : base' ≤ base) (e : stepK c E base kept o fr h = some r) : stepK c' E base' kept o fr h = some r := by
  unfold stepK at e ⊢
  cases ho : o.k with
  | op p =>
    simp only [ho] at e ⊢
    cases hp : p.eval base kept fr h with
    | none => simp [hp] at e
    | some q => rw [eval_mono hb hp]; rw [hp] at e; exact e
  | call prot cal args =>
    simp only [ho] at e ⊢
    cases hf : cal.find E fr (args.map (·.ev fr)) with
    | none => simp [hf] at e
    | some q =>
      obtain ⟨f, vs⟩ := q
      simp only [hf] at e ⊢
      cases hc : c (if prot = true then h.size else base) f vs h with
      | none => simp [hc] at e
      | some q =>
        rw [L _ (if prot = true then h.size else base') _ _ _ _ (by split <;> simp_all) hc]
        rw [hc] at e
        exact e
theorem stepOp_mono {c c' : CallF} (L : CallLe c c') {E : Env} {base base' kept : Nat} {o : ROp} {fr : Frame} {h : Heap} {r : Ex × Frame × Heap} (hb : base' ≤ base) (e : stepOp c E base kept o fr h = some r) : stepOp c' E base' kept o fr h = some r := by
  unfold stepOp at e ⊢
  cases hg : o.guard with
  | none => simp only [hg] at e ⊢; exact stepK_mono L hb e
  | some g =>
    obtain ⟨t, want⟩ := g
    simp only [hg] at e ⊢
    cases hv : gate (fr.get t) want with
    | none => simp [hv] at e
    | some b =>
      cases b <;> simp only [hv] at e ⊢
      · exact e
      · exact stepK_mono L hb e
theorem runOps_mono {c c' : CallF} (L : CallLe c c') {E : Env} {base base' kept : Nat} (hb : base' ≤ base) : ∀ {os : List ROp} {fr : Frame} {h : Heap} {r : Ex × Frame × Heap}, runOps c E base kept os fr h = some r → runOps c' E base' kept os fr h = some r
  | [], fr, h, r, e => e
  | o :: os, fr, h, r, e => by
    simp only [runOps] at e ⊢
    cases hs : stepOp c E base kept o fr h with
    | none => simp [hs] at e
    | some q =>
      rw [stepOp_mono L hb hs]
      rw [hs] at e
      obtain ⟨x, fr1, h1⟩ := q
      cases x <;> simp only at e ⊢ <;> first
        | exact runOps_mono L hb e
        | exact e
theorem callBy_mono {X X' : Nat → Code → Frame → Heap → Option (Ex × Frame × Heap)} {E : Env} (L : ∀ base base' c fr h r, base' ≤ base → X base c fr h = some r → X' base' c fr h = some r) : CallLe (callBy X E) (callBy X' E) := by
  intro base base' f args h r hb e
  unfold callBy at e ⊢
  cases ht : E.told f args h with
  | some v => simp only [ht] at e ⊢; exact e
  | none =>
    simp only [ht] at e ⊢
    cases hc : E.code f with
    | none => simp [hc] at e
    | some fn =>
      simp only [hc] at e ⊢
      cases hx : X base fn.body (Frame.enterFrom 0 args) h with
      | none => simp [hx] at e
      | some q => rw [L _ _ _ _ _ _ hb hx]; rw [hx] at e; exact e
theorem exec_mono (E : Env) : ∀ (n n' base base' : Nat) (c : Code) (fr : Frame) (h : Heap) (r : Ex × Frame × Heap), n ≤ n' → base' ≤ base → exec E n base c fr h = some r → exec E n' base' c fr h = some r := by
  intro n
  induction n with
  | zero => intro n' base base' c fr h r hn hb e; simp [exec] at e
  | succ n ih =>
    intro n' base base' c fr h r hn hb e
    obtain ⟨m, rfl⟩ : ∃ m, n' = m + 1 := ⟨n' - 1, by omega⟩
    have ih := fun base base' c fr h r => ih m base base' c fr h r (by omega)
    cases c <;> simp only [exec] at e ⊢ <;> try exact e
    case seq a b =>
      cases ha : exec E n base a fr h with
      | none => simp [ha] at e
      | some q =>
        rw [ih _ _ _ _ _ _ hb ha]
        rw [ha] at e
        obtain ⟨x, fr1, h1⟩ := q
        cases x <;> simp only at e ⊢ <;> first
          | exact ih _ _ _ _ _ _ hb e
          | exact e
    case region ops drop keep draw =>
      cases hr : runOps (callBy (exec E n) E) E base h.size ops fr (h.reserve keep) with
      | none => simp [hr] at e
      | some q =>
        rw [runOps_mono (callBy_mono ih) hb hr]
        rw [hr] at e
        exact e
    case cond y a b =>
      cases hv : y.ev fr <;> simp only [hv, reduceCtorEq] at e ⊢
      exact ih _ _ _ _ _ _ hb e
    case block id c =>
      cases ha : exec E n base c fr h with
      | none => simp [ha] at e
      | some q => rw [ih _ _ _ _ _ _ hb ha]; rw [ha] at e; exact e
    case loop c =>
      cases ha : exec E n base c fr h with
      | none => simp [ha] at e
      | some q =>
        rw [ih _ _ _ _ _ _ hb ha]
        rw [ha] at e
        obtain ⟨x, fr1, h1⟩ := q
        cases x <;> simp only at e ⊢ <;> first
          | exact ih _ _ _ _ _ _ hb e
          | exact e
theorem callN_mono {E : Env} {n n' : Nat} (hn : n ≤ n') : CallLe (callN E n) (callN E n') :=
  callBy_mono fun base base' c fr h r hb e => exec_mono E n n' base base' c fr h r hn hb e
/-! ### No bound -/
open Classical in
noncomputable def lim {α : Type} (f : Nat → Option α) : Option α := if h : ∃ n, (f n).isSome = true then f h.choose else none
theorem lim_some {α : Type} {f : Nat → Option α} (m : ∀ n n' a, n ≤ n' → f n = some a → f n' = some a) {a : α} : lim f = some a ↔ ∃ n, f n = some a := by
  unfold lim
  constructor
  · intro e
    split at e
    · exact ⟨_, e⟩
    · cases e
  · rintro ⟨n, e⟩
    have h : ∃ n, (f n).isSome = true := ⟨n, by simp [e]⟩
    rw [dif_pos h]
    obtain ⟨b, hb⟩ := Option.isSome_iff_exists.1 h.choose_spec
    have h1 := m _ (max n h.choose) _ (Nat.le_max_left _ _) e
    have h2 := m _ (max n h.choose) _ (Nat.le_max_right _ _) hb
    rw [h1] at h2
    rw [hb, h2]
theorem lim_eq {α : Type} {f g : Nat → Option α} {x : Option α} (m : ∀ n n' a, n ≤ n' → f n = some a → f n' = some a) (h1 : ∀ a, x = some a → ∃ n, f n = some a) (h2 : ∀ n a, f n = some a → x = some a) : lim f = x := by
  cases hx : x with
  | some a => exact (lim_some m).2 (h1 a hx)
  | none =>
    cases hl : lim f with
    | none => rfl
    | some a =>
      obtain ⟨n, hn⟩ := (lim_some m).1 hl
      rw [h2 n a hn] at hx
      cases hx
/-- A piece of code runs. -/
noncomputable def Ev (E : Env) (base : Nat) (c : Code) (fr : Frame) (h : Heap) : Option (Ex × Frame × Heap) := lim fun n => exec E n base c fr h
/-- A function runs. -/
noncomputable def Call (E : Env) : CallF := fun base f args h => lim fun n => callN E n base f args h
theorem Ev_some {E : Env} {base : Nat} {c : Code} {fr : Frame} {h : Heap} {r : Ex × Frame × Heap} : Ev E base c fr h = some r ↔ ∃ n, exec E n base c fr h = some r :=
  lim_some fun n n' a hn => exec_mono E n n' base base c fr h a hn (Nat.le_refl _)
theorem Call_some {E : Env} {base f : Nat} {args : List Val} {h : Heap} {r : Res × Heap} : Call E base f args h = some r ↔ ∃ n, callN E n base f args h = some r :=
  lim_some fun n n' a hn => callN_mono hn base base f args h a (Nat.le_refl _)
theorem Call_lower {E : Env} {base base' f : Nat} {args : List Val} {h : Heap} {r : Res × Heap} (hb : base' ≤ base) (e : Call E base f args h = some r) : Call E base' f args h = some r := by
  obtain ⟨n, e⟩ := Call_some.1 e
  exact Call_some.2 ⟨n, callN_mono (Nat.le_refl n) base base' f args h r hb e⟩
theorem Call_grows {E : Env} {base f : Nat} {args : List Val} {h h' : Heap} {r : Res} (w : h.Wf) (hb : base ≤ h.size) (e : Call E base f args h = some (r, h')) : Grows base h h' := by
  obtain ⟨n, e⟩ := Call_some.1 e
  exact callN_keeps E n base f args h r h' w hb e
theorem callN_le {E : Env} (n : Nat) : CallLe (callN E n) (Call E) := fun base base' f args h r hb e => Call_some.2 ⟨n, callN_mono (Nat.le_refl n) base base' f args h r hb e⟩
theorem stepOp_lim {E : Env} {base kept : Nat} {o : ROp} {fr : Frame} {h : Heap} {r : Ex × Frame × Heap} (e : stepOp (Call E) E base kept o fr h = some r) : ∃ n, stepOp (callN E n) E base kept o fr h = some r := by
  have hk : stepK (Call E) E base kept o fr h = some r → ∃ n, stepK (callN E n) E base kept o fr h = some r := by
    intro e
    unfold stepK at e ⊢
    cases ho : o.k with
    | op p => simp only [ho] at e ⊢; exact ⟨0, e⟩
    | call prot cal args =>
      simp only [ho] at e ⊢
      cases hf : cal.find E fr (args.map (·.ev fr)) with
      | none => simp [hf] at e
      | some q =>
        obtain ⟨f, vs⟩ := q
        simp only [hf] at e ⊢
        cases hc : Call E (if prot = true then h.size else base) f vs h with
        | none => simp [hc] at e
        | some q =>
          obtain ⟨n, hn⟩ := Call_some.1 hc
          rw [hc] at e
          exact ⟨n, by rw [hn]; exact e⟩
  unfold stepOp at e ⊢
  cases hg : o.guard with
  | none => simp only [hg] at e; exact hk e
  | some g =>
    obtain ⟨t, want⟩ := g
    simp only [hg] at e
    cases hv : gate (fr.get t) want with
    | none => simp [hv] at e
    | some b =>
      cases b <;> simp only [hv] at e ⊢
      · exact ⟨0, e⟩
      · exact hk e
theorem runOps_lim {E : Env} {base kept : Nat} : ∀ {os : List ROp} {fr : Frame} {h : Heap} {r : Ex × Frame × Heap}, runOps (Call E) E base kept os fr h = some r → ∃ n, runOps (callN E n) E base kept os fr h = some r
  | [], fr, h, r, e => ⟨0, e⟩
  | o :: os, fr, h, r, e => by
    simp only [runOps] at e ⊢
    cases hs : stepOp (Call E) E base kept o fr h with
    | none => simp [hs] at e
    | some q =>
      obtain ⟨n, hn⟩ := stepOp_lim hs
      rw [hs] at e
      obtain ⟨x, fr1, h1⟩ := q
      cases x <;> simp only at e
      case norm =>
        obtain ⟨m, hm⟩ := runOps_lim e
        refine ⟨max n m, ?_⟩
        rw [stepOp_mono (callN_mono (Nat.le_max_left n m)) (Nat.le_refl _) hn]
        exact runOps_mono (callN_mono (Nat.le_max_right n m)) (Nat.le_refl _) hm
      all_goals exact ⟨n, by rw [hn]; exact e⟩
section
variable {E : Env} {base : Nat} {fr : Frame} {h : Heap}
theorem Ev_of {c : Code} {x : Option (Ex × Frame × Heap)} (h1 : ∀ a, x = some a → ∃ n, exec E n base c fr h = some a) (h2 : ∀ n a, exec E n base c fr h = some a → x = some a) : Ev E base c fr h = x :=
  lim_eq (g := fun _ => none) (fun n n' a hn => exec_mono E n n' base base c fr h a hn (Nat.le_refl _)) h1 h2
theorem Ev_skip : Ev E base .skip fr h = some (.norm, fr, h) := Ev_some.2 ⟨1, rfl⟩
theorem Ev_exit {id : Nat} : Ev E base (.exit id) fr h = some (.brk id, fr, h) := Ev_some.2 ⟨1, rfl⟩
theorem Ev_ret : Ev E base .ret fr h = some (.ret, fr, h) := Ev_some.2 ⟨1, rfl⟩
/-- What comes behind a piece of code that ran through. -/
def andThen (r : Option (Ex × Frame × Heap)) (k : Frame → Heap → Option (Ex × Frame × Heap)) : Option (Ex × Frame × Heap) :=
  match r with
  | some (.norm, fr, h) => k fr h
  | r => r
@[simp] theorem andThen_norm {k : Frame → Heap → Option (Ex × Frame × Heap)} : andThen (some (.norm, fr, h)) k = k fr h := rfl
@[simp] theorem andThen_brk {k : Frame → Heap → Option (Ex × Frame × Heap)} {i : Nat} : andThen (some (.brk i, fr, h)) k = some (.brk i, fr, h) := rfl
@[simp] theorem andThen_ret {k : Frame → Heap → Option (Ex × Frame × Heap)} : andThen (some (.ret, fr, h)) k = some (.ret, fr, h) := rfl
theorem andThen_exec {n : Nat} {a : Code} {k : Frame → Heap → Option (Ex × Frame × Heap)} {r : Ex × Frame × Heap} (e : andThen (Ev E base a fr h) k = some r) :
    ∃ q, Ev E base a fr h = some q ∧ andThen (some q) k = some r := by
  cases ha : Ev E base a fr h with
  | none => rw [ha] at e; simp [andThen] at e
  | some q => exact ⟨q, rfl, by rw [ha] at e; exact e⟩
theorem Ev_seq {a b : Code} : Ev E base (.seq a b) fr h = andThen (Ev E base a fr h) (Ev E base b) := by
  apply Ev_of
  · intro r e
    obtain ⟨q, ha, e⟩ := andThen_exec (n := 0) e
    obtain ⟨n, hn⟩ := Ev_some.1 ha
    obtain ⟨x, fr1, h1⟩ := q
    cases x <;> simp only [andThen] at e
    case norm =>
      obtain ⟨m, hm⟩ := Ev_some.1 e
      refine ⟨max n m + 1, ?_⟩
      simp only [exec]
      rw [exec_mono E n (max n m) base base a fr h _ (Nat.le_max_left _ _) (Nat.le_refl _) hn]
      exact exec_mono E m (max n m) base base b fr1 h1 _ (Nat.le_max_right _ _) (Nat.le_refl _) hm
    all_goals exact ⟨n + 1, by simp only [exec, hn]; exact e⟩
  · intro n r e
    cases n with
    | zero => simp [exec] at e
    | succ n =>
      simp only [exec] at e
      cases ha : exec E n base a fr h with
      | none => simp [ha] at e
      | some q =>
        rw [Ev_some.2 ⟨n, ha⟩]
        rw [ha] at e
        obtain ⟨x, fr1, h1⟩ := q
        cases x <;> simp only [andThen] at e ⊢ <;> first
          | exact Ev_some.2 ⟨n, e⟩
          | exact e
theorem Ev_loop {c : Code} : Ev E base (.loop c) fr h = andThen (Ev E base c fr h) (Ev E base (.loop c)) := by
  apply Ev_of
  · intro r e
    obtain ⟨q, ha, e⟩ := andThen_exec (n := 0) e
    obtain ⟨n, hn⟩ := Ev_some.1 ha
    obtain ⟨x, fr1, h1⟩ := q
    cases x <;> simp only [andThen] at e
    case norm =>
      obtain ⟨m, hm⟩ := Ev_some.1 e
      refine ⟨max n m + 1, ?_⟩
      simp only [exec]
      rw [exec_mono E n (max n m) base base c fr h _ (Nat.le_max_left _ _) (Nat.le_refl _) hn]
      exact exec_mono E m (max n m) base base (.loop c) fr1 h1 _ (Nat.le_max_right _ _) (Nat.le_refl _) hm
    all_goals exact ⟨n + 1, by simp only [exec, hn]; exact e⟩
  · intro n r e
    cases n with
    | zero => simp [exec] at e
    | succ n =>
      simp only [exec] at e
      cases ha : exec E n base c fr h with
      | none => simp [ha] at e
      | some q =>
        rw [Ev_some.2 ⟨n, ha⟩]
        rw [ha] at e
        obtain ⟨x, fr1, h1⟩ := q
        cases x <;> simp only [andThen] at e ⊢ <;> first
          | exact Ev_some.2 ⟨n, e⟩
          | exact e
def regionEnd (drop : List Nat) (draw : Bool) (r : Option (Ex × Frame × Heap)) : Option (Ex × Frame × Heap) :=
  match r with
  | some (.pan v, fr', h') => if draw then none else some (.pan v, fr', h')
  | some (x, fr', h') => some (x, fr'.drop drop, h')
  | none => none
@[simp] theorem regionEnd_norm {drop : List Nat} {draw : Bool} : regionEnd drop draw (some (.norm, fr, h)) = some (.norm, fr.drop drop, h) := rfl
@[simp] theorem regionEnd_pan {drop : List Nat} {v : Val} : regionEnd drop false (some (.pan v, fr, h)) = some (.pan v, fr, h) := rfl
theorem Ev_region {ops : List ROp} {drop : List Nat} {keep : Nat} {draw : Bool} : Ev E base (.region ops drop keep draw) fr h = regionEnd drop draw (runOps (Call E) E base h.size ops fr (h.reserve keep)) := by
  apply Ev_of
  · intro r e
    cases hr : runOps (Call E) E base h.size ops fr (h.reserve keep) with
    | none => rw [hr] at e; simp [regionEnd] at e
    | some q =>
      obtain ⟨n, hn⟩ := runOps_lim hr
      refine ⟨n + 1, ?_⟩
      simp only [exec]
      unfold callN at hn
      rw [hn]
      rw [hr] at e
      exact e
  · intro n r e
    cases n with
    | zero => simp [exec] at e
    | succ n =>
      simp only [exec] at e
      cases hr : runOps (callBy (exec E n) E) E base h.size ops fr (h.reserve keep) with
      | none => simp [hr] at e
      | some q =>
        rw [runOps_mono (callN_le n) (Nat.le_refl _) hr]
        rw [hr] at e
        exact e
theorem Ev_cond {y : Opd} {a b : Code} {t : Bool} (ht : y.ev fr = .bool t) : Ev E base (.cond y a b) fr h = Ev E base (if t then a else b) fr h := by
  apply Ev_of
  · intro r e
    obtain ⟨n, hn⟩ := Ev_some.1 e
    exact ⟨n + 1, by simp only [exec, ht]; exact hn⟩
  · intro n r e
    cases n with
    | zero => simp [exec] at e
    | succ n =>
      simp only [exec, ht] at e
      exact Ev_some.2 ⟨n, e⟩
def inBlock (id : Nat) (r : Option (Ex × Frame × Heap)) : Option (Ex × Frame × Heap) :=
  match r with
  | some (.brk i, fr', h') => some (if i = id then .norm else .brk i, fr', h')
  | r => r
@[simp] theorem inBlock_norm {id : Nat} : inBlock id (some (.norm, fr, h)) = some (.norm, fr, h) := rfl
@[simp] theorem inBlock_ret {id : Nat} : inBlock id (some (.ret, fr, h)) = some (.ret, fr, h) := rfl
@[simp] theorem inBlock_same {id : Nat} : inBlock id (some (.brk id, fr, h)) = some (.norm, fr, h) := by simp [inBlock]
theorem inBlock_other {id i : Nat} (hi : i ≠ id) : inBlock id (some (.brk i, fr, h)) = some (.brk i, fr, h) := by simp [inBlock, hi]
theorem Ev_block {id : Nat} {c : Code} : Ev E base (.block id c) fr h = inBlock id (Ev E base c fr h) := by
  apply Ev_of
  · intro r e
    cases hc : Ev E base c fr h with
    | none => rw [hc] at e; simp [inBlock] at e
    | some q =>
      obtain ⟨n, hn⟩ := Ev_some.1 hc
      exact ⟨n + 1, by simp only [exec, hn]; rw [hc] at e; exact e⟩
  · intro n r e
    cases n with
    | zero => simp [exec] at e
    | succ n =>
      simp only [exec] at e
      cases hc : exec E n base c fr h with
      | none => simp [hc] at e
      | some q => rw [Ev_some.2 ⟨n, hc⟩]; rw [hc] at e; exact e
end
/-- How a call's end comes of the body's. -/
def fnEnd (rs : List RV) (r : Option (Ex × Frame × Heap)) : Option (Res × Heap) :=
  match r with
  | some (.pan v, _, h') => some (.pan v, h')
  | some (.brk _, _, _) => none
  | some (_, fr, h') => (resultVals fr h' rs).map fun vs => (.ret (tuple vs), h')
  | none => none
theorem Call_code {E : Env} {base f : Nat} {args : List Val} {h : Heap} {fn : Fun} (ht : E.told f args h = none) (hc : E.code f = some fn) : Call E base f args h = fnEnd fn.results (Ev E base fn.body (Frame.enterFrom 0 args) h) := by
  refine lim_eq (g := fun _ => none) (fun n n' a hn => callN_mono hn base base f args h a (Nat.le_refl _)) ?_ ?_
  · intro r e
    cases hx : Ev E base fn.body (Frame.enterFrom 0 args) h with
    | none => rw [hx] at e; simp [fnEnd] at e
    | some q =>
      obtain ⟨n, hn⟩ := Ev_some.1 hx
      refine ⟨n, ?_⟩
      simp only [callN, callBy, ht, hc, hn]
      rw [hx] at e
      exact e
  · intro n r e
    simp only [callN, callBy, ht, hc] at e
    cases hx : exec E n base fn.body (Frame.enterFrom 0 args) h with
    | none => simp [hx] at e
    | some q => rw [Ev_some.2 ⟨n, hx⟩]; rw [hx] at e; exact e
theorem Call_told {E : Env} {base f : Nat} {args : List Val} {h : Heap} {v : Val} (ht : E.told f args h = some v) : Call E base f args h = some (.ret v, h) :=
  Call_some.2 ⟨0, by simp [callN, callBy, ht]⟩
end Gc
end
section
/- How a proof steps through a text of the small language Gc: what is still to come as a list, one rule for each step. -/
set_option linter.unusedVariables false
namespace Gc
inductive Item where
  | code (b : Code)
  | blk (id : Nat)
noncomputable def unwind (E : Env) (base : Nat) : List Item → Option (Ex × Frame × Heap) → Option (Ex × Frame × Heap)
  | [], x => x
  | .code b :: k, x => unwind E base k (andThen x (Ev E base b))
  | .blk id :: k, x => unwind E base k (inBlock id x)
abbrev Post := Ex → Frame → Heap → Prop
/-- The code, and what comes behind it, runs and ends so. -/
structure At (E : Env) (base : Nat) (c : Code) (k : List Item) (fr : Frame) (h : Heap) (R : Post) : Prop where
  ex : ∃ x fr' h', unwind E base k (Ev E base c fr h) = some (x, fr', h') ∧ R x fr' h'
structure AtOps (E : Env) (base kept : Nat) (dr : Bool) (d : List Nat) (ops : List ROp) (k : List Item) (fr : Frame) (h : Heap) (R : Post) : Prop where
  ex : ∃ x fr' h', unwind E base k (regionEnd d dr (runOps (Call E) E base kept ops fr h)) = some (x, fr', h') ∧ R x fr' h'
/-- A call returns, and so. -/
def CallV (E : Env) (base f : Nat) (args : List Val) (h : Heap) (P : Val → Heap → Prop) : Prop := ∃ v h', Call E base f args h = some (.ret v, h') ∧ P v h'
theorem CallV.mono {E : Env} {base f : Nat} {args : List Val} {h : Heap} {P Q : Val → Heap → Prop} (c : CallV E base f args h P) (q : ∀ v h', P v h' → Q v h') : CallV E base f args h Q :=
  let ⟨v, h', e, p⟩ := c; ⟨v, h', e, q v h' p⟩
theorem CallV.grows {E : Env} {base f : Nat} {args : List Val} {h : Heap} {P : Val → Heap → Prop} (c : CallV E base f args h P) (w : h.Wf) (hb : base ≤ h.size) : CallV E base f args h fun v h' => Grows base h h' ∧ P v h' :=
  let ⟨v, h', e, p⟩ := c; ⟨v, h', e, Call_grows w hb e, p⟩
theorem CallV.lower {E : Env} {base base' f : Nat} {args : List Val} {h : Heap} {P : Val → Heap → Prop} (c : CallV E base f args h P) (hb : base' ≤ base) : CallV E base' f args h P :=
  let ⟨v, h', e, p⟩ := c; ⟨v, h', Call_lower hb e, p⟩
section
variable {E : Env} {base kept : Nat} {k : List Item} {fr fr' : Frame} {h h' : Heap} {R : Post} {dr : Bool} {d : List Nat} {os : List ROp}
theorem g_seq {a b : Code} (g : At E base a (.code b :: k) fr h R) : At E base (.seq a b) k fr h R := by
  refine ⟨?_⟩
  have g := g.ex
  rw [Ev_seq]
  exact g
theorem g_block {id : Nat} {c : Code} (g : At E base c (.blk id :: k) fr h R) : At E base (.block id c) k fr h R := by
  refine ⟨?_⟩
  have g := g.ex
  rw [Ev_block]
  exact g
theorem g_next {b : Code} (g : At E base b k fr h R) : At E base .skip (.code b :: k) fr h R := by
  refine ⟨?_⟩
  have g := g.ex
  rw [Ev_skip]
  exact g
theorem g_out {id : Nat} (g : At E base .skip k fr h R) : At E base .skip (.blk id :: k) fr h R := by
  refine ⟨?_⟩
  have g := g.ex
  rw [Ev_skip] at g ⊢
  exact g
theorem g_exit {id : Nat} {b : Code} (g : At E base (.exit id) k fr h R) : At E base (.exit id) (.code b :: k) fr h R := by
  refine ⟨?_⟩
  have g := g.ex
  rw [Ev_exit] at g ⊢
  exact g
theorem g_here {id : Nat} (g : At E base .skip k fr h R) : At E base (.exit id) (.blk id :: k) fr h R := by
  refine ⟨?_⟩
  have g := g.ex
  rw [Ev_exit]
  rw [Ev_skip] at g
  simp only [unwind, inBlock_same]
  exact g
theorem g_past {id i : Nat} (hi : i ≠ id) (g : At E base (.exit i) k fr h R) : At E base (.exit i) (.blk id :: k) fr h R := by
  refine ⟨?_⟩
  have g := g.ex
  rw [Ev_exit] at g ⊢
  simp only [unwind, inBlock_other hi]
  exact g
theorem g_retc {b : Code} (g : At E base .ret k fr h R) : At E base .ret (.code b :: k) fr h R := by
  refine ⟨?_⟩
  have g := g.ex
  rw [Ev_ret] at g ⊢
  exact g
theorem g_retb {id : Nat} (g : At E base .ret k fr h R) : At E base .ret (.blk id :: k) fr h R := by
  refine ⟨?_⟩
  have g := g.ex
  rw [Ev_ret] at g ⊢
  exact g
theorem g_done (r : R .norm fr h) : At E base .skip [] fr h R := ⟨⟨_, _, _, by rw [Ev_skip]; rfl, r⟩⟩
theorem g_ret (r : R .ret fr h) : At E base .ret [] fr h R := ⟨⟨_, _, _, by rw [Ev_ret]; rfl, r⟩⟩
theorem g_cond {y : Opd} {a b : Code} {t : Bool} (ht : y.ev fr = .bool t) (g : At E base (if t = true then a else b) k fr h R) : At E base (.cond y a b) k fr h R := by
  refine ⟨?_⟩
  have g := g.ex
  rw [Ev_cond ht]
  exact g
theorem g_true {y : Opd} {a b : Code} (ht : y.ev fr = .bool true) (g : At E base a k fr h R) : At E base (.cond y a b) k fr h R := g_cond ht g
theorem g_false {y : Opd} {a b : Code} (ht : y.ev fr = .bool false) (g : At E base b k fr h R) : At E base (.cond y a b) k fr h R := g_cond ht g
theorem g_region {ops : List ROp} (g : AtOps E base h.size dr d ops k fr h R) : At E base (.region ops d 0 dr) k fr h R := by
  refine ⟨?_⟩
  have g := g.ex
  rw [Ev_region]
  exact g
theorem g_regionk {ops : List ROp} (g : AtOps E base h.size dr d ops k fr (h.reserve kept) R) : At E base (.region ops d kept dr) k fr h R := by
  refine ⟨?_⟩
  have g := g.ex
  rw [Ev_region]
  exact g
theorem g_loop {c : Code} (g : At E base c (.code (.loop c) :: k) fr h R) : At E base (.loop c) k fr h R := by
  refine ⟨?_⟩
  have g := g.ex
  rw [Ev_loop]
  exact g
/-- A loop: an invariant that bears a number, which every round lowers. -/
theorem loop_ind {c : Code} (I : Nat → Frame → Heap → Prop) (round : ∀ m fr h, I m fr h → (∀ m' fr' h', m' < m → I m' fr' h' → At E base (.loop c) k fr' h' R) → At E base c (.code (.loop c) :: k) fr h R) :
    ∀ m fr h, I m fr h → At E base (.loop c) k fr h R := by
  intro m
  induction m using Nat.strongRecOn with
  | _ m ih => exact fun fr h hi => g_loop (round m fr h hi fun m' fr' h' hm hi' => ih m' hm fr' h' hi')
/-! ### Operations -/
theorem drop_nil {ks : List Nat} : Frame.drop [] ks = [] := rfl
def inl : Nat → List Nat → Prop
  | _, [] => False
  | j, a :: r => j = a ∨ inl j r
instance inlDec : (j : Nat) → (l : List Nat) → Decidable (inl j l)
  | _, [] => isFalse id
  | j, a :: r => have := inlDec j r; inferInstanceAs (Decidable (j = a ∨ inl j r))
theorem inl_iff {j : Nat} : ∀ {l : List Nat}, inl j l ↔ j ∈ l
  | [] => by simp [inl]
  | a :: r => by simp [inl, inl_iff (l := r)]
theorem drop_cons {ks : List Nat} {j : Nat} {v : Val} {r : Frame} : Frame.drop ((j, v) :: r) ks = if inl j ks then Frame.drop r ks else (j, v) :: Frame.drop r ks := by
  simp only [Frame.drop, List.filter_cons, inl_iff]
  by_cases h : j ∈ ks <;> simp [h]
theorem o_end (hd : fr.drop d = fr') (g : At E base .skip k fr' h R) : AtOps E base kept dr d [] k fr h R := by
  subst hd
  refine ⟨?_⟩
  have g := g.ex
  rw [Ev_skip] at g
  simp only [runOps, regionEnd_norm]
  exact g
theorem o_op {t : Option Nat} {p : Op} {v : Val} (e : p.eval base kept fr h = some (v, h')) (f : fr.dst t v = fr') (g : AtOps E base kept dr d os k fr' h' R) : AtOps E base kept dr d (⟨t, none, .op p⟩ :: os) k fr h R := by
  subst f
  refine ⟨?_⟩
  have g := g.ex
  simp only [runOps, stepOp, stepK, e]
  exact g
theorem gate_same {b : Bool} : gate (.bool b) b = some true := by simp [gate]
theorem gate_other {b b' : Bool} (e : b' ≠ b) : gate (.bool b') b = some false := by simp [gate, e]
theorem gate_skipped {b : Bool} : gate skipped b = some false := rfl
/-- An operation under a condition that holds. -/
theorem o_yes {t : Option Nat} {p : ROpK} {i : Nat} {b b' : Bool} (hb : fr.get i = .bool b') (e : b' = b) (g : AtOps E base kept dr d (⟨t, none, p⟩ :: os) k fr h R) : AtOps E base kept dr d (⟨t, some (i, b), p⟩ :: os) k fr h R := by
  refine ⟨?_⟩
  have g := g.ex
  subst e
  simp only [runOps, stepOp, hb, gate_same] at g ⊢
  exact g
theorem o_no {t : Option Nat} {p : ROpK} {i : Nat} {b b' : Bool} (hb : fr.get i = .bool b') (e : b' ≠ b) (f : fr.dst t skipped = fr') (g : AtOps E base kept dr d os k fr' h R) : AtOps E base kept dr d (⟨t, some (i, b), p⟩ :: os) k fr h R := by
  subst f
  refine ⟨?_⟩
  have g := g.ex
  simp only [runOps, stepOp, hb, gate_other e]
  exact g
/-- An operation under a condition that was not looked at. -/
theorem o_not {t : Option Nat} {p : ROpK} {i : Nat} {b : Bool} (hb : fr.get i = skipped) (f : fr.dst t skipped = fr') (g : AtOps E base kept dr d os k fr' h R) : AtOps E base kept dr d (⟨t, some (i, b), p⟩ :: os) k fr h R := by
  subst f
  refine ⟨?_⟩
  have g := g.ex
  simp only [runOps, stepOp, hb, gate_skipped]
  exact g
theorem o_call {t : Option Nat} {prot : Bool} {c : Callee} {args : List Opd} {f : Nat} {vs : List Val} {P : Val → Heap → Prop} (hf : c.find E fr (args.map (·.ev fr)) = some (f, vs)) (hc : CallV E (if prot = true then h.size else base) f vs h P)
    (g : ∀ v h', P v h' → AtOps E base kept dr d os k (fr.dst t v) h' R) : AtOps E base kept dr d (⟨t, none, .call prot c args⟩ :: os) k fr h R := by
  obtain ⟨v, h2, e, p⟩ := hc
  have g := g v h2 p
  refine ⟨?_⟩
  have g := g.ex
  simp only [runOps, stepOp, stepK, hf, e]
  exact g
/-- A call that leaves all that was there. -/
theorem o_pure {t : Option Nat} {prot : Bool} {c : Callee} {args : List Opd} {f : Nat} {vs : List Val} {P : Val → Heap → Prop} (w : h.Wf) (hb : base ≤ h.size) (hf : c.find E fr (args.map (·.ev fr)) = some (f, vs)) (hc : CallV E h.size f vs h P)
    (g : ∀ v h', Grows h.size h h' → P v h' → AtOps E base kept dr d os k (fr.dst t v) h' R) : AtOps E base kept dr d (⟨t, none, .call prot c args⟩ :: os) k fr h R := by
  refine o_call (P := fun v h' => Grows h.size h h' ∧ P v h') hf ?_ (fun v h' p => g v h' p.1 p.2)
  exact (hc.grows w (Nat.le_refl _)).lower (by split <;> omega)
/-! ### Functions -/
theorem c_told {f : Nat} {args : List Val} {v : Val} {P : Val → Heap → Prop} (ht : E.told f args h = some v) (p : P v h) : CallV E base f args h P := ⟨v, h, Call_told ht, p⟩
theorem c_fn {f : Nat} {args : List Val} {fn : Fun} {P : Val → Heap → Prop} (ht : E.told f args h = none) (hc : E.code f = some fn)
    (g : At E base fn.body [] (Frame.enterFrom 0 args) h fun x fr' h' => (x = .norm ∨ x = .ret) ∧ ∃ vs, resultVals fr' h' fn.results = some vs ∧ P (tuple vs) h') : CallV E base f args h P := by
  obtain ⟨⟨x, fr1, h1, e, hx, vs, hv, p⟩⟩ := g
  refine ⟨tuple vs, h1, ?_, p⟩
  rw [Call_code ht hc]
  simp only [unwind] at e
  rw [e]
  rcases hx with rfl | rfl <;> simp [fnEnd, hv]
end
end Gc
end
section
/- What each operation gives, by the form of its operands: rules for a proof that steps through a text. -/
set_option linter.unusedVariables false
namespace Gc
open Go (IntKind BinOp UnOp)
section
variable {base kept : Nat} {fr : Frame} {h : Heap}
theorem v_t {n : Nat} : (Opd.t n).ev fr = fr.get n := rfl
theorem v_c {v : Val} : (Opd.c v).ev fr = v := rfl
theorem get_cons {j k : Nat} {v : Val} {r : Frame} : Frame.get ((j, v) :: r) k = if j = k then v else Frame.get r k := rfl
theorem get_nil {k : Nat} : Frame.get [] k = .undef := rfl
theorem put_nil {k : Nat} {v : Val} : Frame.put [] k v = [(k, v)] := rfl
theorem put_cons {j k : Nat} {u v : Val} {r : Frame} : Frame.put ((j, u) :: r) k v = if k < j then (k, v) :: (j, u) :: r else if k = j then (k, v) :: r else (j, u) :: Frame.put r k v := rfl
theorem dst_some {k : Nat} {v : Val} : fr.dst (some k) v = fr.put k v := rfl
theorem dst_none {v : Val} : fr.dst none v = fr := rfl
def pickV (h : Heap) (x y : Val) : Val → Option (Val × Heap)
  | .bool t => some (if t then x else y, h)
  | _ => none
theorem pickV_bool {x y : Val} {t : Bool} : pickV h x y (.bool t) = some (if t = true then x else y, h) := rfl
def withH (h : Heap) (o : Option Val) : Option (Val × Heap) := o.map fun v => (v, h)
theorem withH_some {v : Val} : withH h (some v) = some (v, h) := rfl
def loadV (h : Heap) (agg : Bool) (size : Nat) : Val → Option (Val × Heap)
  | .ptr k o => withH h (h.load agg size k o)
  | _ => none
theorem loadV_ptr {agg : Bool} {size k o : Nat} : loadV h agg size (.ptr k o) = withH h (h.load agg size k o) := rfl
def storeV (h : Heap) (base size : Nat) (x : Val) : Val → Option (Val × Heap)
  | .ptr k o => if x.cells.length = size then (h.store base k o x.cells).map fun h' => (.undef, h') else none
  | _ => none
theorem storeV_ptr {size k o : Nat} {x : Val} : storeV h base size x (.ptr k o) = if x.cells.length = size then (h.store base k o x.cells).map fun h' => (.undef, h') else none := rfl
def nilV (h : Heap) : Val → Option (Val × Heap)
  | .ptr k o => some (.ptr k o, h)
  | .fn f cs => some (.fn f cs, h)
  | .iface t v => some (.iface t v, h)
  | _ => none
theorem nilV_ptr {k o : Nat} : nilV h (.ptr k o) = some (.ptr k o, h) := rfl
theorem nilV_iface {t : Nat} {v : Val} : nilV h (.iface t v) = some (.iface t v, h) := rfl
theorem nilV_fn {f : Nat} {cs : List Val} : nilV h (.fn f cs) = some (.fn f cs, h) := rfl
def convV (h : Heap) (k : IntKind) : Val → Option (Val × Heap)
  | .int _ n => some (.int k (k.wrap n), h)
  | _ => none
theorem convV_int {k k' : IntKind} {n : Int} : convV h k (.int k' n) = some (.int k (k.wrap n), h) := rfl
def addrV (h : Heap) (off : Nat) : Val → Option (Val × Heap)
  | .ptr k o => some (.ptr k (o + off), h)
  | _ => none
theorem addrV_ptr {off k o : Nat} : addrV h off (.ptr k o) = some (.ptr k (o + off), h) := rfl
def fieldV (h : Heap) (agg : Bool) (off size : Nat) : Val → Option (Val × Heap)
  | .agg cs => if off + size ≤ cs.length then withH h (Val.ofCells agg ((cs.drop off).take size)) else none
  | _ => none
theorem fieldV_agg {agg : Bool} {off size : Nat} {cs : List Val} : fieldV h agg off size (.agg cs) = if off + size ≤ cs.length then withH h (Val.ofCells agg ((cs.drop off).take size)) else none := rfl
def indexAddrV (h : Heap) (esz : Nat) : Val → Val → Option (Val × Heap)
  | .slice k o n _, .int _ j => if 0 ≤ j ∧ j < n then some (.ptr k (o + j.toNat * esz), h) else none
  | _, _ => none
theorem indexAddrV_slice {esz k o n : Nat} {c : Option Nat} {ki : IntKind} {j : Int} (hj : 0 ≤ j ∧ j < n) : indexAddrV h esz (.slice k o n c) (.int ki j) = some (.ptr k (o + j.toNat * esz), h) := if_pos hj
def indexArrAddrV (h : Heap) (n esz : Nat) : Val → Val → Option (Val × Heap)
  | .ptr k o, .int _ j => if 0 ≤ j ∧ j < n then some (.ptr k (o + j.toNat * esz), h) else none
  | _, _ => none
theorem indexArrAddrV_ptr {esz k o n : Nat} {ki : IntKind} {j : Int} (hj : 0 ≤ j ∧ j < n) : indexArrAddrV h n esz (.ptr k o) (.int ki j) = some (.ptr k (o + j.toNat * esz), h) := if_pos hj
def indexV (h : Heap) (agg : Bool) (n esz : Nat) : Val → Val → Option (Val × Heap)
  | .agg cs, .int _ j => if 0 ≤ j ∧ j < n ∧ j.toNat * esz + esz ≤ cs.length then withH h (Val.ofCells agg ((cs.drop (j.toNat * esz)).take esz)) else none
  | _, _ => none
def strIndexV (h : Heap) : Val → Val → Option (Val × Heap)
  | .str s, .int _ j => if 0 ≤ j then (s[j.toNat]?).map fun b => (.int .u8 b.toNat, h) else none
  | _, _ => none
theorem strIndexV_str {s : List UInt8} {k : IntKind} {j : Int} {b : UInt8} (h0 : 0 ≤ j) (hb : s[j.toNat]? = some b) : strIndexV h (.str s) (.int k j) = some (.int .u8 b.toNat, h) := by
  simp [strIndexV, h0, hb]
def assertV (h : Heap) (t : Nat) (zero : Val) (ok : Bool) : Val → Option (Val × Heap)
  | .iface u v => if u = t then some (if ok then .tup [v, .bool true] else v, h) else if ok then some (.tup [zero, .bool false], h) else none
  | .nili => if ok then some (.tup [zero, .bool false], h) else none
  | _ => none
theorem assertV_iface {t u : Nat} {zero v : Val} {ok : Bool} : assertV h t zero ok (.iface u v) = if u = t then some (if ok = true then .tup [v, .bool true] else v, h) else if ok = true then some (.tup [zero, .bool false], h) else none := rfl
theorem assertV_nili {t : Nat} {zero : Val} {ok : Bool} : assertV h t zero ok .nili = if ok = true then some (.tup [zero, .bool false], h) else none := rfl
def extractV (h : Heap) (i : Nat) : Val → Option (Val × Heap)
  | .tup vs => withH h vs[i]?
  | _ => none
theorem extractV_0 {v : Val} {vs : List Val} : extractV h 0 (.tup (v :: vs)) = some (v, h) := rfl
theorem extractV_1 {v u : Val} {vs : List Val} : extractV h 1 (.tup (v :: u :: vs)) = some (u, h) := rfl
theorem extractV_2 {v u x : Val} {vs : List Val} : extractV h 2 (.tup (v :: u :: x :: vs)) = some (x, h) := rfl
def lenV (h : Heap) : Bool → Val → Option (Val × Heap)
  | true, .str s => some (.int .i64 s.length, h)
  | false, .nils => some (.int .i64 0, h)
  | false, .slice _ _ n _ => some (.int .i64 n, h)
  | _, _ => none
theorem lenV_str {s : List UInt8} : lenV h true (.str s) = some (.int .i64 s.length, h) := rfl
theorem lenV_nils : lenV h false .nils = some (.int .i64 0, h) := rfl
theorem lenV_slice {k o n : Nat} {c : Option Nat} : lenV h false (.slice k o n c) = some (.int .i64 n, h) := rfl
theorem e_mov {x : Opd} : Op.eval base kept fr h (.mov x) = some (x.ev fr, h) := rfl
theorem e_pick {c a b : Opd} : Op.eval base kept fr h (.pick c a b) = pickV h (a.ev fr) (b.ev fr) (c.ev fr) := by simp only [Op.eval]; cases c.ev fr <;> rfl
theorem e_load {agg : Bool} {size : Nat} {a : Opd} : Op.eval base kept fr h (.load agg size a) = loadV h agg size (a.ev fr) := by simp only [Op.eval]; cases a.ev fr <;> rfl
theorem e_store {size : Nat} {a x : Opd} : Op.eval base kept fr h (.store size a x) = storeV h base size (x.ev fr) (a.ev fr) := by simp only [Op.eval]; cases a.ev fr <;> rfl
theorem e_nilchk {x : Opd} : Op.eval base kept fr h (.nilchk x) = nilV h (x.ev fr) := by simp only [Op.eval]; cases x.ev fr <;> rfl
theorem e_bin {k : BK} {op : BinOp} {x y : Opd} : Op.eval base kept fr h (.bin k op x y) = withH h (binOp k op (x.ev fr) (y.ev fr)) := rfl
theorem e_un {op : UnOp} {x : Opd} : Op.eval base kept fr h (.un op x) = withH h (unOp op (x.ev fr)) := rfl
theorem e_conv {k : IntKind} {x : Opd} : Op.eval base kept fr h (.conv k x) = convV h k (x.ev fr) := by simp only [Op.eval]; cases x.ev fr <;> rfl
theorem e_mkIface {t : Nat} {x : Opd} : Op.eval base kept fr h (.mkIface t x) = some (.iface t (x.ev fr), h) := rfl
theorem e_mkFn {f : Nat} {cs : List Opd} : Op.eval base kept fr h (.mkFn f cs) = some (.fn f (cs.map (·.ev fr)), h) := rfl
theorem e_fieldAddr {off : Nat} {x : Opd} : Op.eval base kept fr h (.fieldAddr off x) = addrV h off (x.ev fr) := by simp only [Op.eval]; cases x.ev fr <;> rfl
theorem e_field {agg : Bool} {off size : Nat} {x : Opd} : Op.eval base kept fr h (.field agg off size x) = fieldV h agg off size (x.ev fr) := by simp only [Op.eval]; cases x.ev fr <;> rfl
theorem e_indexAddr {esz : Nat} {x i : Opd} : Op.eval base kept fr h (.indexAddr esz x i) = indexAddrV h esz (x.ev fr) (i.ev fr) := by simp only [Op.eval]; cases x.ev fr <;> cases i.ev fr <;> rfl
theorem e_indexArrAddr {n esz : Nat} {x i : Opd} : Op.eval base kept fr h (.indexArrAddr n esz x i) = indexArrAddrV h n esz (x.ev fr) (i.ev fr) := by simp only [Op.eval]; cases x.ev fr <;> cases i.ev fr <;> rfl
theorem e_index {agg : Bool} {n esz : Nat} {x i : Opd} : Op.eval base kept fr h (.index agg n esz x i) = indexV h agg n esz (x.ev fr) (i.ev fr) := by simp only [Op.eval]; cases x.ev fr <;> cases i.ev fr <;> rfl
theorem e_strIndex {x i : Opd} : Op.eval base kept fr h (.strIndex x i) = strIndexV h (x.ev fr) (i.ev fr) := by simp only [Op.eval]; cases x.ev fr <;> cases i.ev fr <;> rfl
theorem e_assert {t : Nat} {zero : Val} {x : Opd} {ok : Bool} : Op.eval base kept fr h (.assert t zero x ok) = assertV h t zero ok (x.ev fr) := by simp only [Op.eval]; cases x.ev fr <;> rfl
theorem e_extract {x : Opd} {i : Nat} : Op.eval base kept fr h (.extract x i) = extractV h i (x.ev fr) := by simp only [Op.eval]; cases x.ev fr <;> rfl
theorem e_len {s : Bool} {x : Opd} : Op.eval base kept fr h (.len s x) = lenV h s (x.ev fr) := by simp only [Op.eval]; cases s <;> cases x.ev fr <;> rfl
def strSlcV (h : Heap) (lo hi : Option (Option Nat)) : Val → Option (Val × Heap)
  | .str s =>
    match lo, hi with
    | some l, some h' => if l.getD 0 ≤ h'.getD s.length ∧ h'.getD s.length ≤ s.length then some (.str ((s.take (h'.getD s.length)).drop (l.getD 0)), h) else none
    | _, _ => none
  | _ => none
def boundV : Val → Option (Option Nat)
  | .int _ n => if 0 ≤ n then some (some n.toNat) else none
  | _ => none
theorem boundV_int {k : IntKind} {n : Int} (h0 : 0 ≤ n) : boundV (.int k n) = some (some n.toNat) := if_pos h0
theorem bound_none : boundOpt fr none = some none := rfl
theorem bound_some {x : Opd} : boundOpt fr (some x) = boundV (x.ev fr) := by simp only [boundOpt]; cases x.ev fr <;> rfl
theorem e_strSlc {x : Opd} {lo hi : Option Opd} : Op.eval base kept fr h (.strSlc x lo hi) = strSlcV h (boundOpt fr lo) (boundOpt fr hi) (x.ev fr) := by simp only [Op.eval]; cases x.ev fr <;> rfl
theorem strSlcV_from {s : List UInt8} {i : Nat} (hi : i ≤ s.length) : strSlcV h (some (some i)) (some none) (.str s) = some (.str (s.drop i), h) := by simp [strSlcV, hi]
theorem strSlcV_mid {s : List UInt8} {i j : Nat} (hij : i ≤ j) (hj : j ≤ s.length) : strSlcV h (some (some i)) (some (some j)) (.str s) = some (.str ((s.take j).drop i), h) := by simp [strSlcV, hij, hj]
def slcV (h : Heap) (esz : Nat) (lo hi mx : Option (Option Nat)) (x : Val) : Option (Val × Heap) :=
  match lo, hi, mx with
  | some l, some h', some m => if slcOk h esz x = true then withH h (sliceOp esz x (l.getD 0) h' m) else none
  | _, _, _ => none
theorem e_slc {esz : Nat} {x : Opd} {lo hi mx : Option Opd} : Op.eval base kept fr h (.slc esz x lo hi mx) = slcV h esz (boundOpt fr lo) (boundOpt fr hi) (boundOpt fr mx) (x.ev fr) := rfl
def appendV (h : Heap) (base esz bytes : Nat) (slot : Option Nat) (s x : Val) : Option (Val × Heap) :=
  match spread h esz x with
  | some (n, new) => appendOp base h slot esz bytes s n new
  | none => none
theorem e_append {slot : Option Nat} {esz bytes : Nat} {x y : Opd} : Op.eval base kept fr h (.append slot esz bytes x y) = appendV h base esz bytes (slot.map (kept + ·)) (x.ev fr) (y.ev fr) := rfl
def boxV (h : Heap) (base : Nat) (slot : Option Nat) (x : Val) : Option (Val × Heap) :=
  if x.cells.all Val.one = true then (h.lay base slot ⟨x.cells, true, 0⟩).map fun r => (.ptr r.1 0, r.2) else none
theorem e_box {slot : Option Nat} {x : Opd} : Op.eval base kept fr h (.box slot x) = boxV h base (slot.map (kept + ·)) (x.ev fr) := rfl
theorem boxV_new {x : Val} (hx : x.cells.all Val.one = true) : boxV h base none x = some (.ptr h.size 0, h.push (some ⟨x.cells, true, 0⟩)) := by simp [boxV, hx, Heap.lay]
theorem e_build {zero : List Val} {ps : List (Nat × Nat × Opd)} : Op.eval base kept fr h (.build zero ps) = (fill zero (evParts fr ps)).map fun cs => (.agg cs, h) := rfl
def buildSliceV (h : Heap) (base : Nat) (slot : Option Nat) (esz n0 : Nat) : Option (List Val) → Option (Val × Heap)
  | some cs => if cs.all Val.one = true then (h.lay base slot ⟨cs, true, esz⟩).map fun r => (.slice r.1 0 n0 (some n0), r.2) else none
  | none => none
theorem e_buildSlice {slot : Option Nat} {esz n0 : Nat} {zero : List Val} {ps : List (Nat × Nat × Opd)} : Op.eval base kept fr h (.buildSlice slot esz zero n0 ps) = buildSliceV h base (slot.map (kept + ·)) esz n0 (fill zero (evParts fr ps)) := by
  simp only [Op.eval]; cases fill zero (evParts fr ps) <;> rfl
theorem buildSliceV_new {esz n0 : Nat} {cs : List Val} (hx : cs.all Val.one = true) : buildSliceV h base none esz n0 (some cs) = some (.slice h.size 0 n0 (some n0), h.push (some ⟨cs, true, esz⟩)) := by simp [buildSliceV, hx, Heap.lay]
theorem evParts_nil : evParts fr [] = [] := rfl
theorem evParts_cons {i n : Nat} {x : Opd} {ps : List (Nat × Nat × Opd)} : evParts fr ((i, n, x) :: ps) = (i, n, x.ev fr) :: evParts fr ps := rfl
def makeV (h : Heap) (base : Nat) (zero : List Val) (bytes : Nat) : Val → Val → Option (Val × Heap)
  | .int .i64 l, .int .i64 c =>
    if 0 ≤ l ∧ l ≤ c ∧ c * bytes ≤ maxRoom ∧ 1 ≤ bytes ∧ zero.all Val.one = true then
      (h.lay base none ⟨(List.replicate c.toNat zero).flatten, true, zero.length⟩).map fun r => (.slice r.1 0 l.toNat (some c.toNat), r.2)
    else none
  | _, _ => none
theorem e_make {zero : List Val} {bytes : Nat} {l c : Opd} : Op.eval base kept fr h (.makeSlice zero bytes l c) = makeV h base zero bytes (l.ev fr) (c.ev fr) := by
  simp only [Op.eval, makeV]
  generalize Opd.ev fr l = x
  generalize Opd.ev fr c = y
  cases x <;> rfl
/-! ### Two operands -/
variable {k : IntKind} {a b : Int} {s t : List UInt8} {p q : Bool}
theorem b_add : binOp .plain .add (.int k a) (.int k b) = some (.int k (k.wrap (a + b))) := by simp [binOp, intOp]
theorem b_sub : binOp .plain .sub (.int k a) (.int k b) = some (.int k (k.wrap (a - b))) := by simp [binOp, intOp]
theorem b_mul : binOp .plain .mul (.int k a) (.int k b) = some (.int k (k.wrap (a * b))) := by simp [binOp, intOp]
theorem b_quo (hb : b ≠ 0) : binOp .plain .quo (.int k a) (.int k b) = some (.int k (k.wrap (a.tdiv b))) := by simp [binOp, intOp, hb]
theorem b_rem (hb : b ≠ 0) : binOp .plain .rem (.int k a) (.int k b) = some (.int k (a.tmod b)) := by simp [binOp, intOp, hb]
theorem b_eql : binOp .plain .eql (.int k a) (.int k b) = some (.bool (a == b)) := by simp [binOp, intOp, cmpInt]
theorem b_neq : binOp .plain .neq (.int k a) (.int k b) = some (.bool (a != b)) := by simp [binOp, intOp, cmpInt]
theorem b_lss : binOp .plain .lss (.int k a) (.int k b) = some (.bool (decide (a < b))) := by simp [binOp, intOp, cmpInt]
theorem b_leq : binOp .plain .leq (.int k a) (.int k b) = some (.bool (decide (a ≤ b))) := by simp [binOp, intOp, cmpInt]
theorem b_gtr : binOp .plain .gtr (.int k a) (.int k b) = some (.bool (decide (a > b))) := by simp [binOp, intOp, cmpInt]
theorem b_geq : binOp .plain .geq (.int k a) (.int k b) = some (.bool (decide (a ≥ b))) := by simp [binOp, intOp, cmpInt]
theorem b_seql : binOp .plain .eql (.str s) (.str t) = some (.bool (s == t)) := rfl
theorem b_sneq : binOp .plain .neq (.str s) (.str t) = some (.bool (!(s == t))) := rfl
theorem b_sadd (hl : s.length + t.length ≤ maxRoom) : binOp .plain .add (.str s) (.str t) = some (.str (s ++ t)) := by simp [binOp, strOp, hl]
theorem b_beql : binOp .bool .eql (.bool p) (.bool q) = some (.bool (p == q)) := rfl
theorem b_bneq : binOp .bool .neq (.bool p) (.bool q) = some (.bool (!(p == q))) := rfl
theorem b_shl (hb : 0 ≤ b) {k' : IntKind} : binOp .plain .shl (.int k a) (.int k' b) = some (.int k (k.wrap (a * 2 ^ (min b.toNat k.bits)))) := by
  simp [binOp, shiftOp, Int.not_lt.2 hb]
theorem b_shr (hb : 0 ≤ b) {k' : IntKind} : binOp .plain .shr (.int k a) (.int k' b) = some (.int k (a.fdiv (2 ^ (min b.toNat k.bits)))) := by
  simp [binOp, shiftOp, Int.not_lt.2 hb]
theorem b_and : binOp .plain .and (.int k a) (.int k b) = (bitsOp .and k a b).map (.int k ·) := by simp [binOp, intOp]
theorem b_or : binOp .plain .or (.int k a) (.int k b) = (bitsOp .or k a b).map (.int k ·) := by simp [binOp, intOp]
theorem b_andNot : binOp .plain .andNot (.int k a) (.int k b) = (bitsOp .andNot k a b).map (.int k ·) := by simp [binOp, intOp]
theorem b_nili1 : binOp .iface .eql .nili .nili = some (.bool true) := rfl
theorem b_nili2 {t : Nat} {v : Val} : binOp .iface .eql (.iface t v) .nili = some (.bool false) := rfl
theorem b_nili3 : binOp .iface .neq .nili .nili = some (.bool false) := rfl
theorem b_nili4 {t : Nat} {v : Val} : binOp .iface .neq (.iface t v) .nili = some (.bool true) := rfl
theorem b_nils1 : binOp .slice .eql .nils .nils = some (.bool true) := rfl
theorem b_nils2 {k o n : Nat} {c : Option Nat} : binOp .slice .eql (.slice k o n c) .nils = some (.bool false) := rfl
theorem u_not : unOp .not (.bool p) = some (.bool !p) := rfl
theorem u_neg : unOp .neg (.int k a) = some (.int k (k.wrap (0 - a))) := rfl
end
end Gc
end
section
/- Heaps of the small language Gc as proofs use them: loads, stores, new blocks, slices, what a heap keeps. -/
set_option linter.unusedVariables false
namespace Gc
open _root_.Go (IntKind BinOp UnOp)
/-! ### One cell, some cells -/
theorem load_one {h : Heap} {k o : Nat} {b : Blk} {v : Val} (hb : h.get k = some b) (hv : b.cells[o]? = some v) : h.load false 1 k o = some v := by
  obtain ⟨hl, hv⟩ := List.getElem?_eq_some_iff.1 hv
  simp only [Heap.load, hb]
  rw [if_pos (by omega), List.drop_eq_getElem_cons hl]
  simp [Val.ofCells, hv]
theorem load_agg {h : Heap} {k o n : Nat} {b : Blk} {cs : List Val} (hb : h.get k = some b) (hl : o + n ≤ b.cells.length) (hc : (b.cells.drop o).take n = cs) : h.load true n k o = some (.agg cs) := by
  simp only [Heap.load, hb, if_pos hl, hc]
  rfl
theorem store_one {h : Heap} {base k o : Nat} {b : Blk} {v : Val} (hb : h.get k = some b) (hk : base ≤ k) (hw : b.rw = true) (ho : o < b.cells.length) (hv : v.one = true) : h.store base k o [v] = some (h.set k (some { b with cells := b.cells.set o v })) := by
  simp only [Heap.store, hb, List.length_singleton, List.all_cons, List.all_nil, hv, hw, Bool.and_self]
  rw [if_pos ⟨hk, trivial, by omega, trivial⟩]
  simp [splice, List.set_eq_take_append_cons_drop, ho]
theorem store_cells {h : Heap} {base k o : Nat} {b : Blk} {cs : List Val} (hb : h.get k = some b) (hk : base ≤ k) (hw : b.rw = true) (ho : o + cs.length ≤ b.cells.length) (hv : cs.all Val.one = true) : h.store base k o cs = some (h.set k (some { b with cells := splice b.cells o cs })) := by
  simp only [Heap.store, hb]
  rw [if_pos ⟨hk, hw, ho, hv⟩]
/-! ### Sizes and well-formed heaps -/
theorem get_push_lt {h : Heap} {k : Nat} {b : Option Blk} (hk : k < h.size) : (h.push b).get k = h.get k := by
  rw [Heap.get_push, if_neg (by omega)]
theorem get_push_self {h : Heap} {b : Option Blk} : (h.push b).get h.size = b := by rw [Heap.get_push, if_pos rfl]
theorem get_set_self {h : Heap} {k : Nat} {b : Option Blk} : (h.set k b).get k = b := by rw [Heap.get_set, if_pos rfl]
theorem get_set_ne {h : Heap} {j k : Nat} {b : Option Blk} (hj : j ≠ k) : (h.set k b).get j = h.get j := by rw [Heap.get_set, if_neg hj]
theorem wf_push {h : Heap} (w : h.Wf) (b : Option Blk) : (h.push b).Wf := (grows_push w (Nat.zero_le _) b).wf
theorem wf_set {h : Heap} (w : h.Wf) {k : Nat} (hk : k < h.size) (b : Option Blk) : (h.set k b).Wf := (grows_set w (Nat.zero_le _) hk b).wf
/-! ### What a heap keeps -/
/-- The blocks of which P speaks are as they were. -/
def Keep (P : Nat → Prop) (h h' : Heap) : Prop := ∀ k, P k → h'.get k = h.get k
theorem Keep.refl {P : Nat → Prop} {h : Heap} : Keep P h h := fun _ _ => rfl
theorem Keep.trans {P : Nat → Prop} {h h' h'' : Heap} (a : Keep P h h') (b : Keep P h' h'') : Keep P h h'' := fun k p => (b k p).trans (a k p)
theorem Keep.sub {P Q : Nat → Prop} {h h' : Heap} (a : Keep P h h') (s : ∀ k, Q k → P k) : Keep Q h h' := fun k q => a k (s k q)
theorem keep_push {P : Nat → Prop} {h : Heap} {b : Option Blk} (hp : ∀ k, P k → k < h.size) : Keep P h (h.push b) := fun k p => get_push_lt (hp k p)
/-! ### Slices: 'spread' tells how many elements there are, and their cells -/
theorem spread_length {h : Heap} {esz n : Nat} {v : Val} {cs : List Val} (e : spread h esz v = some (n, cs)) : cs.length = n * esz := by
  cases v <;> simp only [spread, reduceCtorEq, Option.some.injEq, Prod.mk.injEq] at e
  case nils => obtain ⟨rfl, rfl⟩ := e; simp
  case str s =>
    split at e
    · simp only [Option.some.injEq, Prod.mk.injEq] at e
      obtain ⟨rfl, rfl⟩ := e
      rename_i h1
      simp [ofBytes, h1]
    · cases e
  case slice k o m c =>
    split at e
    · simp only [Option.some.injEq, Prod.mk.injEq] at e
      obtain ⟨rfl, rfl⟩ := e
      simp
    · cases hk : h.get k with
      | none => simp [hk] at e
      | some b =>
        simp only [hk] at e
        split at e
        · simp only [Option.some.injEq, Prod.mk.injEq] at e
          obtain ⟨rfl, rfl⟩ := e
          rename_i hl
          simp only [List.length_take, List.length_drop]
          omega
        · cases e
/-- The blocks that a slice lies in. -/
def Val.blkIn (P : Nat → Prop) : Val → Prop
  | .slice k _ n _ => n = 0 ∨ P k
  | _ => True
theorem spread_keep {P : Nat → Prop} {h h' : Heap} {esz n : Nat} {v : Val} {cs : List Val} (e : spread h esz v = some (n, cs)) (hp : v.blkIn P) (hk : Keep P h h') : spread h' esz v = some (n, cs) := by
  cases v <;> simp only [spread] at e ⊢ <;> try exact e
  rename_i k o m c
  split at e
  · rename_i h0; rw [if_pos h0]; exact e
  · rename_i h0
    rw [if_neg h0, hk k (hp.resolve_left h0)]
    exact e
theorem spread_slice {h : Heap} {esz k o n : Nat} {c : Option Nat} {b : Blk} (hb : h.get k = some b) (hl : o + n * esz ≤ b.cells.length) : spread h esz (.slice k o n c) = some (n, (b.cells.drop o).take (n * esz)) := by
  simp only [spread]
  split
  · rename_i h0; subst h0; simp
  · simp [hb, hl]
/-- An element of a slice: where it lies, and what it is. -/
theorem spread_elem {h : Heap} {esz n j : Nat} {v : Val} {cs : List Val} {ki : IntKind} (hs : ∀ s, v ≠ .str s) (e : spread h esz v = some (n, cs)) (hj : j < n) :
    ∃ k o c, v = .slice k o n c ∧ indexAddrV h esz v (.int ki j) = some (.ptr k (o + j * esz), h) ∧ (∀ agg size, size ≤ esz → h.load agg size k (o + j * esz) = Val.ofCells agg ((cs.drop (j * esz)).take size)) := by
  cases v <;> simp only [spread, reduceCtorEq, Option.some.injEq, Prod.mk.injEq] at e
  case nils => omega
  case str s => exact absurd rfl (hs s)
  case slice k o m c =>
    split at e
    · simp only [Option.some.injEq, Prod.mk.injEq] at e
      omega
    · cases hk : h.get k with
      | none => simp [hk] at e
      | some b =>
        simp only [hk] at e
        split at e
        case isFalse => cases e
        rename_i hl
        simp only [Option.some.injEq, Prod.mk.injEq] at e
        obtain ⟨rfl, rfl⟩ := e
        refine ⟨k, o, c, rfl, ?_, fun agg size hsz => ?_⟩
        · have := indexAddrV_slice (h := h) (esz := esz) (k := k) (o := o) (c := c) (ki := ki) (j := (j : Int)) (n := m) (by omega)
          simpa using this
        · have h1 : (j + 1) * esz ≤ m * esz := Nat.mul_le_mul_right _ hj
          rw [Nat.add_mul] at h1
          simp only [Heap.load, hk]
          rw [if_pos (by omega)]
          congr 1
          rw [List.drop_take, List.drop_drop, List.take_take, Nat.min_eq_left (by omega)]
/-! ### Lists that a function builds by 'append' -/
/-- The slice holds the n elements whose cells are cs, alone in a block of its own. -/
def Acc (base : Nat) (h : Heap) (esz : Nat) (v : Val) (n : Nat) (cs : List Val) : Prop :=
  cs.length = n * esz ∧ cs.all Val.one = true ∧ ((v = .nils ∧ n = 0) ∨ ∃ k, v = .slice k 0 n none ∧ base ≤ k ∧ h.get k = some ⟨cs, true, esz⟩)
/-- The block is not the list's. -/
def Val.apart (j : Nat) : Val → Prop
  | .slice k _ _ _ => j ≠ k
  | _ => True
theorem Acc.nil {base : Nat} {h : Heap} {esz : Nat} : Acc base h esz .nils 0 [] := ⟨by simp, rfl, .inl ⟨rfl, rfl⟩⟩
theorem Acc.spread {base : Nat} {h : Heap} {esz n : Nat} {v : Val} {cs : List Val} (a : Acc base h esz v n cs) : spread h esz v = some (n, cs) := by
  obtain ⟨hl, _, ⟨rfl, rfl⟩ | ⟨k, rfl, _, hk⟩⟩ := a
  · have : cs = [] := List.eq_nil_of_length_eq_zero (by simpa using hl)
    rw [this]; rfl
  · rw [spread_slice hk (by simp only; omega)]
    simp only [List.drop_zero]
    rw [List.take_of_length_le (by omega)]
theorem Acc.keep {base : Nat} {h h' : Heap} {esz n : Nat} {v : Val} {cs : List Val} (a : Acc base h esz v n cs) (hk : ∀ k, k < h.size → h'.get k = h.get k) (w : h.Wf) : Acc base h' esz v n cs := by
  obtain ⟨hl, ho, ⟨rfl, rfl⟩ | ⟨k, rfl, hb, hg⟩⟩ := a
  · exact ⟨hl, ho, .inl ⟨rfl, rfl⟩⟩
  · exact ⟨hl, ho, .inr ⟨k, rfl, hb, by rw [hk k (w.lt hg)]; exact hg⟩⟩
theorem append_acc {base : Nat} {h : Heap} {esz bytes n m : Nat} {v x : Val} {cs new : List Val} (w : h.Wf) (hb : base ≤ h.size) (a : Acc base h esz v n cs) (hx : spread h esz x = some (m, new)) (hm : 0 < m) (he : 1 ≤ esz) (hby : 1 ≤ bytes)
    (ho : new.all Val.one = true) (hroom : (n + m) * bytes ≤ maxRoom) :
    ∃ h' k, appendV h base esz bytes none v x = some (.slice k 0 (n + m) none, h') ∧ Acc base h' esz (.slice k 0 (n + m) none) (n + m) (cs ++ new) ∧ h'.Wf ∧ h.size ≤ k ∧ h'.size = k + 1 ∧ ∀ j, j < h.size → v.apart j → h'.get j = h.get j := by
  have hnl := spread_length hx
  obtain ⟨hl, hcs, ⟨rfl, rfl⟩ | ⟨k, rfl, hbk, hg⟩⟩ := a
  · have hc : cs = [] := List.eq_nil_of_length_eq_zero (by simpa using hl)
    subst hc
    refine ⟨h.push (some ⟨new, true, esz⟩), h.size, ?_, ⟨by simp [hnl], by simpa using ho, .inr ⟨_, rfl, hb, ?_⟩⟩, wf_push w _, Nat.le_refl _, rfl, fun j hj _ => get_push_lt hj⟩
    · simp only [appendV, hx, appendOp]
      rw [if_neg (by simp only [Decidable.not_not]; exact ⟨hby, he, hnl, ho⟩), if_neg (by omega), if_pos (by simpa using hroom)]
      simp [Heap.lay]
    · rw [get_push_self]; simp
  · have hks := w.lt hg
    have hsz : (h.set k (some Blk.dead)).size = h.size := Heap.size_set h k _ hks
    refine ⟨(h.set k (some .dead)).push (some ⟨cs ++ new, true, esz⟩), h.size, ?_, ⟨by simp [hl, hnl, Nat.add_mul], by simp [hcs, ho], .inr ⟨_, rfl, hb, ?_⟩⟩, wf_push (wf_set w hks _) _, Nat.le_refl _, by simp [hsz], fun j hj hv => ?_⟩
    · simp only [appendV, hx, appendOp]
      rw [if_neg (by simp only [Decidable.not_not]; exact ⟨hby, he, hnl, ho⟩), if_neg (by omega)]
      simp only [hg]
      rw [if_neg (by simp only [Decidable.not_not, Nat.zero_add]; exact ⟨by omega, hroom⟩), if_pos ⟨hbk, by trivial, by trivial, by trivial⟩]
      simp only [Heap.lay, List.drop_zero, Option.map_some, hsz]
      rw [List.take_of_length_le (by omega)]
    · rw [← hsz, get_push_self]
    · rw [get_push_lt (by rw [hsz]; exact hj), get_set_ne hv]
end Gc
end
section
/- The names of a seat, from lists; a seat's calls from the texts. -/
set_option linter.unusedVariables false
namespace Gc
open _root_.Go
theorem nodup_idx {l : List Nat} (hn : l.Nodup) {i j x : Nat} (hi : l[i]? = some x) (hj : l[j]? = some x) : i = j := by
  have h1 := List.getElem?_eq_some_iff.1 hi
  have h2 := List.getElem?_eq_some_iff.1 hj
  obtain ⟨a, ha⟩ := h1
  obtain ⟨b, hb⟩ := h2
  exact (List.getElem_inj hn).1 (ha.trans hb.symm)
theorem glob_find : ∀ {gl : List (Nat × Nat)} {g k : Nat}, (gl.map (·.2)).Nodup → gl.lookup g = some k → (gl.find? fun p => p.2 == k) = some (g, k)
  | [], g, k, hn, h => by simp at h
  | (a, b) :: r, g, k, hn, h => by
    rw [List.lookup_cons] at h
    simp only [List.map_cons, List.nodup_cons, List.mem_map, not_exists, not_and] at hn
    by_cases e : g = a
    · subst e
      simp only [beq_self_eq_true, Option.some.injEq] at h
      subst h
      simp
    · have : (g == a) = false := by simpa using e
      rw [this] at h
      have ih := glob_find hn.2 h
      have hm := List.mem_of_find?_eq_some ih
      have : (b == k) = false := by
        have := hn.1 (g, k) hm
        exact beq_eq_false_iff_ne.2 (Ne.symm this)
      simp only [List.find?_cons, this]
      exact ih
def mkSig (tys fns : List Nat) (gl : List (Nat × Nat)) (hn : tys.Nodup) (hlt : ∀ x ∈ tys, x < 1000000) (hg : (gl.map (·.2)).Nodup) : Sig where
  ty i := (tys[i]?).getD (1000000 + i)
  fn i := (fns[i]?).getD (1000000 + i)
  glob g := gl.lookup g
  base k := (gl.find? fun p => p.2 == k).map fun p => ⟨p.1, 0, 0, 0⟩
  inj a b h := by
    have h : (tys[a]?).getD (1000000 + a) = (tys[b]?).getD (1000000 + b) := h
    cases ha : tys[a]? with
    | none =>
      cases hb : tys[b]? with
      | none => simp only [ha, hb, Option.getD_none] at h; omega
      | some y =>
        have := hlt y (List.mem_of_getElem? hb)
        simp only [ha, hb, Option.getD_none, Option.getD_some] at h
        omega
    | some x =>
      cases hb : tys[b]? with
      | none =>
        have := hlt x (List.mem_of_getElem? ha)
        simp only [ha, hb, Option.getD_none, Option.getD_some] at h
        omega
      | some y =>
        simp only [ha, hb, Option.getD_some] at h
        exact nodup_idx hn ha (h ▸ hb)
  globOk g k h := ⟨⟨g, 0, 0, 0⟩, by rw [glob_find hg h]; rfl, rfl, rfl⟩
def mkInv (tys fns : List Nat) (ms : List String) : Inv := ⟨fun t => tys.idxOf t, fun f => fns.idxOf f, fun m => ms.idxOf m⟩
/-- The texts that a proof speaks of: those of some numbers are so. -/
structure Tabs where
  code : List (Nat × Fun)
  meth : List ((Nat × Nat) × (Nat × Option (Bool × Nat × Nat)))
  told : Nat → List Val → Heap → Option Val
def Env.Has (T : Tabs) (E : Env) (l : List Nat) : Prop :=
  ∀ f ∈ l, E.code f = T.code.lookup f ∧ (∀ args h, E.told f args h = T.told f args h) ∧ ∀ t m pt, T.meth.lookup (t, m) = some (f, pt) → E.method t m = some (f, pt)
theorem Env.Has.sub {T : Tabs} {E : Env} {l l' : List Nat} (h : E.Has T l) (s : ∀ f ∈ l', f ∈ l) : E.Has T l' := fun f hf => h f (s f hf)
/-- The calls of a seat: of the texts, those that its program has. -/
def Tabs.env (T : Tabs) (l : List Nat) : Env where
  code f := if l.contains f = true then T.code.lookup f else none
  told f args h := if l.contains f = true then T.told f args h else none
  method t m := match T.meth.lookup (t, m) with
    | some (f, pt) => if l.contains f = true then some (f, pt) else none
    | none => none
theorem Tabs.env_has (T : Tabs) (l : List Nat) : (T.env l).Has T l := by
  intro f hf
  have : l.contains f = true := by simpa using hf
  refine ⟨by simp [Tabs.env, hf], fun args h => by simp [Tabs.env, hf], fun t m pt h => by simp [Tabs.env, h, hf]⟩
/-! ### Rules in one: for shorter texts -/
theorem zva : type_of% @v_t ∧ type_of% @v_c ∧ type_of% @get_cons ∧ type_of% @get_nil ∧ type_of% @Bool.not_true ∧ type_of% @Bool.not_false := ⟨@v_t, @v_c, @get_cons, @get_nil, @Bool.not_true, @Bool.not_false⟩
theorem zev : type_of% @e_mov ∧ type_of% @e_pick ∧ type_of% @e_load ∧ type_of% @e_store ∧ type_of% @e_nilchk ∧ type_of% @e_bin ∧ type_of% @e_un ∧ type_of% @e_conv ∧ type_of% @e_mkIface ∧ type_of% @e_fieldAddr ∧ type_of% @e_field ∧ type_of% @e_indexAddr ∧ type_of% @e_indexArrAddr ∧ type_of% @e_index ∧ type_of% @e_strIndex ∧ type_of% @e_assert ∧ type_of% @e_extract ∧ type_of% @e_len ∧ type_of% @withH_some ∧ type_of% @loadV_ptr ∧ type_of% @storeV_ptr ∧ type_of% @nilV_ptr ∧ type_of% @nilV_iface ∧ type_of% @nilV_fn ∧ type_of% @convV_int ∧ type_of% @addrV_ptr ∧ type_of% @fieldV_agg ∧ type_of% @assertV_iface ∧ type_of% @assertV_nili ∧ type_of% @extractV_0 ∧ type_of% @extractV_1 ∧ type_of% @extractV_2 ∧ type_of% @lenV_str ∧ type_of% @lenV_nils ∧ type_of% @lenV_slice ∧ type_of% @e_strSlc ∧ type_of% @bound_none ∧ type_of% @bound_some ∧ type_of% @e_slc ∧ type_of% @e_append ∧ type_of% @e_box ∧ type_of% @e_build ∧ type_of% @e_buildSlice ∧ type_of% @e_make ∧ type_of% @e_mkFn ∧ type_of% @evParts_nil ∧ type_of% @evParts_cons ∧ type_of% @b_add ∧ type_of% @b_sub ∧ type_of% @b_mul ∧ type_of% @b_eql ∧ type_of% @b_neq ∧ type_of% @b_lss ∧ type_of% @b_leq ∧ type_of% @b_gtr ∧ type_of% @b_geq ∧ type_of% @b_seql ∧ type_of% @b_sneq ∧ type_of% @b_beql ∧ type_of% @b_bneq ∧ type_of% @b_nili1 ∧ type_of% @b_nili2 ∧ type_of% @b_nili3 ∧ type_of% @b_nili4 ∧ type_of% @b_nils1 ∧ type_of% @b_nils2 ∧ type_of% @u_not ∧ type_of% @u_neg ∧ type_of% @b_shl ∧ type_of% @b_shr ∧ type_of% @b_quo ∧ type_of% @b_rem ∧ type_of% @Nat.zero_add ∧ type_of% @_root_.Go.IntWalk.i64_in ∧ type_of% @_root_.Go.IntWalk.u64_in ∧ type_of% @_root_.Go.IntWalk.u8_in := ⟨@e_mov, @e_pick, @e_load, @e_store, @e_nilchk, @e_bin, @e_un, @e_conv, @e_mkIface, @e_fieldAddr, @e_field, @e_indexAddr, @e_indexArrAddr, @e_index, @e_strIndex, @e_assert, @e_extract, @e_len, @withH_some, @loadV_ptr, @storeV_ptr, @nilV_ptr, @nilV_iface, @nilV_fn, @convV_int, @addrV_ptr, @fieldV_agg, @assertV_iface, @assertV_nili, @extractV_0, @extractV_1, @extractV_2, @lenV_str, @lenV_nils, @lenV_slice, @e_strSlc, @bound_none, @bound_some, @e_slc, @e_append, @e_box, @e_build, @e_buildSlice, @e_make, @e_mkFn, @evParts_nil, @evParts_cons, @b_add, @b_sub, @b_mul, @b_eql, @b_neq, @b_lss, @b_leq, @b_gtr, @b_geq, @b_seql, @b_sneq, @b_beql, @b_bneq, @b_nili1, @b_nili2, @b_nili3, @b_nili4, @b_nils1, @b_nils2, @u_not, @u_neg, @b_shl, @b_shr, @b_quo, @b_rem, @Nat.zero_add, @_root_.Go.IntWalk.i64_in, @_root_.Go.IntWalk.u64_in, @_root_.Go.IntWalk.u8_in⟩
theorem zfr : type_of% @dst_some ∧ type_of% @dst_none ∧ type_of% @put_nil ∧ type_of% @put_cons := ⟨@dst_some, @dst_none, @put_nil, @put_cons⟩
theorem zdr : type_of% @drop_nil ∧ type_of% @drop_cons := ⟨@drop_nil, @drop_cons⟩
end Gc
end
section
/- The plain law of trees and triples: sets of beasts, families of sets, and when a set of triples is shown by some tree. No program stands in it. -/
set_option linter.unusedVariables false
set_option linter.unusedSimpArgs false
namespace Gc
/-- A tree: a beast (its set), or a family (its set, its parts). -/
inductive Tr where
  | leaf (s : Nat)
  | node (s : Nat) (l : List Tr)
def Tr.set : Tr → Nat
  | .leaf s => s
  | .node s _ => s
/-- The least beast of a set among eight. -/
def least (x : Nat) : Nat := (List.range 8).find? (fun i => x.testBit i) |>.getD 0
def first (t : Tr) : Nat := least t.set
def digit (i : Nat) : UInt8 := UInt8.ofNat (48 + i)
/-- Texts with a text between any two. -/
def joinBytes (sep : List UInt8) : List (List UInt8) → List UInt8
  | [] => []
  | [s] => s
  | s :: r => s ++ sep ++ joinBytes sep r
mutual
def Tr.text : Tr → List UInt8
  | .leaf s => [digit (least s)]
  | .node _ l => [40] ++ joinBytes [44] (Tr.texts l) ++ [41]
def Tr.texts : List Tr → List (List UInt8)
  | [] => []
  | t :: l => t.text :: Tr.texts l
end
abbrev T3 := Nat × Nat × Nat
/-! ### Sets -/
def Within (x y : Nat) : Prop := ∀ i, x.testBit i = true → y.testBit i = true
theorem Within.refl {x : Nat} : Within x x := fun _ h => h
theorem Within.trans {x y z : Nat} (a : Within x y) (b : Within y z) : Within x z := fun i h => b i (a i h)
theorem bits_ext {x y : Nat} (h : ∀ i, x.testBit i = true ↔ y.testBit i = true) : x = y :=
  Nat.eq_of_testBit_eq fun i => by
    have := h i
    cases hx : x.testBit i <;> cases hy : y.testBit i <;> simp_all
theorem Within.antisymm {x y : Nat} (a : Within x y) (b : Within y x) : x = y := bits_ext fun i => ⟨a i, b i⟩
theorem bit_of_ne {x : Nat} (h : x ≠ 0) : ∃ i, x.testBit i = true := by
  refine Classical.byContradiction fun hn => h ?_
  refine bits_ext fun i => ⟨fun hi => absurd ⟨i, hi⟩ hn, fun hi => by simp at hi⟩
theorem ne_of_bit {x i : Nat} (h : x.testBit i = true) : x ≠ 0 := by
  rintro rfl
  simp at h
theorem bit_and {x y i : Nat} : (x &&& y).testBit i = true ↔ x.testBit i = true ∧ y.testBit i = true := by simp [Nat.testBit_and]
theorem bit_or {x y i : Nat} : (x ||| y).testBit i = true ↔ x.testBit i = true ∨ y.testBit i = true := by simp [Nat.testBit_or]
theorem bit_two {d i : Nat} : (2 ^ d).testBit i = true ↔ d = i := by simp [Nat.testBit_two_pow]
theorem and_zero {x y : Nat} : x &&& y = 0 ↔ ∀ i, x.testBit i = true → y.testBit i = true → False := by
  constructor
  · intro h i hx hy
    have : (x &&& y).testBit i = true := bit_and.2 ⟨hx, hy⟩
    rw [h] at this
    simp at this
  · intro h
    refine Classical.byContradiction fun hn => ?_
    obtain ⟨i, hi⟩ := bit_of_ne hn
    obtain ⟨a, b⟩ := bit_and.1 hi
    exact h i a b
theorem Within.le {x y : Nat} (h : Within x y) : x ≤ y := by
  have : x &&& y = x := bits_ext fun i => ⟨fun hi => (bit_and.1 hi).1, fun hi => bit_and.2 ⟨hi, h i hi⟩⟩
  rw [← this]
  exact Nat.and_le_right
theorem Within.lt {x y : Nat} (h : Within x y) (hn : x ≠ y) : x < y := Nat.lt_of_le_of_ne h.le hn
/-- The part of a set of which P speaks. -/
theorem sep (s : Nat) (P : Nat → Prop) : ∃ q : Nat, ∀ i, q.testBit i = true ↔ s.testBit i = true ∧ P i := by
  classical
  induction s using Nat.strongRecOn generalizing P with
  | _ s ih =>
    by_cases h0 : s = 0
    · exact ⟨0, fun i => by simp [h0]⟩
    · obtain ⟨q, hq⟩ := ih (s / 2) (by omega) (fun i => P (i + 1))
      refine ⟨2 * q + (if s.testBit 0 = true ∧ P 0 then 1 else 0), fun i => ?_⟩
      cases i with
      | zero =>
        by_cases hc : s.testBit 0 = true ∧ P 0
        · simp only [if_pos hc, hc, true_and, and_self, iff_true]
          simp [Nat.testBit_zero]
        · simp only [if_neg hc, hc, iff_false]
          simp [Nat.testBit_zero]
      | succ i =>
        have : (2 * q + (if s.testBit 0 = true ∧ P 0 then 1 else 0)) / 2 = q := by split <;> omega
        rw [Nat.testBit_succ, this, hq i, Nat.testBit_succ]
/-! ### When triples can be shown -/
def InS (s : Nat) (t : T3) : Prop := s.testBit t.1 = true ∧ s.testBit t.2.1 = true ∧ s.testBit t.2.2 = true
/-- No join of the triples within s leads out of q. -/
def Shut (l : List T3) (s q : Nat) : Prop := ∀ t ∈ l, InS s t → (q.testBit t.1 = true ↔ q.testBit t.2.1 = true)
/-- The set is joined to one part. -/
def Conn (l : List T3) (s : Nat) : Prop := ∀ q, Within q s → q ≠ 0 → Shut l s q → q = s
def Two (s : Nat) : Prop := ∃ i j, i ≠ j ∧ s.testBit i = true ∧ s.testBit j = true
/-- No set of two or more beasts within S is joined to one part. -/
def Free (l : List T3) (S : Nat) : Prop := ∀ s, Within s S → Two s → ¬ Conn l s
theorem Free.sub {l : List T3} {S S' : Nat} (g : Free l S) (h : Within S' S) : Free l S' := fun s hs => g s (hs.trans h)
/-- A family of sets shows a triple. -/
def LShows (F : List Nat) (t : T3) : Prop := ∃ X ∈ F, X.testBit t.1 = true ∧ X.testBit t.2.1 = true ∧ X.testBit t.2.2 = false
/-- Any two of the sets have nothing in common, or one has all of the other. -/
def Lam (F : List Nat) : Prop := ∀ X ∈ F, ∀ Y ∈ F, (∃ i, X.testBit i = true ∧ Y.testBit i = true) → Within X Y ∨ Within Y X
theorem chain_max : ∀ {L : List Nat}, L ≠ [] → (∀ X ∈ L, ∀ Y ∈ L, Within X Y ∨ Within Y X) → ∃ M ∈ L, ∀ X ∈ L, Within X M
  | [X], _, _ => ⟨X, by simp, fun Y h => by simp at h; subst h; exact Within.refl⟩
  | X :: Y :: L, _, h => by
    obtain ⟨M, hM, hm⟩ := chain_max (L := Y :: L) (by simp) (fun A hA B hB => h A (by simp [hA]) B (by simp [hB]))
    rcases h X (by simp) M (by simp only [List.mem_cons] at hM ⊢; exact .inr hM) with g | g
    · exact ⟨M, by simp only [List.mem_cons] at hM ⊢; exact .inr hM, fun Z hZ => by
        rcases List.mem_cons.1 hZ with rfl | hZ
        · exact g
        · exact hm Z hZ⟩
    · exact ⟨X, by simp, fun Z hZ => by
        rcases List.mem_cons.1 hZ with rfl | hZ
        · exact Within.refl
        · exact (hm Z hZ).trans g⟩
/-- The greatest of the sets of which P speaks, where all of these have something in common. -/
theorem lam_max {F : List Nat} (hF : Lam F) {P : Nat → Prop} {a : Nat} (hP : ∀ X ∈ F, P X → X.testBit a = true) (hex : ∃ X ∈ F, P X) : ∃ M ∈ F, P M ∧ ∀ X ∈ F, P X → Within X M := by
  classical
  obtain ⟨X0, hX0, hp0⟩ := hex
  have hmem : ∀ X, X ∈ F.filter (fun X => decide (P X)) ↔ X ∈ F ∧ P X := fun X => by simp
  obtain ⟨M, hM, hm⟩ := chain_max (L := F.filter fun X => decide (P X)) (List.ne_nil_of_mem ((hmem X0).2 ⟨hX0, hp0⟩)) (fun X hX Y hY => by
    obtain ⟨h1, h2⟩ := (hmem X).1 hX
    obtain ⟨h3, h4⟩ := (hmem Y).1 hY
    exact hF X h1 Y h3 ⟨a, hP X h1 h2, hP Y h3 h4⟩)
  obtain ⟨h1, h2⟩ := (hmem M).1 hM
  exact ⟨M, h1, h2, fun X hX hp => hm X ((hmem X).2 ⟨hX, hp⟩)⟩
theorem lam_good {F : List Nat} (hF : Lam F) {l : List T3} (hs : ∀ t ∈ l, LShows F t) (S : Nat) : Free l S := by
  intro s _ ⟨a, b, hab, ha, hb⟩ hc
  by_cases hex : ∃ X ∈ F, X.testBit a = true ∧ ¬ Within s X
  · obtain ⟨M, hM, ⟨hMa, hMs⟩, hmax⟩ := lam_max hF (P := fun X => X.testBit a = true ∧ ¬ Within s X) (a := a) (fun X _ h => h.1) hex
    have hq := hc (M &&& s) (fun i hi => (bit_and.1 hi).2) (ne_of_bit (bit_and.2 ⟨hMa, ha⟩)) (by
      intro t ht ⟨h1, h2, h3⟩
      obtain ⟨X, hX, x1, x2, x3⟩ := hs t ht
      have hXs : ¬ Within s X := fun h => by rw [h _ h3] at x3; cases x3
      have key : ∀ i, X.testBit i = true → M.testBit i = true → Within X M := fun i hi hm => by
        rcases hF X hX M hM ⟨i, hi, hm⟩ with g | g
        · exact g
        · exact hmax X hX ⟨g a hMa, hXs⟩
      constructor
      · intro h
        exact bit_and.2 ⟨key _ x1 (bit_and.1 h).1 _ x2, h2⟩
      · intro h
        exact bit_and.2 ⟨key _ x2 (bit_and.1 h).1 _ x1, h1⟩)
    exact hMs fun i hi => by rw [← hq] at hi; exact (bit_and.1 hi).1
  · have hno : ∀ X ∈ F, X.testBit a = true → Within s X := fun X hX h => Classical.byContradiction fun hn => hex ⟨X, hX, h, hn⟩
    have hq := hc (2 ^ a) (fun i hi => by rw [← bit_two.1 hi]; exact ha) (ne_of_bit (bit_two.2 rfl)) (by
      intro t ht ⟨h1, h2, h3⟩
      obtain ⟨X, hX, x1, x2, x3⟩ := hs t ht
      have hXs : ¬ Within s X := fun h => by rw [h _ h3] at x3; cases x3
      constructor
      · intro h
        rw [← bit_two.1 h] at x1
        exact absurd (hno X hX x1) hXs
      · intro h
        rw [← bit_two.1 h] at x2
        exact absurd (hno X hX x2) hXs)
    rw [← hq] at hb
    exact hab (bit_two.1 hb)
end Gc
end
section
/- The plain law: trees that are well made, their families, what they show; lists sorted by a number. -/
set_option linter.unusedVariables false
set_option linter.unusedSimpArgs false
namespace Gc
/-! ### Lists sorted by a number -/
section
variable {α : Type} (k : α → Nat)
def ins (a : α) : List α → List α
  | [] => [a]
  | b :: l => if k a < k b then a :: b :: l else b :: ins a l
def isort : List α → List α
  | [] => []
  | a :: l => ins k a (isort l)
theorem ins_perm (a : α) : ∀ l : List α, (ins k a l).Perm (a :: l)
  | [] => by simp [ins]
  | b :: l => by
    simp only [ins]
    split
    · exact .refl _
    · exact ((ins_perm a l).cons b).trans (.swap a b l)
theorem isort_perm : ∀ l : List α, (isort k l).Perm l
  | [] => .refl _
  | a :: l => (ins_perm k a _).trans ((isort_perm l).cons a)
theorem ins_sorted (a : α) : ∀ l : List α, l.Pairwise (fun x y => k x ≤ k y) → (ins k a l).Pairwise fun x y => k x ≤ k y
  | [], _ => by simp [ins]
  | b :: l, h => by
    simp only [ins]
    rw [List.pairwise_cons] at h
    split
    · rename_i hab
      rw [List.pairwise_cons]
      refine ⟨fun c hc => ?_, List.pairwise_cons.2 h⟩
      rcases List.mem_cons.1 hc with rfl | hc
      · omega
      · have := h.1 c hc
        omega
    · rename_i hab
      rw [List.pairwise_cons]
      refine ⟨fun c hc => ?_, ins_sorted a l h.2⟩
      rcases List.mem_cons.1 ((ins_perm k a l).mem_iff.1 hc) with rfl | hc
      · omega
      · exact h.1 c hc
theorem isort_sorted : ∀ l : List α, (isort k l).Pairwise fun x y => k x ≤ k y
  | [] => .nil
  | a :: l => ins_sorted k a _ (isort_sorted l)
theorem sorted_eq : ∀ {l l' : List α}, l.Perm l' → l.Pairwise (fun x y => k x < k y) → l'.Pairwise (fun x y => k x ≤ k y) → l = l'
  | [], l', p, _, _ => by simpa using p.symm
  | a :: l, [], p, _, _ => by simp at p
  | a :: l, b :: l', p, h, h' => by
    have hab : a = b := by
      rw [List.pairwise_cons] at h h'
      rcases List.mem_cons.1 (p.mem_iff.1 (List.mem_cons_self (a := a) (l := l))) with e | ha
      · exact e
      · rcases List.mem_cons.1 (p.mem_iff.2 (List.mem_cons_self (a := b) (l := l'))) with e | hb
        · exact e.symm
        · have h1 := h.1 b hb
          have h2 := h'.1 a ha
          omega
    subst hab
    rw [List.pairwise_cons] at h h'
    rw [sorted_eq (List.Perm.cons_inv p) h.2 h'.2]
theorem isort_strict {l : List α} (h : l.Pairwise fun x y => k x ≠ k y) : (isort k l).Pairwise fun x y => k x < k y := by
  have h1 : (isort k l).Pairwise fun x y => k x ≠ k y := ((isort_perm k l).pairwise_iff (fun h => Ne.symm h)).2 h
  exact (h1.and (isort_sorted k l)).imp fun h => Nat.lt_of_le_of_ne h.2 h.1
theorem isort_unique {l l' : List α} (p : l.Perm l') (h : l.Pairwise fun x y => k x ≠ k y) (s : l'.Pairwise fun x y => k x ≤ k y) : isort k l = l' :=
  sorted_eq k ((isort_perm k l).trans p) (isort_strict k h) s
end
/-! ### Trees -/
def union (l : List Tr) : Nat := l.foldl (fun s t => s ||| t.set) 0
theorem bit_foldl {i : Nat} : ∀ {l : List Tr} {s : Nat}, (l.foldl (fun s t => s ||| t.set) s).testBit i = true ↔ s.testBit i = true ∨ ∃ t ∈ l, t.set.testBit i = true
  | [], s => by simp
  | t :: l, s => by
    simp only [List.foldl_cons, bit_foldl (l := l), bit_or, List.mem_cons]
    constructor
    · rintro ((h | h) | ⟨u, hu, h⟩)
      · exact .inl h
      · exact .inr ⟨t, .inl rfl, h⟩
      · exact .inr ⟨u, .inr hu, h⟩
    · rintro (h | ⟨u, rfl | hu, h⟩)
      · exact .inl (.inl h)
      · exact .inl (.inr h)
      · exact .inr ⟨u, hu, h⟩
theorem bit_union {l : List Tr} {i : Nat} : (union l).testBit i = true ↔ ∃ t ∈ l, t.set.testBit i = true := by
  unfold union; rw [bit_foldl]; simp
theorem union_perm {l l' : List Tr} (p : l.Perm l') : union l = union l' := bits_ext fun i => by
  simp only [bit_union]
  exact ⟨fun ⟨t, h, e⟩ => ⟨t, p.mem_iff.1 h, e⟩, fun ⟨t, h, e⟩ => ⟨t, p.mem_iff.2 h, e⟩⟩
/-- A tree of beasts among eight, as it should be. -/
inductive Tr.V : Tr → Prop where
  | leaf {d : Nat} (h : d < 8) : Tr.V (.leaf (2 ^ d))
  | node {l : List Tr} (hl : ∀ t ∈ l, Tr.V t) (h2 : 2 ≤ l.length) (hd : l.Pairwise fun t u => t.set &&& u.set = 0) (hs : l.Pairwise fun t u => first t < first u) : Tr.V (.node (union l) l)
theorem lt_256 {x : Nat} : x < 256 ↔ ∀ i, x.testBit i = true → i < 8 := by
  constructor
  · intro h i hi
    refine Classical.byContradiction fun hn => ?_
    have : x < 2 ^ i := Nat.lt_of_lt_of_le h (by rw [show (256 : Nat) = 2 ^ 8 from rfl]; exact Nat.pow_le_pow_right (by omega) (by omega))
    rw [Nat.testBit_lt_two_pow this] at hi
    cases hi
  · intro h
    have := Nat.lt_pow_two_of_testBit (n := 8) x fun i hi => by
      cases hx : x.testBit i
      · rfl
      · have := h i hx; omega
    simpa using this
theorem Tr.V.lt {t : Tr} (v : t.V) : t.set < 256 := by
  induction v with
  | @leaf d h =>
    simp only [Tr.set]
    exact lt_256.2 fun i hi => by rw [← bit_two.1 hi]; exact h
  | @node l hl h2 hd hs ih =>
    simp only [Tr.set]
    refine lt_256.2 fun i hi => ?_
    obtain ⟨t, ht, h⟩ := bit_union.1 hi
    exact lt_256.1 (ih t ht) i h
theorem Tr.V.ne {t : Tr} (v : t.V) : t.set ≠ 0 := by
  induction v with
  | @leaf d h => exact ne_of_bit (bit_two.2 rfl)
  | @node l hl h2 hd hs ih =>
    cases l with
    | nil => simp at h2
    | cons t l =>
      obtain ⟨i, hi⟩ := bit_of_ne (ih t (by simp))
      exact ne_of_bit (bit_union.2 ⟨t, by simp, hi⟩)
/-- Parts that have nothing in common: a beast is in one alone. -/
theorem pw_eq {i : Nat} : ∀ {l : List Tr}, l.Pairwise (fun t u => t.set &&& u.set = 0) → ∀ {t u : Tr}, t ∈ l → u ∈ l → t.set.testBit i = true → u.set.testBit i = true → t = u
  | [], _, t, u, ht, _, _, _ => by simp at ht
  | a :: l, h, t, u, ht, hu, h1, h2 => by
    rw [List.pairwise_cons] at h
    rcases List.mem_cons.1 ht with rfl | ht' <;> rcases List.mem_cons.1 hu with rfl | hu'
    · rfl
    · exact absurd h2 (fun h2 => and_zero.1 (h.1 u hu') i h1 h2)
    · exact absurd h1 (fun h1 => and_zero.1 (h.1 t ht') i h2 h1)
    · exact pw_eq h.2 ht' hu' h1 h2
/-! ### The sets of a tree's parts -/
mutual
def Tr.cl : Tr → List Nat
  | .leaf s => [s]
  | .node s l => s :: cls l
def cls : List Tr → List Nat
  | [] => []
  | t :: l => t.cl ++ cls l
end
theorem mem_cls {X : Nat} : ∀ {l : List Tr}, X ∈ cls l ↔ ∃ t ∈ l, X ∈ t.cl
  | [] => by simp [cls]
  | t :: l => by simp [cls, mem_cls (l := l)]
theorem cl_self {t : Tr} : t.set ∈ t.cl := by cases t <;> simp [Tr.cl, Tr.set]
theorem cl_node {s X : Nat} {l : List Tr} : X ∈ (Tr.node s l).cl ↔ X = s ∨ ∃ t ∈ l, X ∈ t.cl := by simp [Tr.cl, mem_cls]
theorem Tr.V.cl_sub {t : Tr} (v : t.V) : ∀ X ∈ t.cl, Within X t.set ∧ X ≠ 0 := by
  induction v with
  | @leaf d h => intro X hX; simp [Tr.cl] at hX; subst hX; exact ⟨Within.refl, ne_of_bit (bit_two.2 rfl)⟩
  | @node l hl h2 hd hs ih =>
    intro X hX
    rcases cl_node.1 hX with rfl | ⟨t, ht, hX⟩
    · exact ⟨Within.refl, (Tr.V.node hl h2 hd hs).ne⟩
    · exact ⟨fun i hi => bit_union.2 ⟨t, ht, (ih t ht X hX).1 i hi⟩, (ih t ht X hX).2⟩
theorem Tr.V.lam {t : Tr} (v : t.V) : Lam t.cl := by
  induction v with
  | @leaf d h => intro X hX Y hY _; simp [Tr.cl] at hX hY; subst hX; subst hY; exact .inl Within.refl
  | @node l hl h2 hd hs ih =>
    have vn := Tr.V.node hl h2 hd hs
    intro X hX Y hY ⟨i, hi, hj⟩
    rcases cl_node.1 hX with rfl | ⟨t, ht, hX'⟩
    · exact .inr (vn.cl_sub Y hY).1
    · rcases cl_node.1 hY with rfl | ⟨u, hu, hY'⟩
      · exact .inl (vn.cl_sub X hX).1
      · have := pw_eq hd ht hu (((hl t ht).cl_sub X hX').1 i hi) (((hl u hu).cl_sub Y hY').1 i hj)
        subst this
        exact ih t ht X hX' Y hY' ⟨i, hi, hj⟩
/-! ### Families -/
/-- What is in x, not in y. -/
def diff (x y : Nat) : Nat := x &&& (x ^^^ y)
theorem bit_diff {x y i : Nat} : (diff x y).testBit i = true ↔ x.testBit i = true ∧ y.testBit i = false := by
  simp only [diff, Nat.testBit_and, Nat.testBit_xor]
  cases x.testBit i <;> cases y.testBit i <;> simp
theorem diff_zero {x y : Nat} : diff x y = 0 ↔ Within x y := by
  constructor
  · intro h i hi
    cases hy : y.testBit i
    · have := bit_diff.2 ⟨hi, hy⟩
      rw [h] at this
      simp at this
    · rfl
  · intro h
    refine Classical.byContradiction fun hn => ?_
    obtain ⟨i, hi⟩ := bit_of_ne hn
    obtain ⟨a, b⟩ := bit_diff.1 hi
    rw [h i a] at b
    cases b
mutual
def Tr.fam : Tr → Nat → Nat
  | .leaf s, _ => s
  | .node s l, b => (famIn l b).getD s
def famIn : List Tr → Nat → Option Nat
  | [], _ => none
  | t :: l, b => if diff b t.set = 0 then some (t.fam b) else famIn l b
end
theorem famIn_some {b x : Nat} : ∀ {l : List Tr}, famIn l b = some x → ∃ t ∈ l, Within b t.set ∧ x = t.fam b
  | [], h => by simp [famIn] at h
  | t :: l, h => by
    simp only [famIn] at h
    split at h
    · rename_i hd
      exact ⟨t, by simp, diff_zero.1 hd, by simpa using h.symm⟩
    · obtain ⟨u, hu, g⟩ := famIn_some h
      exact ⟨u, by simp [hu], g⟩
theorem famIn_none {b : Nat} : ∀ {l : List Tr}, famIn l b = none → ∀ t ∈ l, ¬ Within b t.set
  | [], _, t, ht => by simp at ht
  | u :: l, h, t, ht => by
    simp only [famIn] at h
    split at h
    · cases h
    · rename_i hd
      rcases List.mem_cons.1 ht with rfl | ht
      · exact fun g => hd (diff_zero.2 g)
      · exact famIn_none h t ht
theorem Tr.V.fam_spec {t : Tr} (v : t.V) : ∀ {b : Nat}, b ≠ 0 → Within b t.set → t.fam b ∈ t.cl ∧ Within b (t.fam b) ∧ ∀ X ∈ t.cl, Within b X → Within (t.fam b) X := by
  induction v with
  | @leaf d h =>
    intro b h0 hb
    simp only [Tr.fam, Tr.cl, Tr.set] at hb ⊢
    exact ⟨by simp, hb, fun X hX _ => by simp at hX; subst hX; exact Within.refl⟩
  | @node l hl h2 hd hs ih =>
    intro b h0 hb
    have vn := Tr.V.node hl h2 hd hs
    simp only [Tr.fam]
    cases hf : famIn l b with
    | none =>
      have hn := famIn_none hf
      simp only [Option.getD_none]
      refine ⟨cl_node.2 (.inl rfl), hb, fun X hX hbX => ?_⟩
      rcases cl_node.1 hX with rfl | ⟨t, ht, hX'⟩
      · exact Within.refl
      · exact absurd (hbX.trans ((hl t ht).cl_sub X hX').1) (hn t ht)
    | some x =>
      obtain ⟨t, ht, hbt, rfl⟩ := famIn_some hf
      simp only [Option.getD_some]
      obtain ⟨i1, i2, i3⟩ := ih t ht h0 hbt
      refine ⟨cl_node.2 (.inr ⟨t, ht, i1⟩), i2, fun X hX hbX => ?_⟩
      rcases cl_node.1 hX with rfl | ⟨u, hu, hX'⟩
      · exact fun i hi => bit_union.2 ⟨t, ht, ((hl t ht).cl_sub _ i1).1 i hi⟩
      · obtain ⟨i, hi⟩ := bit_of_ne h0
        have := pw_eq hd ht hu (hbt i hi) (((hl u hu).cl_sub X hX').1 i (hbX i hi))
        subst this
        exact i3 X hX' hbX
theorem Tr.V.fam_lt {t : Tr} (v : t.V) (b : Nat) : t.fam b < 256 := by
  induction v with
  | @leaf d h => exact (Tr.V.leaf h).lt
  | @node l hl h2 hd hs ih =>
    simp only [Tr.fam]
    cases hf : famIn l b with
    | none => exact (Tr.V.node hl h2 hd hs).lt
    | some x =>
      obtain ⟨t, ht, _, rfl⟩ := famIn_some hf
      exact ih t ht
theorem least_lt8 (x : Nat) : least x < 8 := by
  unfold least
  cases h : (List.range 8).find? fun i => x.testBit i with
  | none => simp
  | some a =>
    have := List.mem_of_find?_eq_some h
    simpa using this
theorem len_le {α : Type} {k : α → Nat} (hk : ∀ t, k t < 8) : ∀ {l : List α} {lo : Nat}, l.Pairwise (fun t u => k t < k u) → (∀ t ∈ l, lo ≤ k t) → l.length ≤ 8 - lo
  | [], _, _, _ => by simp
  | t :: l, lo, h, hl => by
    rw [List.pairwise_cons] at h
    have := len_le hk (l := l) (lo := k t + 1) h.2 fun u hu => h.1 u hu
    have h1 := hl t (by simp)
    have h2 := hk t
    simp only [List.length_cons]
    omega
theorem few_parts {l : List Tr} (h : l.Pairwise fun t u => first t < first u) : l.length ≤ 8 := len_le (k := first) (fun t => least_lt8 t.set) h (lo := 0) (fun _ _ => Nat.zero_le _)
def pair (t : T3) : Nat := 2 ^ t.1 ||| 2 ^ t.2.1
theorem bit_pair {t : T3} {i : Nat} : (pair t).testBit i = true ↔ t.1 = i ∨ t.2.1 = i := by simp only [pair, bit_or, bit_two]
theorem sub_pair {t : T3} {X : Nat} : Within (pair t) X ↔ X.testBit t.1 = true ∧ X.testBit t.2.1 = true := by
  constructor
  · intro h
    exact ⟨h _ (bit_pair.2 (.inl rfl)), h _ (bit_pair.2 (.inr rfl))⟩
  · rintro ⟨h1, h2⟩ i hi
    rcases bit_pair.1 hi with rfl | rfl
    · exact h1
    · exact h2
/-- The tree shows the triple: the family of the first two has not the third. -/
def Tr.shows (t : Tr) (x : T3) : Bool := !(t.fam (pair x)).testBit x.2.2
theorem Tr.V.shows_iff {t : Tr} (v : t.V) {x : T3} (hx : InS t.set x) : t.shows x = true ↔ LShows t.cl x := by
  obtain ⟨h1, h2, h3⟩ := hx
  obtain ⟨f1, f2, f3⟩ := v.fam_spec (b := pair x) (ne_of_bit (bit_pair.2 (.inl rfl))) (sub_pair.2 ⟨h1, h2⟩)
  simp only [Tr.shows, Bool.not_eq_true']
  constructor
  · intro h
    exact ⟨_, f1, (sub_pair.1 f2).1, (sub_pair.1 f2).2, h⟩
  · rintro ⟨X, hX, x1, x2, x3⟩
    cases hc : (t.fam (pair x)).testBit x.2.2
    · rfl
    · rw [f3 X hX (sub_pair.2 ⟨x1, x2⟩) _ hc] at x3
      cases x3
end Gc
end
section
/- The plain law: parts of a set under joins; the tree that is built of them; when it is there, what it shows, and that it is the only one. -/
set_option linter.unusedVariables false
set_option linter.unusedSimpArgs false
namespace Gc
/-- The parts of a set that are joined by triples. -/
structure PartsOk (l : List T3) (s : Nat) (ps : List Nat) : Prop where
  sub : ∀ p ∈ ps, Within p s ∧ p ≠ 0
  cov : ∀ i, s.testBit i = true → ∃ p ∈ ps, p.testBit i = true
  dis : ps.Pairwise fun p q => p &&& q = 0
  clo : ∀ p ∈ ps, Shut l s p
  min : ∀ p ∈ ps, ∀ q, Within q p → q ≠ 0 → Shut l s q → q = p
theorem Shut.and {l : List T3} {s p q : Nat} (a : Shut l s p) (b : Shut l s q) : Shut l s (p &&& q) := fun t ht hi => by
  rw [bit_and, bit_and, a t ht hi, b t ht hi]
theorem dis_nodup : ∀ {ps : List Nat}, ps.Pairwise (fun p q => p &&& q = 0) → (∀ p ∈ ps, p ≠ 0) → ps.Nodup
  | [], _, _ => .nil
  | p :: ps, h, h0 => by
    rw [List.pairwise_cons] at h
    refine List.nodup_cons.2 ⟨fun hp => ?_, dis_nodup h.2 fun q hq => h0 q (by simp [hq])⟩
    have := h.1 p hp
    rw [Nat.and_self] at this
    exact h0 p (by simp) this
theorem PartsOk.mem {l : List T3} {s p : Nat} {ps : List Nat} (P : PartsOk l s ps) : p ∈ ps ↔ Within p s ∧ p ≠ 0 ∧ Shut l s p ∧ ∀ q, Within q p → q ≠ 0 → Shut l s q → q = p := by
  constructor
  · intro h
    exact ⟨(P.sub p h).1, (P.sub p h).2, P.clo p h, P.min p h⟩
  · rintro ⟨h1, h2, h3, h4⟩
    obtain ⟨i, hi⟩ := bit_of_ne h2
    obtain ⟨p', hp', hi'⟩ := P.cov i (h1 i hi)
    have hn := ne_of_bit (bit_and.2 ⟨hi, hi'⟩)
    have e1 := h4 (p &&& p') (fun j h => (bit_and.1 h).1) hn (h3.and (P.clo p' hp'))
    have e2 := P.min p' hp' (p &&& p') (fun j h => (bit_and.1 h).2) hn (h3.and (P.clo p' hp'))
    rw [← e1, e2]
    exact hp'
theorem PartsOk.nodup {l : List T3} {s : Nat} {ps : List Nat} (P : PartsOk l s ps) : ps.Nodup := dis_nodup P.dis fun p h => (P.sub p h).2
theorem PartsOk.perm {l : List T3} {s : Nat} {ps ps' : List Nat} (P : PartsOk l s ps) (P' : PartsOk l s ps') : ps.Perm ps' :=
  (List.perm_ext_iff_of_nodup P.nodup P'.nodup).2 fun p => by rw [P.mem, P'.mem]
theorem PartsOk.one {l : List T3} {s : Nat} {ps : List Nat} (P : PartsOk l s ps) (h : ps.length = 1) : Conn l s := by
  match ps, h with
  | [p], _ =>
    intro q hq h0 hc
    have e : p = s := ((P.sub p (by simp)).1).antisymm fun i hi => by
      obtain ⟨p', hp', h⟩ := P.cov i hi
      simp at hp'
      rw [← hp']
      exact h
    subst e
    exact P.min p (by simp) q hq h0 hc
theorem PartsOk.conn {l : List T3} {s : Nat} {ps : List Nat} (P : PartsOk l s ps) (h0 : s ≠ 0) (h : Conn l s) : ps.length = 1 := by
  have all : ∀ p ∈ ps, p = s := fun p hp => h p (P.sub p hp).1 (P.sub p hp).2 (P.clo p hp)
  have nd := P.nodup
  match ps, all, nd, P with
  | [], _, _, P =>
    obtain ⟨i, hi⟩ := bit_of_ne h0
    obtain ⟨p, hp, _⟩ := P.cov i hi
    simp at hp
  | [p], _, _, _ => rfl
  | p :: q :: r, all, nd, _ =>
    have h1 := all p (by simp)
    have h2 := all q (by simp)
    subst h1
    subst h2
    simp at nd
theorem PartsOk.proper {l : List T3} {s : Nat} {ps : List Nat} (P : PartsOk l s ps) (h : ps.length ≠ 1) {p : Nat} (hp : p ∈ ps) : p < s := by
  refine (P.sub p hp).1.lt fun e => h ?_
  subst e
  refine P.conn (P.sub p hp).2 ?_
  exact P.min p hp
/-! ### The tree that is built -/
theorem least_mem {x : Nat} (h0 : x ≠ 0) (h : x < 256) : x.testBit (least x) = true := by
  have : ∀ x : Fin 256, x.val ≠ 0 → x.val.testBit (least x.val) = true := by decide +kernel
  exact this ⟨x, h⟩ h0
theorem single {s : Nat} (h0 : s ≠ 0) (h : s < 256) (e : s &&& (s - 1) = 0) : ∃ d, d < 8 ∧ s = 2 ^ d := by
  have : ∀ s : Fin 256, s.val ≠ 0 → s.val &&& (s.val - 1) = 0 → ∃ d : Fin 8, s.val = 2 ^ d.val := by decide +kernel
  obtain ⟨d, hd⟩ := this ⟨s, h⟩ h0 e
  exact ⟨d.val, d.isLt, hd⟩
theorem many {s : Nat} (h : s < 256) (e : s &&& (s - 1) ≠ 0) : Two s := by
  have : ∀ s : Fin 256, s.val &&& (s.val - 1) ≠ 0 → ∃ i j : Fin 8, i.val ≠ j.val ∧ s.val.testBit i.val = true ∧ s.val.testBit j.val = true := by decide +kernel
  obtain ⟨i, j, h⟩ := this ⟨s, h⟩ e
  exact ⟨i.val, j.val, h⟩
def mapO {α β : Type} (g : α → Option β) : List α → Option (List β)
  | [] => some []
  | a :: l =>
    match g a with
    | none => none
    | some b => (mapO g l).map (b :: ·)
theorem mapO_none {α β : Type} {g : α → Option β} : ∀ {l : List α}, mapO g l = none → ∃ a ∈ l, g a = none
  | [], h => by simp [mapO] at h
  | a :: l, h => by
    simp only [mapO] at h
    cases hg : g a with
    | none => exact ⟨a, by simp, hg⟩
    | some b =>
      simp only [hg, Option.map_eq_none_iff] at h
      obtain ⟨c, hc, e⟩ := mapO_none h
      exact ⟨c, by simp [hc], e⟩
theorem mapO_some {α β : Type} {g : α → Option β} : ∀ {l : List α} {r : List β}, mapO g l = some r → l.map g = r.map some
  | [], r, h => by simp [mapO] at h; simp [← h]
  | a :: l, r, h => by
    simp only [mapO] at h
    cases hg : g a with
    | none => simp [hg] at h
    | some b =>
      simp only [hg, Option.map_eq_some_iff] at h
      obtain ⟨r', hr, rfl⟩ := h
      simp [hg, mapO_some hr]
theorem mapO_of {α β : Type} {g : α → Option β} : ∀ {l : List α} {r : List β}, l.map g = r.map some → mapO g l = some r
  | [], r, h => by simp at h; simp [mapO, h]
  | a :: l, [], h => by simp at h
  | a :: l, b :: r, h => by
    simp only [List.map_cons, List.cons.injEq] at h
    simp [mapO, h.1, mapO_of h.2]
def ofT : List Tr → Tr
  | [t] => t
  | l => .node (union l) (isort first l)
theorem ofT_many {l : List Tr} (h : l.length ≠ 1) : ofT l = .node (union l) (isort first l) := by
  match l, h with
  | [], _ => rfl
  | [t], h => simp at h
  | t :: u :: r, _ => rfl
def bld (ps : Nat → List Nat) : Nat → Nat → Option Tr
  | 0, _ => none
  | f + 1, s => if s &&& (s - 1) = 0 then some (.leaf s) else if (ps s).length = 1 then none else (mapO (bld ps f) (ps s)).map ofT
theorem bld_succ {ps : Nat → List Nat} {f s : Nat} : bld ps (f + 1) s = if s &&& (s - 1) = 0 then some (.leaf s) else if (ps s).length = 1 then none else (mapO (bld ps f) (ps s)).map ofT := rfl
theorem pw_first {l : List Tr} (hv : ∀ t ∈ l, t.V) (h : l.Pairwise fun t u => t.set &&& u.set = 0) : l.Pairwise fun t u => first t ≠ first u := by
  induction l with
  | nil => exact .nil
  | cons t l ih =>
    rw [List.pairwise_cons] at h ⊢
    refine ⟨fun u hu e => ?_, ih (fun u hu => hv u (by simp [hu])) h.2⟩
    have h1 := least_mem (hv t (by simp)).ne (hv t (by simp)).lt
    have h2 := least_mem (hv u (by simp [hu])).ne (hv u (by simp [hu])).lt
    unfold first at e
    rw [← e] at h2
    exact and_zero.1 (h.1 u hu) _ h1 h2
theorem ofT_V {l : List Tr} (h2 : 2 ≤ l.length) (hv : ∀ t ∈ l, t.V) (h : l.Pairwise fun t u => t.set &&& u.set = 0) : (ofT l).V := by
  rw [ofT_many (by omega), union_perm (isort_perm first l).symm]
  have p := isort_perm first l
  refine .node (fun t ht => hv t (p.mem_iff.1 ht)) (by rw [p.length_eq]; exact h2) ((p.pairwise_iff fun h => by rw [Nat.and_comm]; exact h).2 h) (isort_strict first (pw_first hv h))
theorem PartsOk.two {l : List T3} {s : Nat} {ps : List Nat} (P : PartsOk l s ps) (h0 : s ≠ 0) (h1 : ps.length ≠ 1) : 2 ≤ ps.length := by
  cases hl : ps with
  | nil =>
    obtain ⟨i, hi⟩ := bit_of_ne h0
    obtain ⟨p, hp, _⟩ := P.cov i hi
    rw [hl] at hp
    simp at hp
  | cons a r =>
    rw [hl] at h1
    cases r with
    | nil => simp at h1
    | cons b r => simp
/-- What is built: a tree of the set, which shows the triples within it; and it is built exactly if no set within it is joined to one part. -/
theorem bld_spec {l : List T3} {ps : Nat → List Nat} (P : ∀ s, s ≠ 0 → s < 256 → PartsOk l s (ps s)) (hl : ∀ x ∈ l, x.1 ≠ x.2.1) : ∀ (f s : Nat), s < f → s ≠ 0 → s < 256 →
    (∀ t, bld ps f s = some t → t.V ∧ t.set = s ∧ (∀ x ∈ l, InS s x → LShows t.cl x) ∧ Free l s) ∧ (bld ps f s = none → ¬ Free l s) := by
  intro f
  induction f with
  | zero => intro s h; omega
  | succ f ih =>
    intro s hf h0 h256
    have Ps := P s h0 h256
    simp only [bld]
    by_cases h1 : s &&& (s - 1) = 0
    · simp only [if_pos h1, Option.some.injEq, reduceCtorEq, false_implies, and_true]
      rintro _ rfl
      obtain ⟨d, hd, rfl⟩ := single h0 h256 h1
      refine ⟨.leaf hd, rfl, fun x hx hi => ?_, fun s' hs' h2 => ?_⟩
      · exact absurd ((bit_two.1 hi.1).symm.trans (bit_two.1 hi.2.1)) (hl x hx)
      · obtain ⟨i, j, hij, hi, hj⟩ := h2
        exact absurd ((bit_two.1 (hs' i hi)).symm.trans (bit_two.1 (hs' j hj))) hij
    · rw [if_neg h1]
      by_cases h2 : (ps s).length = 1
      · simp only [if_pos h2, reduceCtorEq, false_implies, implies_true, true_and, true_implies]
        exact fun g => g s Within.refl (many h256 h1) (Ps.one h2)
      · rw [if_neg h2]
        have ihp : ∀ p ∈ ps s, (∀ t, bld ps f p = some t → t.V ∧ t.set = p ∧ (∀ x ∈ l, InS p x → LShows t.cl x) ∧ Free l p) ∧ (bld ps f p = none → ¬ Free l p) := fun p hp => by
          have := Ps.proper h2 hp
          exact ih p (by omega) (Ps.sub p hp).2 (by omega)
        cases hm : mapO (bld ps f) (ps s) with
        | none =>
          simp only [Option.map_none, reduceCtorEq, false_implies, implies_true, true_and, true_implies]
          obtain ⟨p, hp, hn⟩ := mapO_none hm
          exact fun g => (ihp p hp).2 hn (g.sub (Ps.sub p hp).1)
        | some ts =>
          simp only [Option.map_some, Option.some.injEq, reduceCtorEq, false_implies, and_true]
          rintro _ rfl
          have hm' := mapO_some hm
          have hlen : ts.length = (ps s).length := by simpa using (congrArg List.length hm').symm
          have h2' := Ps.two h0 h2
          have ht : ∀ t ∈ ts, ∃ p ∈ ps s, bld ps f p = some t := fun t h => by
            have : some t ∈ (ps s).map (bld ps f) := by rw [hm']; simp [h]
            obtain ⟨p, hp, e⟩ := List.mem_map.1 this
            exact ⟨p, hp, e⟩
          have hp : ∀ p ∈ ps s, ∃ t ∈ ts, bld ps f p = some t := fun p h => by
            have : bld ps f p ∈ ts.map some := by rw [← hm']; exact List.mem_map.2 ⟨p, h, rfl⟩
            obtain ⟨t, ht, e⟩ := List.mem_map.1 this
            exact ⟨t, ht, e.symm⟩
          have hv : ∀ t ∈ ts, t.V := fun t h => by
            obtain ⟨p, hp, e⟩ := ht t h
            exact ((ihp p hp).1 t e).1
          have hsets : ts.map Tr.set = ps s := by
            have : ∀ (a : List Nat) (b : List Tr), (∀ p ∈ a, p ∈ ps s) → a.map (bld ps f) = b.map some → b.map Tr.set = a := by
              intro a
              induction a with
              | nil => intro b _ h; cases b <;> simp_all
              | cons p a iha =>
                intro b ha h
                cases b with
                | nil => simp at h
                | cons t b =>
                  simp only [List.map_cons, List.cons.injEq] at h ⊢
                  exact ⟨((ihp p (ha p (by simp))).1 t h.1).2.1, iha b (fun q hq => ha q (by simp [hq])) h.2⟩
            exact this _ _ (fun p h => h) hm'
          have hd : ts.Pairwise fun t u => t.set &&& u.set = 0 := by
            have := Ps.dis
            rw [← hsets, List.pairwise_map] at this
            exact this
          have hun : (ofT ts).set = s := by
            rw [ofT_many (by omega)]
            simp only [Tr.set]
            refine bits_ext fun i => ?_
            rw [bit_union]
            constructor
            · rintro ⟨t, h, hi⟩
              have : t.set ∈ ps s := by rw [← hsets]; exact List.mem_map.2 ⟨t, h, rfl⟩
              exact (Ps.sub _ this).1 i hi
            · intro hi
              obtain ⟨p, h, hpi⟩ := Ps.cov i hi
              rw [← hsets] at h
              obtain ⟨t, h', rfl⟩ := List.mem_map.1 h
              exact ⟨t, h', hpi⟩
          refine ⟨ofT_V (by omega) hv hd, hun, fun x hx hi => ?_, fun s' hs' htwo hc => ?_⟩
          · obtain ⟨p, hps, hpa⟩ := Ps.cov _ hi.1
            obtain ⟨t, h, e⟩ := hp p hps
            obtain ⟨_, rfl, hsh, _⟩ := (ihp p hps).1 t e
            have hpb := (Ps.clo _ hps x hx hi).1 hpa
            rw [ofT_many (by omega)]
            have hcl : ∀ X ∈ t.cl, X ∈ (Tr.node (union ts) (isort first ts)).cl := fun X hX => cl_node.2 (.inr ⟨t, (isort_perm first ts).mem_iff.2 h, hX⟩)
            cases hc : t.set.testBit x.2.2
            · exact ⟨t.set, hcl _ cl_self, hpa, hpb, hc⟩
            · obtain ⟨X, hX, g⟩ := hsh x hx ⟨hpa, hpb, hc⟩
              exact ⟨X, hcl X hX, g⟩
          · obtain ⟨i, j, hij, hi, hj⟩ := htwo
            obtain ⟨p, hps, hpi⟩ := Ps.cov i (hs' i hi)
            obtain ⟨t, h, e⟩ := hp p hps
            have hgp := ((ihp p hps).1 t e).2.2.2
            have hq := hc (s' &&& p) (fun k hk => (bit_and.1 hk).1) (ne_of_bit (bit_and.2 ⟨hi, hpi⟩)) (by
              intro x hx hin
              have := Ps.clo p hps x hx ⟨hs' _ hin.1, hs' _ hin.2.1, hs' _ hin.2.2⟩
              rw [bit_and, bit_and, this]
              simp [hin.1, hin.2.1])
            exact hgp s' (fun k hk => by rw [← hq] at hk; exact (bit_and.1 hk).2) ⟨i, j, hij, hi, hj⟩ hc
/-! ### Back -/
/-! ### The other triples of three beasts -/
end Gc
end
section
/- The plain law: the parts of a set under joins are there, and are the only ones. -/
set_option linter.unusedVariables false
set_option linter.unusedSimpArgs false
namespace Gc
theorem pw_lt_perm_eq {l l' : List Nat} (p : l.Perm l') (h : l.Pairwise (· < ·)) (h' : l'.Pairwise (· < ·)) : l = l' :=
  sorted_eq id p h (h'.imp Nat.le_of_lt)
theorem parts_exist (l : List T3) {s : Nat} (hs : s < 256) : ∃ ps, PartsOk l s ps ∧ ps.Pairwise (· < ·) := by
  classical
  -- the part of a beast: what every closed set has that has it
  have atom : ∀ i, s.testBit i = true → ∃ A : Nat, Within A s ∧ A.testBit i = true ∧ Shut l s A ∧ ∀ q, Within q A → q ≠ 0 → Shut l s q → q = A := by
    intro i hi
    obtain ⟨A, hA⟩ := sep s fun j => ∀ q, Within q s → Shut l s q → q.testBit i = true → q.testBit j = true
    refine ⟨A, fun j hj => ((hA j).1 hj).1, (hA i).2 ⟨hi, fun q _ _ h => h⟩, fun x hx hin => ?_, fun q hq h0 hc => ?_⟩
    · rw [hA, hA]
      simp only [hin.1, hin.2.1, true_and]
      constructor
      · intro h q h1 h2 h3
        exact (h2 x hx hin).1 (h q h1 h2 h3)
      · intro h q h1 h2 h3
        exact (h2 x hx hin).2 (h q h1 h2 h3)
    · have hqs : Within q s := fun j hj => ((hA j).1 (hq j hj)).1
      cases hqi : q.testBit i
      · exfalso
        obtain ⟨j, hj⟩ := bit_of_ne h0
        have := ((hA j).1 (hq j hj)).2 (diff s q) (fun k hk => (bit_diff.1 hk).1) (fun x hx hin => by
          rw [bit_diff, bit_diff]
          simp only [hin.1, hin.2.1, true_and]
          have := hc x hx hin
          cases h1 : q.testBit x.1 <;> cases h2 : q.testBit x.2.1 <;> simp_all) (bit_diff.2 ⟨hi, hqi⟩)
        rw [(bit_diff.1 this).2] at hj
        cases hj
      · exact hq.antisymm fun j hj => ((hA j).1 hj).2 q hqs hc hqi
  have go : ∀ n, ∃ ps : List Nat, (∀ p ∈ ps, Within p s ∧ p ≠ 0) ∧ (∀ i, i < n → s.testBit i = true → ∃ p ∈ ps, p.testBit i = true) ∧ (ps.Pairwise fun p q => p &&& q = 0) ∧ (∀ p ∈ ps, Shut l s p) ∧ ∀ p ∈ ps, ∀ q, Within q p → q ≠ 0 → Shut l s q → q = p := by
    intro n
    induction n with
    | zero => exact ⟨[], by simp, by intro i h; omega, .nil, by simp, by simp⟩
    | succ n ih =>
      obtain ⟨ps, h1, h2, h3, h4, h5⟩ := ih
      by_cases hn : s.testBit n = true ∧ ∀ p ∈ ps, p.testBit n = false
      · obtain ⟨A, a1, a2, a3, a4⟩ := atom n hn.1
        refine ⟨A :: ps, ?_, fun i hi hsi => ?_, List.pairwise_cons.2 ⟨fun p hp => ?_, h3⟩, ?_, ?_⟩
        · intro p hp
          rcases List.mem_cons.1 hp with rfl | hp
          · exact ⟨a1, ne_of_bit a2⟩
          · exact h1 p hp
        · by_cases e : i = n
          · subst e; exact ⟨A, by simp, a2⟩
          · obtain ⟨p, hp, h⟩ := h2 i (by omega) hsi
            exact ⟨p, by simp [hp], h⟩
        · refine Classical.byContradiction fun h0 => ?_
          have e1 := a4 (A &&& p) (fun j h => (bit_and.1 h).1) h0 (a3.and (h4 p hp))
          have e2 := h5 p hp (A &&& p) (fun j h => (bit_and.1 h).2) h0 (a3.and (h4 p hp))
          have := hn.2 p hp
          rw [← e2, e1, a2] at this
          cases this
        · intro p hp
          rcases List.mem_cons.1 hp with rfl | hp
          · exact a3
          · exact h4 p hp
        · intro p hp
          rcases List.mem_cons.1 hp with rfl | hp
          · exact a4
          · exact h5 p hp
      · refine ⟨ps, h1, fun i hi hsi => ?_, h3, h4, h5⟩
        by_cases e : i = n
        · subst e
          refine Classical.byContradiction fun hno => hn ⟨hsi, fun p hp => ?_⟩
          cases h : p.testBit i
          · rfl
          · exact absurd ⟨p, hp, h⟩ hno
        · exact h2 i (by omega) hsi
  obtain ⟨ps, h1, h2, h3, h4, h5⟩ := go 8
  have P : PartsOk l s ps := ⟨h1, fun i hi => h2 i (lt_256.1 hs i hi) hi, h3, h4, h5⟩
  have p := isort_perm id ps
  refine ⟨isort id ps, ⟨fun q hq => h1 q (p.mem_iff.1 hq), fun i hi => ?_, (p.pairwise_iff fun h => by rw [Nat.and_comm]; exact h).2 h3, fun q hq => h4 q (p.mem_iff.1 hq), fun q hq => h5 q (p.mem_iff.1 hq)⟩, ?_⟩
  · obtain ⟨q, hq, h⟩ := P.cov i hi
    exact ⟨q, p.mem_iff.2 hq, h⟩
  · have := isort_strict id (l := ps) P.nodup
    simpa using this
theorem PartsOk.of_perm {l : List T3} {s : Nat} {ps ps' : List Nat} (P : PartsOk l s ps) (p : ps.Perm ps') : PartsOk l s ps' :=
  ⟨fun q hq => P.sub q (p.mem_iff.2 hq), fun i hi => by
    obtain ⟨q, hq, h⟩ := P.cov i hi
    exact ⟨q, p.mem_iff.1 hq, h⟩, (p.pairwise_iff fun h => by rw [Nat.and_comm]; exact h).1 P.dis, fun q hq => P.clo q (p.mem_iff.2 hq), fun q hq => P.min q (p.mem_iff.2 hq)⟩
open Classical in
/-- The parts of a set, rising. -/
noncomputable def partsF (l : List T3) (s : Nat) : List Nat := if h : ∃ ps, PartsOk l s ps ∧ ps.Pairwise (· < ·) then h.choose else []
theorem partsF_ok (l : List T3) {s : Nat} (hs : s < 256) : PartsOk l s (partsF l s) ∧ (partsF l s).Pairwise (· < ·) := by
  have h := parts_exist l hs
  unfold partsF
  rw [dif_pos h]
  exact h.choose_spec
theorem partsF_eq {l : List T3} {s : Nat} (hs : s < 256) {ps : List Nat} (P : PartsOk l s ps) (h : ps.Pairwise (· < ·)) : ps = partsF l s :=
  pw_lt_perm_eq (P.perm (partsF_ok l hs).1) h (partsF_ok l hs).2
/-- The tree that Build makes of a set. -/
noncomputable def buildF (l : List T3) (s : Nat) : Option Tr := bld (partsF l) 256 s
theorem buildF_spec {l : List T3} (hl : ∀ x ∈ l, x.1 ≠ x.2.1) {s : Nat} (h0 : s ≠ 0) (h : s < 256) :
    (∀ t, buildF l s = some t → t.V ∧ t.set = s ∧ (∀ x ∈ l, InS s x → LShows t.cl x) ∧ Free l s) ∧ (buildF l s = none → ¬ Free l s) :=
  bld_spec (fun s _ h => (partsF_ok l h).1) hl 256 s h h0 h
theorem bld_fuel {ps : Nat → List Nat} {l : List T3} (P : ∀ s, s ≠ 0 → s < 256 → PartsOk l s (ps s)) : ∀ (f g s : Nat), s < f → s < g → s ≠ 0 → s < 256 → bld ps f s = bld ps g s := by
  intro f
  induction f with
  | zero => intro g s h; omega
  | succ f ih =>
    intro g s hf hg h0 h
    cases g with
    | zero => omega
    | succ g =>
      rw [bld_succ, bld_succ]
      split
      · rfl
      · split
        · rfl
        · rename_i h1 h2
          have : ∀ p ∈ ps s, bld ps f p = bld ps g p := fun p hp => by
            have := (P s h0 h).proper h2 hp
            exact ih g p (by omega) (by omega) ((P s h0 h).sub p hp).2 (by omega)
          have : ∀ (a : List Nat), (∀ p ∈ a, bld ps f p = bld ps g p) → mapO (bld ps f) a = mapO (bld ps g) a := by
            intro a
            induction a with
            | nil => intro _; rfl
            | cons p a iha =>
              intro ha
              simp only [mapO]
              rw [ha p (by simp), iha fun q hq => ha q (by simp [hq])]
          rw [this _ ‹_›]
theorem few_sets {ps : List Nat} (h : ∀ p ∈ ps, p ≠ 0 ∧ p < 256) (hd : ps.Pairwise fun p q => p &&& q = 0) : ps.length ≤ 8 := by
  have h1 : ps.Pairwise fun p q => least p ≠ least q := by
    induction ps with
    | nil => exact .nil
    | cons p ps ih =>
      rw [List.pairwise_cons] at hd ⊢
      refine ⟨fun q hq e => ?_, ih (fun q hq => h q (by simp [hq])) hd.2⟩
      have a := least_mem (h p (by simp)).1 (h p (by simp)).2
      have b := least_mem (h q (by simp [hq])).1 (h q (by simp [hq])).2
      rw [← e] at b
      exact and_zero.1 (hd.1 q hq) _ a b
  have h2 := len_le (k := least) least_lt8 (isort_strict least h1) (lo := 0) (fun _ _ => Nat.zero_le _)
  rw [(isort_perm least ps).length_eq] at h2
  omega
/-- One step of the building. -/
theorem buildF_step {l : List T3} {s : Nat} (h0 : s ≠ 0) (h : s < 256) : buildF l s = if s &&& (s - 1) = 0 then some (.leaf s) else if (partsF l s).length = 1 then none else (mapO (buildF l) (partsF l s)).map ofT := by
  unfold buildF
  rw [bld_fuel (fun s _ h => (partsF_ok l h).1) 256 257 s h (by omega) h0 h, bld_succ]
end Gc
end
section
/- The plain law: how a tree is read of a string, and that its text reads as the tree. -/
set_option linter.unusedVariables false
set_option linter.unusedSimpArgs false
namespace Gc
def lastLt (acc : List Tr) (t : Tr) : Bool :=
  match acc.getLast? with
  | none => true
  | some u => decide (first u < first t)
mutual
/-- A tree read at the beginning of a string, with what is left; beasts below n. -/
def rd (n : Nat) : Nat → List UInt8 → Option (Tr × List UInt8)
  | 0, _ => none
  | f + 1, s =>
    match s with
    | [] => none
    | c :: r => if 48 ≤ c.toNat ∧ c.toNat < 48 + n then some (.leaf (2 ^ (c.toNat - 48)), r) else if c = 40 then rdL n f [] r else none
/-- The trees of a family, behind some that were read. -/
def rdL (n : Nat) : Nat → List Tr → List UInt8 → Option (Tr × List UInt8)
  | 0, _, _ => none
  | f + 1, acc, s =>
    match rd n f s with
    | none => none
    | some (t, r) =>
      if t.set &&& union acc = 0 ∧ lastLt acc t = true then
        (match r with
        | [] => none
        | c :: r => if c = 41 then (if acc.length = 0 then none else some (.node (union (acc ++ [t])) (acc ++ [t]), r)) else if c = 44 then rdL n f (acc ++ [t]) r else none)
      else none
end
theorem rd_nil {n f : Nat} : rd n f [] = none := by cases f <;> simp [rd]
theorem rd_cons {n f : Nat} {c : UInt8} {r : List UInt8} : rd n (f + 1) (c :: r) = if 48 ≤ c.toNat ∧ c.toNat < 48 + n then some (.leaf (2 ^ (c.toNat - 48)), r) else if c = 40 then rdL n f [] r else none := by simp [rd]
theorem rdL_succ {n f : Nat} {acc : List Tr} {s : List UInt8} : rdL n (f + 1) acc s =
    match rd n f s with
    | none => none
    | some (t, r) =>
      if t.set &&& union acc = 0 ∧ lastLt acc t = true then
        (match r with
        | [] => none
        | c :: r => if c = 41 then (if acc.length = 0 then none else some (.node (union (acc ++ [t])) (acc ++ [t]), r)) else if c = 44 then rdL n f (acc ++ [t]) r else none)
      else none := by simp [rdL]
/-! ### Texts -/
theorem texts_append : ∀ {l m : List Tr}, Tr.texts (l ++ m) = Tr.texts l ++ Tr.texts m
  | [], m => by simp [Tr.texts]
  | t :: l, m => by simp [Tr.texts, texts_append (l := l)]
theorem join_snoc {sep x : List UInt8} : ∀ {l : List (List UInt8)}, joinBytes sep (l ++ [x]) = l.flatMap (· ++ sep) ++ x
  | [] => by simp [joinBytes]
  | [a] => by simp [joinBytes]
  | a :: b :: l => by
    have := join_snoc (sep := sep) (x := x) (l := b :: l)
    simp only [List.cons_append] at this ⊢
    simp only [joinBytes, this]
    simp
/-- What is read of a family before its next tree. -/
def pre (acc : List Tr) : List UInt8 := 40 :: (Tr.texts acc).flatMap (· ++ [44])
theorem pre_snoc {acc : List Tr} {t : Tr} : pre (acc ++ [t]) = pre acc ++ t.text ++ [44] := by simp [pre, texts_append, Tr.texts]
theorem text_snoc {s : Nat} {acc : List Tr} {t : Tr} : (Tr.node s (acc ++ [t])).text = pre acc ++ t.text ++ [41] := by
  simp [Tr.text, texts_append, Tr.texts, join_snoc, pre]
/-! ### What is read is a tree, and its text was read -/
def AccOk (n : Nat) (acc : List Tr) : Prop := (∀ t ∈ acc, t.V ∧ ∀ i, t.set.testBit i = true → i < n) ∧ (acc.Pairwise fun t u => t.set &&& u.set = 0) ∧ acc.Pairwise fun t u => first t < first u
theorem AccOk.nil {n : Nat} : AccOk n [] := ⟨by simp, .nil, .nil⟩
theorem getLast_max {acc : List Tr} (h : acc.Pairwise fun t u => first t < first u) {t : Tr} (hl : lastLt acc t = true) : ∀ u ∈ acc, first u < first t := by
  intro u hu
  have hne : acc ≠ [] := List.ne_nil_of_mem hu
  have e := List.dropLast_concat_getLast hne
  unfold lastLt at hl
  rw [List.getLast?_eq_some_getLast hne] at hl
  simp only [decide_eq_true_eq] at hl
  rw [← e] at hu h
  rcases List.mem_append.1 hu with hu | hu
  · have := (List.pairwise_append.1 h).2.2 u hu _ (List.mem_singleton.2 rfl)
    omega
  · rw [List.mem_singleton.1 hu]; exact hl
theorem AccOk.snoc {n : Nat} {acc : List Tr} {t : Tr} (a : AccOk n acc) (v : t.V) (hn : ∀ i, t.set.testBit i = true → i < n) (hd : t.set &&& union acc = 0) (hl : lastLt acc t = true) : AccOk n (acc ++ [t]) := by
  obtain ⟨a1, a2, a3⟩ := a
  refine ⟨fun u hu => ?_, List.pairwise_append.2 ⟨a2, List.pairwise_singleton _ _, fun u hu w hw => ?_⟩, List.pairwise_append.2 ⟨a3, List.pairwise_singleton _ _, fun u hu w hw => ?_⟩⟩
  · rcases List.mem_append.1 hu with hu | hu
    · exact a1 u hu
    · rw [List.mem_singleton.1 hu]; exact ⟨v, hn⟩
  · rw [List.mem_singleton.1 hw]
    exact and_zero.2 fun i h1 h2 => and_zero.1 hd i h2 (bit_union.2 ⟨u, hu, h1⟩)
  · rw [List.mem_singleton.1 hw]
    exact getLast_max a3 hl u hu
theorem AccOk.tree {n : Nat} {acc : List Tr} (a : AccOk n acc) (h : 2 ≤ acc.length) : (Tr.node (union acc) acc).V ∧ ∀ i, (Tr.node (union acc) acc).set.testBit i = true → i < n :=
  ⟨.node (fun t ht => (a.1 t ht).1) h a.2.1 a.2.2, fun i hi => by
    obtain ⟨t, ht, h⟩ := bit_union.1 hi
    exact (a.1 t ht).2 i h⟩
theorem digit_of {c : UInt8} {n : Nat} (h1 : 48 ≤ c.toNat) (h2 : c.toNat < 48 + n) (hn : n ≤ 8) : digit (least (2 ^ (c.toNat - 48))) = c := by
  have : ∀ d : Fin 8, least (2 ^ d.val) = d.val := by decide +kernel
  have := this ⟨c.toNat - 48, by omega⟩
  simp only at this
  rw [this, digit, show 48 + (c.toNat - 48) = c.toNat by omega]
  exact UInt8.ofNat_toNat
theorem rd_ok {n : Nat} (hn : n ≤ 8) : ∀ f, (∀ s t r, rd n f s = some (t, r) → t.V ∧ (∀ i, t.set.testBit i = true → i < n) ∧ s = t.text ++ r) ∧
    (∀ acc s t r, AccOk n acc → rdL n f acc s = some (t, r) → t.V ∧ (∀ i, t.set.testBit i = true → i < n) ∧ pre acc ++ s = t.text ++ r) := by
  intro f
  induction f with
  | zero => exact ⟨fun s t r h => by simp [rd] at h, fun acc s t r _ h => by simp [rdL] at h⟩
  | succ f ih =>
    constructor
    · intro s t r h
      cases s with
      | nil => simp [rd] at h
      | cons c s =>
        rw [rd_cons] at h
        split at h
        · rename_i hc
          simp only [Option.some.injEq, Prod.mk.injEq] at h
          obtain ⟨rfl, rfl⟩ := h
          refine ⟨.leaf (by omega), fun i hi => ?_, ?_⟩
          · rw [← bit_two.1 hi]; omega
          · simp [Tr.text, digit_of hc.1 hc.2 hn]
        · split at h
          · rename_i hc
            obtain ⟨h1, h2, h3⟩ := ih.2 [] s t r .nil h
            refine ⟨h1, h2, ?_⟩
            rw [← h3, hc]
            simp [pre, Tr.texts]
          · cases h
    · intro acc s t r ha h
      rw [rdL_succ] at h
      cases hr : rd n f s with
      | none => simp [hr] at h
      | some q =>
        obtain ⟨u, r1⟩ := q
        simp only [hr] at h
        obtain ⟨v, hb, hs⟩ := ih.1 s u r1 hr
        split at h
        case isFalse => cases h
        rename_i hc
        have ha' := ha.snoc v hb hc.1 hc.2
        cases r1 with
        | nil => simp at h
        | cons c r1 =>
          simp only at h
          split at h
          · rename_i hc
            split at h
            · cases h
            · simp only [Option.some.injEq, Prod.mk.injEq] at h
              obtain ⟨rfl, rfl⟩ := h
              obtain ⟨t1, t2⟩ := ha'.tree (by simp; omega)
              refine ⟨t1, t2, ?_⟩
              rw [text_snoc, hs, hc]
              simp
          · split at h
            · rename_i hc
              obtain ⟨h1, h2, h3⟩ := ih.2 _ _ t r ha' h
              refine ⟨h1, h2, ?_⟩
              rw [← h3, pre_snoc, hs, hc]
              simp
            · cases h
theorem rdL_sub {n : Nat} : ∀ (f : Nat) (acc : List Tr) (s : List UInt8) (t : Tr) (r : List UInt8), rdL n f acc s = some (t, r) → ∀ u ∈ acc, Within u.set t.set
  | 0, acc, s, t, r, h => by simp [rdL] at h
  | f + 1, acc, s, t, r, h => by
    intro u hu
    rw [rdL_succ] at h
    cases hr : rd n f s with
    | none => simp [hr] at h
    | some q =>
      obtain ⟨w, r1⟩ := q
      simp only [hr] at h
      split at h
      case isFalse => cases h
      cases r1 with
      | nil => simp at h
      | cons c r1 =>
        simp only at h
        split at h
        · split at h
          · cases h
          · simp only [Option.some.injEq, Prod.mk.injEq] at h
            obtain ⟨rfl, rfl⟩ := h
            exact fun i hi => bit_union.2 ⟨u, by simp [hu], hi⟩
        · split at h
          · exact rdL_sub f _ _ t r h u (by simp [hu])
          · cases h
/-- Read with fewer beasts, read with more. -/
theorem rd_up {n m : Nat} (hnm : n ≤ m) : ∀ f, (∀ s x, rd n f s = some x → rd m f s = some x) ∧ (∀ acc s x, rdL n f acc s = some x → rdL m f acc s = some x) := by
  intro f
  induction f with
  | zero => exact ⟨fun s x h => by simp [rd] at h, fun acc s x h => by simp [rdL] at h⟩
  | succ f ih =>
    constructor
    · intro s x h
      cases s with
      | nil => simp [rd] at h
      | cons c s =>
        rw [rd_cons] at h ⊢
        split at h
        · rename_i hc
          rw [if_pos ⟨hc.1, by omega⟩]
          exact h
        · split at h
          · rename_i hc
            rw [if_neg (by rw [hc]; simp), if_pos hc]
            exact ih.2 _ _ _ h
          · cases h
    · intro acc s x h
      rw [rdL_succ] at h ⊢
      cases hr : rd n f s with
      | none => simp [hr] at h
      | some q =>
        rw [ih.1 s q hr]
        obtain ⟨u, r1⟩ := q
        simp only [hr] at h ⊢
        split at h
        case isFalse => cases h
        rename_i hc
        rw [if_pos hc]
        cases r1 with
        | nil => exact h
        | cons c r1 =>
          simp only at h ⊢
          split at h
          · rename_i hc; rw [if_pos hc]; exact h
          · rename_i hc
            rw [if_neg hc]
            split at h
            · rename_i hc; rw [if_pos hc]; exact ih.2 _ _ _ h
            · cases h
theorem rd_down {n m : Nat} : ∀ f, (∀ s t r, rd m f s = some (t, r) → (∀ i, t.set.testBit i = true → i < n) → rd n f s = some (t, r)) ∧ (∀ acc s t r, rdL m f acc s = some (t, r) → (∀ i, t.set.testBit i = true → i < n) → rdL n f acc s = some (t, r)) := by
  intro f
  induction f with
  | zero => exact ⟨fun s t r h => by simp [rd] at h, fun acc s t r h => by simp [rdL] at h⟩
  | succ f ih =>
    constructor
    · intro s t r h hb
      cases s with
      | nil => simp [rd] at h
      | cons c s =>
        rw [rd_cons] at h ⊢
        split at h
        · rename_i hc
          simp only [Option.some.injEq, Prod.mk.injEq] at h
          obtain ⟨rfl, rfl⟩ := h
          have := hb (c.toNat - 48) (bit_two.2 rfl)
          rw [if_pos ⟨hc.1, by omega⟩]
        · split at h
          · rename_i hc
            rw [if_neg (by rw [hc]; simp), if_pos hc]
            exact ih.2 _ _ _ _ h hb
          · cases h
    · intro acc s t r h hb
      rw [rdL_succ] at h ⊢
      cases hr : rd m f s with
      | none => simp [hr] at h
      | some q =>
        obtain ⟨u, r1⟩ := q
        simp only [hr] at h
        split at h
        case isFalse => cases h
        rename_i hc0
        cases r1 with
        | nil => simp at h
        | cons c r1 =>
          simp only at h
          split at h
          · rename_i hc
            split at h
            · cases h
            · rename_i hl
              simp only [Option.some.injEq, Prod.mk.injEq] at h
              obtain ⟨rfl, rfl⟩ := h
              rw [ih.1 s u _ hr fun i hi => hb i (bit_union.2 ⟨u, by simp, hi⟩)]
              simp only
              rw [if_pos hc0, if_pos hc, if_neg hl]
          · rename_i hc
            split at h
            · rename_i hc2
              rw [ih.1 s u _ hr fun i hi => hb i (rdL_sub _ _ _ _ _ h u (by simp) i hi)]
              simp only
              rw [if_pos hc0, if_neg hc, if_pos hc2]
              exact ih.2 _ _ _ _ h hb
            · cases h
/-! ### A tree's text reads as the tree -/
theorem join_cons {sep a : List UInt8} {l : List (List UInt8)} (h : l ≠ []) : joinBytes sep (a :: l) = a ++ sep ++ joinBytes sep l := by
  cases l with
  | nil => exact absurd rfl h
  | cons b l => rfl
theorem lastLt_of {acc r : List Tr} {t : Tr} (h : (acc ++ t :: r).Pairwise fun t u => first t < first u) : lastLt acc t = true := by
  unfold lastLt
  cases hl : acc.getLast? with
  | none => rfl
  | some u =>
    simp only [decide_eq_true_eq]
    exact (List.pairwise_append.1 h).2.2 u (List.mem_of_getLast? hl) t (by simp)
theorem rd_text {n : Nat} (hn : n ≤ 8) {t : Tr} (v : t.V) : (∀ i, t.set.testBit i = true → i < n) → ∀ (f : Nat) (rest : List UInt8), 2 * t.text.length < f → rd n f (t.text ++ rest) = some (t, rest) := by
  induction v with
  | @leaf d h =>
    intro hb f rest hf
    cases f with
    | zero => omega
    | succ f =>
      have hd : d < n := hb d (bit_two.2 rfl)
      have h1 : ∀ d : Fin 8, least (2 ^ d.val) = d.val ∧ (digit d.val).toNat = 48 + d.val := by decide +kernel
      obtain ⟨e1, e2⟩ := h1 ⟨d, h⟩
      simp only at e1 e2
      simp only [Tr.text, e1, List.cons_append, List.nil_append]
      rw [rd_cons, e2, if_pos ⟨by omega, by omega⟩]
      simp
  | @node l hl h2 hd hs ih =>
    intro hb f rest hf
    have key : ∀ (l' acc : List Tr), acc ++ l' = l → l' ≠ [] → ∀ f, 2 * (joinBytes [44] (Tr.texts l')).length + 1 < f → rdL n f acc (joinBytes [44] (Tr.texts l') ++ (41 :: rest)) = some (.node (union l) l, rest) := by
      intro l'
      induction l' with
      | nil => intro acc _ h; exact absurd rfl h
      | cons t l' ihl =>
        intro acc hacc _ f hf
        have ht : t ∈ l := by rw [← hacc]; simp
        have hbt : ∀ i, t.set.testBit i = true → i < n := fun i hi => hb i (bit_union.2 ⟨t, ht, hi⟩)
        have hdt : t.set &&& union acc = 0 := and_zero.2 fun i h1 h2 => by
          obtain ⟨u, hu, h3⟩ := bit_union.1 h2
          rw [← hacc] at hd
          exact and_zero.1 ((List.pairwise_append.1 hd).2.2 u hu t (by simp)) i h3 h1
        have hlt : lastLt acc t = true := lastLt_of (r := l') (by rw [hacc]; exact hs)
        cases f with
        | zero => omega
        | succ f =>
          cases hl' : l' with
          | nil =>
            subst hl'
            simp only [Tr.texts, joinBytes] at hf ⊢
            rw [rdL_succ, ih t ht hbt f _ (by omega)]
            simp only
            rw [if_pos ⟨hdt, hlt⟩, if_pos trivial, if_neg (by
              intro h0
              have : acc = [] := List.eq_nil_of_length_eq_zero h0
              subst this
              rw [← hacc] at h2
              simp at h2), hacc]
          | cons w l'' =>
            have hne : Tr.texts l' ≠ [] := by rw [hl']; simp [Tr.texts]
            rw [← hl']
            simp only [Tr.texts] at hf ⊢
            rw [join_cons hne] at hf ⊢
            simp only [List.length_append, List.length_singleton] at hf
            have e : t.text ++ [44] ++ joinBytes [44] (Tr.texts l') ++ 41 :: rest = t.text ++ (44 :: (joinBytes [44] (Tr.texts l') ++ 41 :: rest)) := by simp
            rw [e, rdL_succ, ih t ht hbt f _ (by omega)]
            simp only
            rw [if_pos ⟨hdt, hlt⟩, if_neg (by decide), if_pos trivial]
            exact ihl (acc ++ [t]) (by simpa using hacc) (by rw [hl']; simp) f (by omega)
    have hln : l ≠ [] := by intro e; subst e; simp at h2
    cases f with
    | zero => omega
    | succ f =>
      have e : (Tr.node (union l) l).text ++ rest = 40 :: (joinBytes [44] (Tr.texts l) ++ (41 :: rest)) := by simp [Tr.text]
      rw [e, rd_cons, if_neg (by simp), if_pos rfl]
      refine key l [] rfl hln f ?_
      simp only [Tr.text, List.length_append, List.length_singleton] at hf
      omega
/-- The tree of n beasts that a string is. -/
def treeOf (n : Nat) (s : List UInt8) : Option Tr :=
  match rd n (2 * s.length + 1) s with
  | some (t, []) => if t.set = 2 ^ n - 1 then some t else none
  | _ => none
theorem bit_full {n i : Nat} : (2 ^ n - 1).testBit i = true ↔ i < n := by simp
theorem treeOf_iff {n : Nat} (hn : n ≤ 8) {s : List UInt8} {t : Tr} : treeOf n s = some t ↔ t.V ∧ t.set = 2 ^ n - 1 ∧ s = t.text := by
  unfold treeOf
  constructor
  · intro h
    split at h
    · rename_i u hr
      split at h
      · rename_i hu
        simp only [Option.some.injEq] at h
        subst h
        obtain ⟨a, b, c⟩ := (rd_ok hn _).1 _ _ _ hr
        exact ⟨a, hu, by simpa using c⟩
      · cases h
    · cases h
  · rintro ⟨v, hs, rfl⟩
    have := rd_text hn v (fun i hi => by rw [hs] at hi; exact bit_full.1 hi) (2 * t.text.length + 1) [] (by omega)
    rw [List.append_nil] at this
    rw [this]
    simp [hs]
end Gc
end
section
/- The plain law of sorting by insertion: changes of two neighbours. -/
set_option linter.unusedVariables false
set_option linter.unusedSimpArgs false
namespace Gc
section
variable {γ : Type} {κ : γ → Nat}
/-- The element at a place below j changes with the one before it. -/
def swp (L : List γ) (j : Nat) (h : j < L.length) : List γ := (L.set j (L[j - 1]'(by omega))).set (j - 1) L[j]
theorem swp_length {L : List γ} {j : Nat} {h : j < L.length} : (swp L j h).length = L.length := by simp [swp]
theorem swp_perm {L : List γ} {j : Nat} {h : j < L.length} : (swp L j h).Perm L := List.set_set_perm h (by omega)
theorem swp_get {L : List γ} {j : Nat} {h : j < L.length} (h0 : 0 < j) {q : Nat} (hq : q < L.length) : (swp L j h)[q]'(by rw [swp_length]; exact hq) = if q = j then L[j - 1]'(by omega) else if q = j - 1 then L[j] else L[q] := by
  simp only [swp, List.getElem_set]
  by_cases e1 : q = j
  · subst e1
    rw [if_neg (by omega), if_pos rfl, if_pos rfl]
  · rw [if_neg e1]
    by_cases e2 : q = j - 1
    · rw [if_pos e2.symm, if_pos e2]
    · rw [if_neg (Ne.symm e2), if_neg (Ne.symm e1), if_neg e2]
/-- Sorted up to the place i, but for what is before j. -/
def InsI (κ : γ → Nat) (L : List γ) (i j : Nat) : Prop := ∀ p q (h1 : p < q) (h2 : q < L.length), q ≤ i → q ≠ j → κ (L[p]'(by omega)) ≤ κ L[q]
def InsO (κ : γ → Nat) (L : List γ) (i : Nat) : Prop := ∀ p q (h1 : p < q) (h2 : q < L.length), q < i → κ (L[p]'(by omega)) ≤ κ L[q]
theorem InsO.start {L : List γ} {i : Nat} (h : InsO κ L i) : InsI κ L i i := fun p q h1 h2 h3 h4 => h p q h1 h2 (by omega)
theorem InsI.step {L : List γ} {i j : Nat} (h0 : 0 < j) (hj : j < L.length) (hji : j ≤ i) (h : InsI κ L i j) (hc : κ L[j] < κ (L[j - 1]'(by omega))) : InsI κ (swp L j hj) i (j - 1) := by
  intro p q h1 h2 h3 h4
  have h2' : q < L.length := by rwa [swp_length] at h2
  rw [swp_get h0 (by omega : p < L.length), swp_get h0 h2']
  by_cases e1 : q = j
  · subst e1
    rw [if_neg (by omega), if_pos rfl]
    by_cases e2 : p = q - 1
    · rw [if_pos e2]; omega
    · rw [if_neg e2]
      exact h p (q - 1) (by omega) (by omega) (by omega) (by omega)
  · rw [if_neg e1, if_neg h4]
    by_cases e2 : p = j
    · subst e2
      rw [if_pos rfl]
      exact h (p - 1) q (by omega) h2' h3 e1
    · rw [if_neg e2]
      by_cases e3 : p = j - 1
      · rw [if_pos e3]
        exact h j q (by omega) h2' h3 e1
      · rw [if_neg e3]
        exact h p q h1 h2' h3 e1
theorem InsI.stop {L : List γ} {i j : Nat} (hji : j ≤ i) (h : InsI κ L i j) (hc : j = 0 ∨ ∀ hj : j < L.length, κ (L[j - 1]'(by omega)) ≤ κ L[j]) : InsO κ L (i + 1) := by
  intro p q h1 h2 h3
  by_cases e : q = j
  · subst e
    rcases hc with hc | hc
    · omega
    · by_cases e2 : p = q - 1
      · subst e2; exact hc h2
      · have := h p (q - 1) (by omega) (by omega) (by omega) (by omega)
        have := hc h2
        omega
  · exact h p q h1 h2 (by omega) e
theorem InsO.one {L : List γ} : InsO κ L 1 := fun p q h1 h2 h3 => by omega
theorem InsO.sorted {L : List γ} {i : Nat} (hi : L.length ≤ i) (h : InsO κ L i) : L.Pairwise fun x y => κ x ≤ κ y := by
  rw [List.pairwise_iff_getElem]
  intro p q hp hq hpq
  exact h p q hpq hq (by omega)
theorem map_swp {δ : Type} {f : γ → δ} {L : List γ} {j : Nat} {h : j < L.length} : ((L.map f).set j (f (L[j - 1]'(by omega)))).set (j - 1) (f L[j]) = (swp L j h).map f := by
  simp [swp, List.map_set]
end
end Gc
end
section
/- The plain law: how many beasts a set has, and how long a tree's text is. -/
set_option linter.unusedVariables false
set_option linter.unusedSimpArgs false
namespace Gc
/-- The number of a set's beasts among eight. -/
def pc (x : Nat) : Nat := (List.range 8).countP x.testBit
theorem pc_le (x : Nat) : pc x ≤ 8 := by
  have := List.countP_le_length (p := x.testBit) (l := List.range 8)
  rw [List.length_range] at this
  exact this
theorem countP_or {p q : Nat → Bool} : ∀ {L : List Nat}, (∀ i, p i = true → q i = true → False) → L.countP (fun i => p i || q i) = L.countP p + L.countP q
  | [], _ => rfl
  | a :: L, h => by
    have ih := countP_or (L := L) h
    simp only [List.countP_cons, ih]
    cases hp : p a <;> cases hq : q a <;> simp
    · omega
    · omega
    · exact absurd (h a hp hq) (by simp)
theorem pc_or {x y : Nat} (h : x &&& y = 0) : pc (x ||| y) = pc x + pc y := by
  unfold pc
  rw [← countP_or (fun i hx hy => and_zero.1 h i hx hy)]
  congr 1
  funext i
  simp [Nat.testBit_or]
theorem union_cons {t : Tr} {l : List Tr} : union (t :: l) = t.set ||| union l := bits_ext fun i => by
  rw [bit_or, bit_union, bit_union]
  simp
theorem pc_pow {d : Nat} (h : d < 8) : pc (2 ^ d) = 1 := by
  have : ∀ d : Fin 8, pc (2 ^ d.val) = 1 := by decide +kernel
  exact this ⟨d, h⟩
theorem pc_union : ∀ {l : List Tr}, l.Pairwise (fun t u => t.set &&& u.set = 0) → pc (union l) = (l.map fun t => pc t.set).sum
  | [], _ => by decide +kernel
  | t :: l, h => by
    rw [List.pairwise_cons] at h
    rw [union_cons, pc_or, List.map_cons, List.sum_cons, pc_union h.2]
    exact and_zero.2 fun i h1 h2 => by
      obtain ⟨u, hu, h3⟩ := bit_union.1 h2
      exact and_zero.1 (h.1 u hu) i h1 h3
theorem join_len1 : ∀ {l : List (List UInt8)}, l ≠ [] → (joinBytes [44] l).length + 1 ≤ (l.map fun s => s.length + 1).sum
  | [], h => absurd rfl h
  | [a], _ => by simp [joinBytes]
  | a :: b :: l, _ => by
    have := join_len1 (l := b :: l) (by simp)
    simp only [List.map_cons, List.sum_cons, joinBytes, List.length_append, List.length_singleton] at this ⊢
    omega
theorem texts_eq : ∀ l : List Tr, Tr.texts l = l.map Tr.text
  | [] => rfl
  | a :: l => by simp [Tr.texts, texts_eq l]
theorem Tr.V.text_len {t : Tr} (v : t.V) : t.text.length + 3 ≤ 4 * pc t.set := by
  induction v with
  | @leaf d h => simp [Tr.text, Tr.set, pc_pow h]
  | @node l hl h2 hd hs ih =>
    simp only [Tr.text, Tr.set, List.length_append, List.length_singleton]
    rw [pc_union hd]
    have hne : Tr.texts l ≠ [] := by rw [texts_eq]; intro e; have := List.map_eq_nil_iff.1 e; subst this; simp at h2
    have h1 := join_len1 hne
    rw [texts_eq] at h1 ⊢
    rw [List.map_map] at h1
    have : ∀ (m : List Tr), (∀ t ∈ m, t.text.length + 3 ≤ 4 * pc t.set) → (m.map ((fun s : List UInt8 => s.length + 1) ∘ Tr.text)).sum + 2 * m.length ≤ 4 * (m.map fun t => pc t.set).sum := by
      intro m
      induction m with
      | nil => simp
      | cons a m ihm =>
        intro hm
        have h1 := ihm fun t ht => hm t (by simp [ht])
        have h2 := hm a (by simp)
        simp only [List.map_cons, List.sum_cons, List.length_cons, Function.comp] at h1 ⊢
        omega
    have := this l ih
    omega
theorem Tr.V.text_short {t : Tr} (v : t.V) : t.text.length ≤ 29 := by
  have h1 := v.text_len
  have h2 := pc_le t.set
  omega
end Gc
end
section
/- The texts in Gc of functions of the program (made by a program of ours, wip/tools/gcgen.py). -/
namespace Gc
/- slices.ContainsFunc[[]droveway/api.Triple,droveway/api.Triple] -/
def T.slices_ContainsFunc_Triple.r0 : List ROp := [⟨some 4, none, .op (.mov (.c (.bool false)))⟩]
def T.slices_ContainsFunc_Triple.r1 : List ROp := [⟨some 5, none, .op (.mov (.t 0))⟩, ⟨some 6, none, .op (.mov (.t 1))⟩, ⟨some 7, none, .call false (.fn 51) [.t 5, .t 6]⟩, ⟨some 8, none, .op (.bin .plain .geq (.t 7) (.c (.int .i64 0)))⟩, ⟨some 4, none, .op (.mov (.t 8))⟩]
def T.slices_ContainsFunc_Triple.c1 : Code := .seq (.region T.slices_ContainsFunc_Triple.r1 [0, 1, 5, 6, 7, 8] 0 false) .ret
def T.slices_ContainsFunc_Triple.c0 : Code := .seq (.region T.slices_ContainsFunc_Triple.r0 [4] 0 false) T.slices_ContainsFunc_Triple.c1
def T.slices_ContainsFunc_Triple : Fun := ⟨T.slices_ContainsFunc_Triple.c0, [.tmp 4]⟩
/- math/bits.OnesCount -/
def T.bits_OnesCount.r0 : List ROp := [⟨some 2, none, .op (.mov (.c (.int .i64 0)))⟩]
def T.bits_OnesCount.r1 : List ROp := [⟨some 3, none, .op (.mov (.t 0))⟩, ⟨some 4, none, .op (.conv .u32 (.t 3))⟩, ⟨some 5, none, .call false (.fn 54) [.t 4]⟩, ⟨some 2, none, .op (.mov (.t 5))⟩]
def T.bits_OnesCount.c3 : Code := .seq (.region T.bits_OnesCount.r1 [0, 3, 4, 5] 0 false) .ret
def T.bits_OnesCount.c2 : Code := .cond (.c (.bool false)) T.bits_OnesCount.c3 .skip
def T.bits_OnesCount.r2 : List ROp := [⟨some 6, none, .op (.mov (.t 0))⟩, ⟨some 7, none, .call false (.fn 55) [.t 6]⟩, ⟨some 2, none, .op (.mov (.t 7))⟩]
def T.bits_OnesCount.c4 : Code := .seq (.region T.bits_OnesCount.r2 [0, 6, 7] 0 false) .ret
def T.bits_OnesCount.c1 : Code := .seq T.bits_OnesCount.c2 T.bits_OnesCount.c4
def T.bits_OnesCount.c0 : Code := .seq (.region T.bits_OnesCount.r0 [2] 0 false) T.bits_OnesCount.c1
def T.bits_OnesCount : Fun := ⟨T.bits_OnesCount.c0, [.tmp 2]⟩
/- slices.DeleteFunc[[]droveway/api.Triple,droveway/api.Triple] -/
/- slices.IndexFunc[[]droveway/api.Triple,droveway/api.Triple] -/
def T.slices_IndexFunc_Triple.r0 : List ROp := [⟨some 4, none, .op (.mov (.c (.int .i64 0)))⟩]
def T.slices_IndexFunc_Triple.r1 : List ROp := [⟨some 6, none, .op (.mov (.t 0))⟩, ⟨some 7, none, .op (.len false (.t 6))⟩, ⟨some 8, none, .op (.mov (.c (.int .i64 0)))⟩]
def T.slices_IndexFunc_Triple.r2 : List ROp := [⟨some 9, none, .op (.bin .plain .lss (.t 8) (.t 7))⟩]
def T.slices_IndexFunc_Triple.c7 : Code := .cond (.t 9) .skip (.exit 0)
def T.slices_IndexFunc_Triple.r3 : List ROp := [⟨some 10, none, .op (.mov (.t 8))⟩, ⟨some 5, none, .op (.mov (.t 10))⟩]
def T.slices_IndexFunc_Triple.r4 : List ROp := [⟨some 11, none, .op (.mov (.t 1))⟩, ⟨some 12, none, .op (.mov (.t 0))⟩, ⟨some 13, none, .op (.mov (.t 5))⟩, ⟨some 14, none, .op (.indexAddr 3 (.t 12) (.t 13))⟩, ⟨some 15, none, .op (.load true 3 (.t 14))⟩, ⟨some 16, none, .call false (.val (.t 11)) [.t 15]⟩]
def T.slices_IndexFunc_Triple.r5 : List ROp := [⟨some 17, none, .op (.mov (.t 5))⟩, ⟨some 4, none, .op (.mov (.t 17))⟩]
def T.slices_IndexFunc_Triple.c13 : Code := .seq (.region T.slices_IndexFunc_Triple.r5 [0, 1, 5, 7, 8, 16, 17] 0 false) .ret
def T.slices_IndexFunc_Triple.c12 : Code := .cond (.t 16) T.slices_IndexFunc_Triple.c13 .skip
def T.slices_IndexFunc_Triple.c11 : Code := .seq (.region T.slices_IndexFunc_Triple.r4 [11, 12, 13, 14, 15] 0 false) T.slices_IndexFunc_Triple.c12
def T.slices_IndexFunc_Triple.c10 : Code := .seq (.region T.slices_IndexFunc_Triple.r3 [9, 10] 0 false) T.slices_IndexFunc_Triple.c11
def T.slices_IndexFunc_Triple.c9 : Code := .block 1 T.slices_IndexFunc_Triple.c10
def T.slices_IndexFunc_Triple.r6 : List ROp := [⟨some 18, none, .op (.bin .plain .add (.t 8) (.c (.int .i64 1)))⟩, ⟨some 8, none, .op (.mov (.t 18))⟩]
def T.slices_IndexFunc_Triple.c8 : Code := .seq T.slices_IndexFunc_Triple.c9 (.region T.slices_IndexFunc_Triple.r6 [5, 16, 18] 0 false)
def T.slices_IndexFunc_Triple.c6 : Code := .seq T.slices_IndexFunc_Triple.c7 T.slices_IndexFunc_Triple.c8
def T.slices_IndexFunc_Triple.c5 : Code := .seq (.region T.slices_IndexFunc_Triple.r2 [] 0 false) T.slices_IndexFunc_Triple.c6
def T.slices_IndexFunc_Triple.c4 : Code := .loop T.slices_IndexFunc_Triple.c5
def T.slices_IndexFunc_Triple.c3 : Code := .block 0 T.slices_IndexFunc_Triple.c4
def T.slices_IndexFunc_Triple.c2 : Code := .seq (.region T.slices_IndexFunc_Triple.r1 [6] 0 false) T.slices_IndexFunc_Triple.c3
def T.slices_IndexFunc_Triple.r7 : List ROp := [⟨some 4, none, .op (.mov (.c (.int .i64 (-1))))⟩]
def T.slices_IndexFunc_Triple.c14 : Code := .seq (.region T.slices_IndexFunc_Triple.r7 [0, 1, 7, 8, 9] 0 false) .ret
def T.slices_IndexFunc_Triple.c1 : Code := .seq T.slices_IndexFunc_Triple.c2 T.slices_IndexFunc_Triple.c14
def T.slices_IndexFunc_Triple.c0 : Code := .seq (.region T.slices_IndexFunc_Triple.r0 [4] 0 false) T.slices_IndexFunc_Triple.c1
def T.slices_IndexFunc_Triple : Fun := ⟨T.slices_IndexFunc_Triple.c0, [.tmp 4]⟩
/- math/bits.OnesCount32 -/
def T.bits_OnesCount32.r0 : List ROp := [⟨some 2, none, .op (.mov (.c (.int .i64 0)))⟩]
def T.bits_OnesCount32.r1 : List ROp := [⟨some 3, none, .op (.mov (.t 0))⟩, ⟨some 4, none, .op (.bin .plain .shr (.t 3) (.c (.int .u64 24)))⟩, ⟨some 5, none, .op (.strIndex (.c (.str [0, 1, 1, 2, 1, 2, 2, 3, 1, 2, 2, 3, 2, 3, 3, 4, 1, 2, 2, 3, 2, 3, 3, 4, 2, 3, 3, 4, 3, 4, 4, 5, 1, 2, 2, 3, 2, 3, 3, 4, 2, 3, 3, 4, 3, 4, 4, 5, 2, 3, 3, 4, 3, 4, 4, 5, 3, 4, 4, 5, 4, 5, 5, 6, 1, 2, 2, 3, 2, 3, 3, 4, 2, 3, 3, 4, 3, 4, 4, 5, 2, 3, 3, 4, 3, 4, 4, 5, 3, 4, 4, 5, 4, 5, 5, 6, 2, 3, 3, 4, 3, 4, 4, 5, 3, 4, 4, 5, 4, 5, 5, 6, 3, 4, 4, 5, 4, 5, 5, 6, 4, 5, 5, 6, 5, 6, 6, 7, 1, 2, 2, 3, 2, 3, 3, 4, 2, 3, 3, 4, 3, 4, 4, 5, 2, 3, 3, 4, 3, 4, 4, 5, 3, 4, 4, 5, 4, 5, 5, 6, 2, 3, 3, 4, 3, 4, 4, 5, 3, 4, 4, 5, 4, 5, 5, 6, 3, 4, 4, 5, 4, 5, 5, 6, 4, 5, 5, 6, 5, 6, 6, 7, 2, 3, 3, 4, 3, 4, 4, 5, 3, 4, 4, 5, 4, 5, 5, 6, 3, 4, 4, 5, 4, 5, 5, 6, 4, 5, 5, 6, 5, 6, 6, 7, 3, 4, 4, 5, 4, 5, 5, 6, 4, 5, 5, 6, 5, 6, 6, 7, 4, 5, 5, 6, 5, 6, 6, 7, 5, 6, 6, 7, 6, 7, 7, 8])) (.t 4))⟩, ⟨some 6, none, .op (.mov (.t 0))⟩, ⟨some 7, none, .op (.bin .plain .shr (.t 6) (.c (.int .u64 16)))⟩, ⟨some 8, none, .op (.bin .plain .and (.t 7) (.c (.int .u32 255)))⟩, ⟨some 9, none, .op (.strIndex (.c (.str [0, 1, 1, 2, 1, 2, 2, 3, 1, 2, 2, 3, 2, 3, 3, 4, 1, 2, 2, 3, 2, 3, 3, 4, 2, 3, 3, 4, 3, 4, 4, 5, 1, 2, 2, 3, 2, 3, 3, 4, 2, 3, 3, 4, 3, 4, 4, 5, 2, 3, 3, 4, 3, 4, 4, 5, 3, 4, 4, 5, 4, 5, 5, 6, 1, 2, 2, 3, 2, 3, 3, 4, 2, 3, 3, 4, 3, 4, 4, 5, 2, 3, 3, 4, 3, 4, 4, 5, 3, 4, 4, 5, 4, 5, 5, 6, 2, 3, 3, 4, 3, 4, 4, 5, 3, 4, 4, 5, 4, 5, 5, 6, 3, 4, 4, 5, 4, 5, 5, 6, 4, 5, 5, 6, 5, 6, 6, 7, 1, 2, 2, 3, 2, 3, 3, 4, 2, 3, 3, 4, 3, 4, 4, 5, 2, 3, 3, 4, 3, 4, 4, 5, 3, 4, 4, 5, 4, 5, 5, 6, 2, 3, 3, 4, 3, 4, 4, 5, 3, 4, 4, 5, 4, 5, 5, 6, 3, 4, 4, 5, 4, 5, 5, 6, 4, 5, 5, 6, 5, 6, 6, 7, 2, 3, 3, 4, 3, 4, 4, 5, 3, 4, 4, 5, 4, 5, 5, 6, 3, 4, 4, 5, 4, 5, 5, 6, 4, 5, 5, 6, 5, 6, 6, 7, 3, 4, 4, 5, 4, 5, 5, 6, 4, 5, 5, 6, 5, 6, 6, 7, 4, 5, 5, 6, 5, 6, 6, 7, 5, 6, 6, 7, 6, 7, 7, 8])) (.t 8))⟩, ⟨some 10, none, .op (.bin .plain .add (.t 5) (.t 9))⟩, ⟨some 11, none, .op (.mov (.t 0))⟩, ⟨some 12, none, .op (.bin .plain .shr (.t 11) (.c (.int .u64 8)))⟩, ⟨some 13, none, .op (.bin .plain .and (.t 12) (.c (.int .u32 255)))⟩, ⟨some 14, none, .op (.strIndex (.c (.str [0, 1, 1, 2, 1, 2, 2, 3, 1, 2, 2, 3, 2, 3, 3, 4, 1, 2, 2, 3, 2, 3, 3, 4, 2, 3, 3, 4, 3, 4, 4, 5, 1, 2, 2, 3, 2, 3, 3, 4, 2, 3, 3, 4, 3, 4, 4, 5, 2, 3, 3, 4, 3, 4, 4, 5, 3, 4, 4, 5, 4, 5, 5, 6, 1, 2, 2, 3, 2, 3, 3, 4, 2, 3, 3, 4, 3, 4, 4, 5, 2, 3, 3, 4, 3, 4, 4, 5, 3, 4, 4, 5, 4, 5, 5, 6, 2, 3, 3, 4, 3, 4, 4, 5, 3, 4, 4, 5, 4, 5, 5, 6, 3, 4, 4, 5, 4, 5, 5, 6, 4, 5, 5, 6, 5, 6, 6, 7, 1, 2, 2, 3, 2, 3, 3, 4, 2, 3, 3, 4, 3, 4, 4, 5, 2, 3, 3, 4, 3, 4, 4, 5, 3, 4, 4, 5, 4, 5, 5, 6, 2, 3, 3, 4, 3, 4, 4, 5, 3, 4, 4, 5, 4, 5, 5, 6, 3, 4, 4, 5, 4, 5, 5, 6, 4, 5, 5, 6, 5, 6, 6, 7, 2, 3, 3, 4, 3, 4, 4, 5, 3, 4, 4, 5, 4, 5, 5, 6, 3, 4, 4, 5, 4, 5, 5, 6, 4, 5, 5, 6, 5, 6, 6, 7, 3, 4, 4, 5, 4, 5, 5, 6, 4, 5, 5, 6, 5, 6, 6, 7, 4, 5, 5, 6, 5, 6, 6, 7, 5, 6, 6, 7, 6, 7, 7, 8])) (.t 13))⟩, ⟨some 15, none, .op (.bin .plain .add (.t 10) (.t 14))⟩, ⟨some 16, none, .op (.mov (.t 0))⟩, ⟨some 17, none, .op (.bin .plain .and (.t 16) (.c (.int .u32 255)))⟩, ⟨some 18, none, .op (.strIndex (.c (.str [0, 1, 1, 2, 1, 2, 2, 3, 1, 2, 2, 3, 2, 3, 3, 4, 1, 2, 2, 3, 2, 3, 3, 4, 2, 3, 3, 4, 3, 4, 4, 5, 1, 2, 2, 3, 2, 3, 3, 4, 2, 3, 3, 4, 3, 4, 4, 5, 2, 3, 3, 4, 3, 4, 4, 5, 3, 4, 4, 5, 4, 5, 5, 6, 1, 2, 2, 3, 2, 3, 3, 4, 2, 3, 3, 4, 3, 4, 4, 5, 2, 3, 3, 4, 3, 4, 4, 5, 3, 4, 4, 5, 4, 5, 5, 6, 2, 3, 3, 4, 3, 4, 4, 5, 3, 4, 4, 5, 4, 5, 5, 6, 3, 4, 4, 5, 4, 5, 5, 6, 4, 5, 5, 6, 5, 6, 6, 7, 1, 2, 2, 3, 2, 3, 3, 4, 2, 3, 3, 4, 3, 4, 4, 5, 2, 3, 3, 4, 3, 4, 4, 5, 3, 4, 4, 5, 4, 5, 5, 6, 2, 3, 3, 4, 3, 4, 4, 5, 3, 4, 4, 5, 4, 5, 5, 6, 3, 4, 4, 5, 4, 5, 5, 6, 4, 5, 5, 6, 5, 6, 6, 7, 2, 3, 3, 4, 3, 4, 4, 5, 3, 4, 4, 5, 4, 5, 5, 6, 3, 4, 4, 5, 4, 5, 5, 6, 4, 5, 5, 6, 5, 6, 6, 7, 3, 4, 4, 5, 4, 5, 5, 6, 4, 5, 5, 6, 5, 6, 6, 7, 4, 5, 5, 6, 5, 6, 6, 7, 5, 6, 6, 7, 6, 7, 7, 8])) (.t 17))⟩, ⟨some 19, none, .op (.bin .plain .add (.t 15) (.t 18))⟩, ⟨some 20, none, .op (.conv .i64 (.t 19))⟩, ⟨some 2, none, .op (.mov (.t 20))⟩]
def T.bits_OnesCount32.c1 : Code := .seq (.region T.bits_OnesCount32.r1 [0, 3, 4, 5, 6, 7, 8, 9, 10, 11, 12, 13, 14, 15, 16, 17, 18, 19, 20] 0 true) .ret
def T.bits_OnesCount32.c0 : Code := .seq (.region T.bits_OnesCount32.r0 [2] 0 false) T.bits_OnesCount32.c1
def T.bits_OnesCount32 : Fun := ⟨T.bits_OnesCount32.c0, [.tmp 2]⟩
/- math/bits.OnesCount64 -/
def T.bits_OnesCount64.r0 : List ROp := [⟨some 2, none, .op (.mov (.c (.int .i64 0)))⟩]
def T.bits_OnesCount64.r1 : List ROp := [⟨some 3, none, .op (.mov (.t 0))⟩, ⟨some 4, none, .op (.bin .plain .shr (.t 3) (.c (.int .u64 1)))⟩, ⟨some 5, none, .op (.bin .plain .and (.t 4) (.c (.int .u64 6148914691236517205)))⟩, ⟨some 6, none, .op (.mov (.t 0))⟩, ⟨some 7, none, .op (.bin .plain .and (.t 6) (.c (.int .u64 6148914691236517205)))⟩, ⟨some 8, none, .op (.bin .plain .add (.t 5) (.t 7))⟩, ⟨some 0, none, .op (.mov (.t 8))⟩]
def T.bits_OnesCount64.r2 : List ROp := [⟨some 9, none, .op (.mov (.t 0))⟩, ⟨some 10, none, .op (.bin .plain .shr (.t 9) (.c (.int .u64 2)))⟩, ⟨some 11, none, .op (.bin .plain .and (.t 10) (.c (.int .u64 3689348814741910323)))⟩, ⟨some 12, none, .op (.mov (.t 0))⟩, ⟨some 13, none, .op (.bin .plain .and (.t 12) (.c (.int .u64 3689348814741910323)))⟩, ⟨some 14, none, .op (.bin .plain .add (.t 11) (.t 13))⟩, ⟨some 0, none, .op (.mov (.t 14))⟩]
def T.bits_OnesCount64.r3 : List ROp := [⟨some 15, none, .op (.mov (.t 0))⟩, ⟨some 16, none, .op (.bin .plain .shr (.t 15) (.c (.int .u64 4)))⟩, ⟨some 17, none, .op (.mov (.t 0))⟩, ⟨some 18, none, .op (.bin .plain .add (.t 16) (.t 17))⟩, ⟨some 19, none, .op (.bin .plain .and (.t 18) (.c (.int .u64 1085102592571150095)))⟩, ⟨some 0, none, .op (.mov (.t 19))⟩]
def T.bits_OnesCount64.r4 : List ROp := [⟨some 20, none, .op (.mov (.t 0))⟩, ⟨some 21, none, .op (.mov (.t 0))⟩, ⟨some 22, none, .op (.bin .plain .shr (.t 21) (.c (.int .u64 8)))⟩, ⟨some 23, none, .op (.bin .plain .add (.t 20) (.t 22))⟩, ⟨some 0, none, .op (.mov (.t 23))⟩]
def T.bits_OnesCount64.r5 : List ROp := [⟨some 24, none, .op (.mov (.t 0))⟩, ⟨some 25, none, .op (.mov (.t 0))⟩, ⟨some 26, none, .op (.bin .plain .shr (.t 25) (.c (.int .u64 16)))⟩, ⟨some 27, none, .op (.bin .plain .add (.t 24) (.t 26))⟩, ⟨some 0, none, .op (.mov (.t 27))⟩]
def T.bits_OnesCount64.r6 : List ROp := [⟨some 28, none, .op (.mov (.t 0))⟩, ⟨some 29, none, .op (.mov (.t 0))⟩, ⟨some 30, none, .op (.bin .plain .shr (.t 29) (.c (.int .u64 32)))⟩, ⟨some 31, none, .op (.bin .plain .add (.t 28) (.t 30))⟩, ⟨some 0, none, .op (.mov (.t 31))⟩]
def T.bits_OnesCount64.r7 : List ROp := [⟨some 32, none, .op (.mov (.t 0))⟩, ⟨some 33, none, .op (.conv .i64 (.t 32))⟩, ⟨some 34, none, .op (.bin .plain .and (.t 33) (.c (.int .i64 127)))⟩, ⟨some 2, none, .op (.mov (.t 34))⟩]
def T.bits_OnesCount64.c7 : Code := .seq (.region T.bits_OnesCount64.r7 [0, 32, 33, 34] 0 false) .ret
def T.bits_OnesCount64.c6 : Code := .seq (.region T.bits_OnesCount64.r6 [28, 29, 30, 31] 0 false) T.bits_OnesCount64.c7
def T.bits_OnesCount64.c5 : Code := .seq (.region T.bits_OnesCount64.r5 [24, 25, 26, 27] 0 false) T.bits_OnesCount64.c6
def T.bits_OnesCount64.c4 : Code := .seq (.region T.bits_OnesCount64.r4 [20, 21, 22, 23] 0 false) T.bits_OnesCount64.c5
def T.bits_OnesCount64.c3 : Code := .seq (.region T.bits_OnesCount64.r3 [15, 16, 17, 18, 19] 0 false) T.bits_OnesCount64.c4
def T.bits_OnesCount64.c2 : Code := .seq (.region T.bits_OnesCount64.r2 [9, 10, 11, 12, 13, 14] 0 false) T.bits_OnesCount64.c3
def T.bits_OnesCount64.c1 : Code := .seq (.region T.bits_OnesCount64.r1 [3, 4, 5, 6, 7, 8] 0 false) T.bits_OnesCount64.c2
def T.bits_OnesCount64.c0 : Code := .seq (.region T.bits_OnesCount64.r0 [2] 0 false) T.bits_OnesCount64.c1
def T.bits_OnesCount64 : Fun := ⟨T.bits_OnesCount64.c0, [.tmp 2]⟩
/- slices.Sort[[]int,int] -/
def T.slices_Sort_int.r0 : List ROp := [⟨some 3, none, .op (.mov (.t 0))⟩, ⟨some 4, none, .op (.len false (.t 3))⟩, ⟨some 2, none, .op (.mov (.t 4))⟩]
def T.slices_Sort_int.r1 : List ROp := [⟨some 5, none, .op (.mov (.t 0))⟩, ⟨some 6, none, .op (.mov (.t 2))⟩, ⟨some 7, none, .op (.mov (.t 2))⟩, ⟨some 8, none, .op (.conv .u64 (.t 7))⟩, ⟨some 9, none, .call false (.fn 64) [.t 8]⟩, ⟨some 10, none, .call false (.fn 63) [.t 5, .c (.int .i64 0), .t 6, .t 9]⟩]
def T.slices_Sort_int.c0 : Code := .seq (.region T.slices_Sort_int.r0 [3, 4] 0 false) (.region T.slices_Sort_int.r1 [0, 2, 5, 6, 7, 8, 9, 10] 0 false)
def T.slices_Sort_int : Fun := ⟨T.slices_Sort_int.c0, []⟩
/- slices.SortFunc[[]droveway/breed.tree,droveway/breed.tree] -/
def T.slices_SortFunc_tree.r0 : List ROp := [⟨some 5, none, .op (.mov (.t 0))⟩, ⟨some 6, none, .op (.len false (.t 5))⟩, ⟨some 4, none, .op (.mov (.t 6))⟩]
def T.slices_SortFunc_tree.r1 : List ROp := [⟨some 7, none, .op (.mov (.t 0))⟩, ⟨some 8, none, .op (.mov (.t 4))⟩, ⟨some 9, none, .op (.mov (.t 4))⟩, ⟨some 10, none, .op (.conv .u64 (.t 9))⟩, ⟨some 11, none, .call false (.fn 64) [.t 10]⟩, ⟨some 12, none, .op (.mov (.t 1))⟩, ⟨some 13, none, .call false (.fn 67) [.t 7, .c (.int .i64 0), .t 8, .t 11, .t 12]⟩]
def T.slices_SortFunc_tree.c0 : Code := .seq (.region T.slices_SortFunc_tree.r0 [5, 6] 0 false) (.region T.slices_SortFunc_tree.r1 [0, 1, 4, 7, 8, 9, 10, 11, 12, 13] 0 false)
def T.slices_SortFunc_tree : Fun := ⟨T.slices_SortFunc_tree.c0, []⟩
/- slices.pdqsortOrdered[int] -/
def T.slices_pdqsortOrdered_int.r0 : List ROp := [⟨some 8, none, .op (.mov (.c (.bool true)))⟩]
def T.slices_pdqsortOrdered_int.r1 : List ROp := [⟨some 9, none, .op (.mov (.c (.bool true)))⟩]
def T.slices_pdqsortOrdered_int.r2 : List ROp := [⟨some 19, none, .op (.mov (.t 2))⟩, ⟨some 20, none, .op (.mov (.t 1))⟩, ⟨some 21, none, .op (.bin .plain .sub (.t 19) (.t 20))⟩, ⟨some 10, none, .op (.mov (.t 21))⟩]
def T.slices_pdqsortOrdered_int.r3 : List ROp := [⟨some 22, none, .op (.mov (.t 10))⟩, ⟨some 23, none, .op (.bin .plain .leq (.t 22) (.c (.int .i64 12)))⟩]
def T.slices_pdqsortOrdered_int.r4 : List ROp := [⟨some 24, none, .op (.mov (.t 0))⟩, ⟨some 25, none, .op (.mov (.t 1))⟩, ⟨some 26, none, .op (.mov (.t 2))⟩, ⟨some 27, none, .call false (.fn 69) [.t 24, .t 25, .t 26]⟩]
def T.slices_pdqsortOrdered_int.c9 : Code := .seq (.region T.slices_pdqsortOrdered_int.r4 [0, 1, 2, 3, 8, 9, 10, 23, 24, 25, 26, 27] 0 false) .ret
def T.slices_pdqsortOrdered_int.c8 : Code := .cond (.t 23) T.slices_pdqsortOrdered_int.c9 .skip
def T.slices_pdqsortOrdered_int.c7 : Code := .seq (.region T.slices_pdqsortOrdered_int.r3 [22] 0 false) T.slices_pdqsortOrdered_int.c8
def T.slices_pdqsortOrdered_int.r5 : List ROp := [⟨some 28, none, .op (.mov (.t 3))⟩, ⟨some 29, none, .op (.bin .plain .eql (.t 28) (.c (.int .i64 0)))⟩]
def T.slices_pdqsortOrdered_int.r6 : List ROp := [⟨some 30, none, .op (.mov (.t 0))⟩, ⟨some 31, none, .op (.mov (.t 1))⟩, ⟨some 32, none, .op (.mov (.t 2))⟩, ⟨some 33, none, .call false (.fn 85) [.t 30, .t 31, .t 32]⟩]
def T.slices_pdqsortOrdered_int.c13 : Code := .seq (.region T.slices_pdqsortOrdered_int.r6 [0, 1, 2, 3, 8, 9, 10, 29, 30, 31, 32, 33] 0 false) .ret
def T.slices_pdqsortOrdered_int.c12 : Code := .cond (.t 29) T.slices_pdqsortOrdered_int.c13 .skip
def T.slices_pdqsortOrdered_int.c11 : Code := .seq (.region T.slices_pdqsortOrdered_int.r5 [23, 28] 0 false) T.slices_pdqsortOrdered_int.c12
def T.slices_pdqsortOrdered_int.r7 : List ROp := [⟨some 34, none, .op (.mov (.t 8))⟩, ⟨some 35, none, .op (.un .not (.t 34))⟩]
def T.slices_pdqsortOrdered_int.r8 : List ROp := [⟨some 36, none, .op (.mov (.t 0))⟩, ⟨some 37, none, .op (.mov (.t 1))⟩, ⟨some 38, none, .op (.mov (.t 2))⟩, ⟨some 39, none, .call false (.fn 86) [.t 36, .t 37, .t 38]⟩]
def T.slices_pdqsortOrdered_int.r9 : List ROp := [⟨some 40, none, .op (.mov (.t 3))⟩, ⟨some 41, none, .op (.bin .plain .sub (.t 40) (.c (.int .i64 1)))⟩, ⟨some 3, none, .op (.mov (.t 41))⟩]
def T.slices_pdqsortOrdered_int.c17 : Code := .seq (.region T.slices_pdqsortOrdered_int.r8 [35, 36, 37, 38, 39] 0 false) (.region T.slices_pdqsortOrdered_int.r9 [40, 41] 0 false)
def T.slices_pdqsortOrdered_int.c16 : Code := .cond (.t 35) T.slices_pdqsortOrdered_int.c17 .skip
def T.slices_pdqsortOrdered_int.c15 : Code := .seq (.region T.slices_pdqsortOrdered_int.r7 [29, 34] 0 false) T.slices_pdqsortOrdered_int.c16
def T.slices_pdqsortOrdered_int.r10 : List ROp := [⟨some 43, none, .op (.mov (.t 0))⟩, ⟨some 44, none, .op (.mov (.t 1))⟩, ⟨some 45, none, .op (.mov (.t 2))⟩, ⟨some 46, none, .call false (.fn 87) [.t 43, .t 44, .t 45]⟩, ⟨some 42, none, .op (.mov (.t 46))⟩, ⟨some 47, none, .op (.extract (.t 42) 0)⟩, ⟨some 48, none, .op (.extract (.t 42) 1)⟩, ⟨some 11, none, .op (.mov (.t 47))⟩, ⟨some 12, none, .op (.mov (.t 48))⟩]
def T.slices_pdqsortOrdered_int.r11 : List ROp := [⟨some 49, none, .op (.mov (.t 12))⟩, ⟨some 50, none, .op (.bin .plain .eql (.t 49) (.c (.int .i64 2)))⟩]
def T.slices_pdqsortOrdered_int.r12 : List ROp := [⟨some 51, none, .op (.mov (.t 0))⟩, ⟨some 52, none, .op (.mov (.t 1))⟩, ⟨some 53, none, .op (.mov (.t 2))⟩, ⟨some 54, none, .call false (.fn 88) [.t 51, .t 52, .t 53]⟩]
def T.slices_pdqsortOrdered_int.r13 : List ROp := [⟨some 55, none, .op (.mov (.t 2))⟩, ⟨some 56, none, .op (.bin .plain .sub (.t 55) (.c (.int .i64 1)))⟩, ⟨some 57, none, .op (.mov (.t 11))⟩, ⟨some 58, none, .op (.mov (.t 1))⟩, ⟨some 59, none, .op (.bin .plain .sub (.t 57) (.t 58))⟩, ⟨some 60, none, .op (.bin .plain .sub (.t 56) (.t 59))⟩, ⟨some 11, none, .op (.mov (.t 60))⟩]
def T.slices_pdqsortOrdered_int.r14 : List ROp := [⟨some 12, none, .op (.mov (.c (.int .i64 1)))⟩]
def T.slices_pdqsortOrdered_int.c23 : Code := .seq (.region T.slices_pdqsortOrdered_int.r13 [55, 56, 57, 58, 59, 60] 0 false) (.region T.slices_pdqsortOrdered_int.r14 [] 0 false)
def T.slices_pdqsortOrdered_int.c22 : Code := .seq (.region T.slices_pdqsortOrdered_int.r12 [12, 50, 51, 52, 53, 54] 0 false) T.slices_pdqsortOrdered_int.c23
def T.slices_pdqsortOrdered_int.c21 : Code := .cond (.t 50) T.slices_pdqsortOrdered_int.c22 .skip
def T.slices_pdqsortOrdered_int.c20 : Code := .seq (.region T.slices_pdqsortOrdered_int.r11 [49] 0 false) T.slices_pdqsortOrdered_int.c21
def T.slices_pdqsortOrdered_int.r15 : List ROp := [⟨some 61, none, .op (.mov (.t 8))⟩, ⟨some 62, none, .op (.mov (.t 61))⟩, ⟨some 63, some (62, true), .op (.mov (.t 9))⟩, ⟨some 64, none, .op (.pick (.t 62) (.t 63) (.c (.bool false)))⟩, ⟨some 65, none, .op (.mov (.t 64))⟩, ⟨some 66, some (65, true), .op (.mov (.t 12))⟩, ⟨some 67, some (65, true), .op (.bin .plain .eql (.t 66) (.c (.int .i64 1)))⟩, ⟨some 68, none, .op (.pick (.t 65) (.t 67) (.c (.bool false)))⟩]
def T.slices_pdqsortOrdered_int.r16 : List ROp := [⟨some 69, none, .op (.mov (.t 0))⟩, ⟨some 70, none, .op (.mov (.t 1))⟩, ⟨some 71, none, .op (.mov (.t 2))⟩, ⟨some 72, none, .call false (.fn 89) [.t 69, .t 70, .t 71]⟩]
def T.slices_pdqsortOrdered_int.c28 : Code := .cond (.t 72) .ret .skip
def T.slices_pdqsortOrdered_int.c27 : Code := .seq (.region T.slices_pdqsortOrdered_int.r16 [68, 69, 70, 71] 0 false) T.slices_pdqsortOrdered_int.c28
def T.slices_pdqsortOrdered_int.c26 : Code := .cond (.t 68) T.slices_pdqsortOrdered_int.c27 .skip
def T.slices_pdqsortOrdered_int.c25 : Code := .seq (.region T.slices_pdqsortOrdered_int.r15 [12, 50, 61, 62, 63, 64, 65, 66, 67] 0 false) T.slices_pdqsortOrdered_int.c26
def T.slices_pdqsortOrdered_int.r17 : List ROp := [⟨some 73, none, .op (.mov (.t 1))⟩, ⟨some 74, none, .op (.bin .plain .gtr (.t 73) (.c (.int .i64 0)))⟩, ⟨some 75, none, .op (.mov (.t 74))⟩, ⟨some 76, some (75, true), .op (.mov (.t 0))⟩, ⟨some 77, some (75, true), .op (.mov (.t 1))⟩, ⟨some 78, some (75, true), .op (.bin .plain .sub (.t 77) (.c (.int .i64 1)))⟩, ⟨some 79, some (75, true), .op (.indexAddr 1 (.t 76) (.t 78))⟩, ⟨some 81, some (75, true), .op (.mov (.t 0))⟩, ⟨some 82, some (75, true), .op (.mov (.t 11))⟩, ⟨some 83, some (75, true), .op (.indexAddr 1 (.t 81) (.t 82))⟩, ⟨some 80, some (75, true), .op (.load false 1 (.t 79))⟩, ⟨some 84, some (75, true), .op (.load false 1 (.t 83))⟩, ⟨some 85, some (75, true), .call false (.fn 70) [.t 80, .t 84]⟩, ⟨some 86, some (75, true), .op (.un .not (.t 85))⟩, ⟨some 87, none, .op (.pick (.t 75) (.t 86) (.c (.bool false)))⟩]
def T.slices_pdqsortOrdered_int.r18 : List ROp := [⟨some 88, none, .op (.mov (.t 0))⟩, ⟨some 89, none, .op (.mov (.t 1))⟩, ⟨some 90, none, .op (.mov (.t 2))⟩, ⟨some 91, none, .op (.mov (.t 11))⟩, ⟨some 92, none, .call false (.fn 90) [.t 88, .t 89, .t 90, .t 91]⟩, ⟨some 13, none, .op (.mov (.t 92))⟩]
def T.slices_pdqsortOrdered_int.r19 : List ROp := [⟨some 93, none, .op (.mov (.t 13))⟩, ⟨some 1, none, .op (.mov (.t 93))⟩]
def T.slices_pdqsortOrdered_int.c33 : Code := .seq (.region T.slices_pdqsortOrdered_int.r19 [13, 93] 0 false) (.exit 1)
def T.slices_pdqsortOrdered_int.c32 : Code := .seq (.region T.slices_pdqsortOrdered_int.r18 [1, 10, 11, 87, 88, 89, 90, 91, 92] 0 false) T.slices_pdqsortOrdered_int.c33
def T.slices_pdqsortOrdered_int.c31 : Code := .cond (.t 87) T.slices_pdqsortOrdered_int.c32 .skip
def T.slices_pdqsortOrdered_int.c30 : Code := .seq (.region T.slices_pdqsortOrdered_int.r17 [68, 72, 73, 74, 75, 76, 77, 78, 79, 80, 81, 82, 83, 84, 85, 86] 0 true) T.slices_pdqsortOrdered_int.c31
def T.slices_pdqsortOrdered_int.r20 : List ROp := [⟨some 95, none, .op (.mov (.t 0))⟩, ⟨some 96, none, .op (.mov (.t 1))⟩, ⟨some 97, none, .op (.mov (.t 2))⟩, ⟨some 98, none, .op (.mov (.t 11))⟩, ⟨some 99, none, .call false (.fn 91) [.t 95, .t 96, .t 97, .t 98]⟩, ⟨some 94, none, .op (.mov (.t 99))⟩, ⟨some 100, none, .op (.extract (.t 94) 0)⟩, ⟨some 101, none, .op (.extract (.t 94) 1)⟩, ⟨some 14, none, .op (.mov (.t 100))⟩, ⟨some 15, none, .op (.mov (.t 101))⟩]
def T.slices_pdqsortOrdered_int.r21 : List ROp := [⟨some 102, none, .op (.mov (.t 15))⟩, ⟨some 9, none, .op (.mov (.t 102))⟩]
def T.slices_pdqsortOrdered_int.r22 : List ROp := [⟨some 103, none, .op (.mov (.t 14))⟩, ⟨some 104, none, .op (.mov (.t 1))⟩, ⟨some 105, none, .op (.bin .plain .sub (.t 103) (.t 104))⟩, ⟨some 106, none, .op (.mov (.t 2))⟩, ⟨some 107, none, .op (.mov (.t 14))⟩, ⟨some 108, none, .op (.bin .plain .sub (.t 106) (.t 107))⟩, ⟨some 16, none, .op (.mov (.t 105))⟩, ⟨some 17, none, .op (.mov (.t 108))⟩]
def T.slices_pdqsortOrdered_int.r23 : List ROp := [⟨some 109, none, .op (.mov (.t 10))⟩, ⟨some 110, none, .op (.bin .plain .quo (.t 109) (.c (.int .i64 8)))⟩, ⟨some 18, none, .op (.mov (.t 110))⟩]
def T.slices_pdqsortOrdered_int.r24 : List ROp := [⟨some 111, none, .op (.mov (.t 16))⟩, ⟨some 112, none, .op (.mov (.t 17))⟩, ⟨some 113, none, .op (.bin .plain .lss (.t 111) (.t 112))⟩]
def T.slices_pdqsortOrdered_int.r25 : List ROp := [⟨some 114, none, .op (.mov (.t 16))⟩, ⟨some 115, none, .op (.mov (.t 18))⟩, ⟨some 116, none, .op (.bin .plain .geq (.t 114) (.t 115))⟩, ⟨some 8, none, .op (.mov (.t 116))⟩]
def T.slices_pdqsortOrdered_int.r26 : List ROp := [⟨some 117, none, .op (.mov (.t 0))⟩, ⟨some 118, none, .op (.mov (.t 1))⟩, ⟨some 119, none, .op (.mov (.t 14))⟩, ⟨some 120, none, .op (.mov (.t 3))⟩, ⟨some 121, none, .call false (.fn 63) [.t 117, .t 118, .t 119, .t 120]⟩]
def T.slices_pdqsortOrdered_int.r27 : List ROp := [⟨some 122, none, .op (.mov (.t 14))⟩, ⟨some 123, none, .op (.bin .plain .add (.t 122) (.c (.int .i64 1)))⟩, ⟨some 1, none, .op (.mov (.t 123))⟩]
def T.slices_pdqsortOrdered_int.c41 : Code := .seq (.region T.slices_pdqsortOrdered_int.r26 [1, 117, 118, 119, 120, 121] 0 false) (.region T.slices_pdqsortOrdered_int.r27 [14, 122, 123] 0 false)
def T.slices_pdqsortOrdered_int.c40 : Code := .seq (.region T.slices_pdqsortOrdered_int.r25 [16, 17, 18, 113, 114, 115, 116] 0 false) T.slices_pdqsortOrdered_int.c41
def T.slices_pdqsortOrdered_int.r28 : List ROp := [⟨some 124, none, .op (.mov (.t 17))⟩, ⟨some 125, none, .op (.mov (.t 18))⟩, ⟨some 126, none, .op (.bin .plain .geq (.t 124) (.t 125))⟩, ⟨some 8, none, .op (.mov (.t 126))⟩]
def T.slices_pdqsortOrdered_int.r29 : List ROp := [⟨some 127, none, .op (.mov (.t 0))⟩, ⟨some 128, none, .op (.mov (.t 14))⟩, ⟨some 129, none, .op (.bin .plain .add (.t 128) (.c (.int .i64 1)))⟩, ⟨some 130, none, .op (.mov (.t 2))⟩, ⟨some 131, none, .op (.mov (.t 3))⟩, ⟨some 132, none, .call false (.fn 63) [.t 127, .t 129, .t 130, .t 131]⟩]
def T.slices_pdqsortOrdered_int.r30 : List ROp := [⟨some 133, none, .op (.mov (.t 14))⟩, ⟨some 2, none, .op (.mov (.t 133))⟩]
def T.slices_pdqsortOrdered_int.c43 : Code := .seq (.region T.slices_pdqsortOrdered_int.r29 [2, 127, 128, 129, 130, 131, 132] 0 false) (.region T.slices_pdqsortOrdered_int.r30 [14, 133] 0 false)
def T.slices_pdqsortOrdered_int.c42 : Code := .seq (.region T.slices_pdqsortOrdered_int.r28 [16, 17, 18, 113, 124, 125, 126] 0 false) T.slices_pdqsortOrdered_int.c43
def T.slices_pdqsortOrdered_int.c39 : Code := .cond (.t 113) T.slices_pdqsortOrdered_int.c40 T.slices_pdqsortOrdered_int.c42
def T.slices_pdqsortOrdered_int.c38 : Code := .seq (.region T.slices_pdqsortOrdered_int.r24 [111, 112] 0 false) T.slices_pdqsortOrdered_int.c39
def T.slices_pdqsortOrdered_int.c37 : Code := .seq (.region T.slices_pdqsortOrdered_int.r23 [10, 109, 110] 0 false) T.slices_pdqsortOrdered_int.c38
def T.slices_pdqsortOrdered_int.c36 : Code := .seq (.region T.slices_pdqsortOrdered_int.r22 [103, 104, 105, 106, 107, 108] 0 false) T.slices_pdqsortOrdered_int.c37
def T.slices_pdqsortOrdered_int.c35 : Code := .seq (.region T.slices_pdqsortOrdered_int.r21 [15, 102] 0 false) T.slices_pdqsortOrdered_int.c36
def T.slices_pdqsortOrdered_int.c34 : Code := .seq (.region T.slices_pdqsortOrdered_int.r20 [8, 9, 11, 87, 94, 95, 96, 97, 98, 99, 100, 101] 0 false) T.slices_pdqsortOrdered_int.c35
def T.slices_pdqsortOrdered_int.c29 : Code := .seq T.slices_pdqsortOrdered_int.c30 T.slices_pdqsortOrdered_int.c34
def T.slices_pdqsortOrdered_int.c24 : Code := .seq T.slices_pdqsortOrdered_int.c25 T.slices_pdqsortOrdered_int.c29
def T.slices_pdqsortOrdered_int.c19 : Code := .seq T.slices_pdqsortOrdered_int.c20 T.slices_pdqsortOrdered_int.c24
def T.slices_pdqsortOrdered_int.c18 : Code := .seq (.region T.slices_pdqsortOrdered_int.r10 [35, 42, 43, 44, 45, 46, 47, 48] 0 false) T.slices_pdqsortOrdered_int.c19
def T.slices_pdqsortOrdered_int.c14 : Code := .seq T.slices_pdqsortOrdered_int.c15 T.slices_pdqsortOrdered_int.c18
def T.slices_pdqsortOrdered_int.c10 : Code := .seq T.slices_pdqsortOrdered_int.c11 T.slices_pdqsortOrdered_int.c14
def T.slices_pdqsortOrdered_int.c6 : Code := .seq T.slices_pdqsortOrdered_int.c7 T.slices_pdqsortOrdered_int.c10
def T.slices_pdqsortOrdered_int.c5 : Code := .seq (.region T.slices_pdqsortOrdered_int.r2 [19, 20, 21] 0 false) T.slices_pdqsortOrdered_int.c6
def T.slices_pdqsortOrdered_int.c4 : Code := .block 1 T.slices_pdqsortOrdered_int.c5
def T.slices_pdqsortOrdered_int.c3 : Code := .loop T.slices_pdqsortOrdered_int.c4
def T.slices_pdqsortOrdered_int.c2 : Code := .block 0 T.slices_pdqsortOrdered_int.c3
def T.slices_pdqsortOrdered_int.c1 : Code := .seq (.region T.slices_pdqsortOrdered_int.r1 [] 0 false) T.slices_pdqsortOrdered_int.c2
def T.slices_pdqsortOrdered_int.c0 : Code := .seq (.region T.slices_pdqsortOrdered_int.r0 [] 0 false) T.slices_pdqsortOrdered_int.c1
def T.slices_pdqsortOrdered_int : Fun := ⟨T.slices_pdqsortOrdered_int.c0, []⟩
/- math/bits.Len -/
def T.bits_Len.r0 : List ROp := [⟨some 2, none, .op (.mov (.c (.int .i64 0)))⟩]
def T.bits_Len.r1 : List ROp := [⟨some 3, none, .op (.mov (.t 0))⟩, ⟨some 4, none, .op (.conv .u32 (.t 3))⟩, ⟨some 5, none, .call false (.fn 71) [.t 4]⟩, ⟨some 2, none, .op (.mov (.t 5))⟩]
def T.bits_Len.c3 : Code := .seq (.region T.bits_Len.r1 [0, 3, 4, 5] 0 false) .ret
def T.bits_Len.c2 : Code := .cond (.c (.bool false)) T.bits_Len.c3 .skip
def T.bits_Len.r2 : List ROp := [⟨some 6, none, .op (.mov (.t 0))⟩, ⟨some 7, none, .call false (.fn 72) [.t 6]⟩, ⟨some 2, none, .op (.mov (.t 7))⟩]
def T.bits_Len.c4 : Code := .seq (.region T.bits_Len.r2 [0, 6, 7] 0 false) .ret
def T.bits_Len.c1 : Code := .seq T.bits_Len.c2 T.bits_Len.c4
def T.bits_Len.c0 : Code := .seq (.region T.bits_Len.r0 [2] 0 false) T.bits_Len.c1
def T.bits_Len : Fun := ⟨T.bits_Len.c0, [.tmp 2]⟩
/- slices.pdqsortCmpFunc[droveway/breed.tree] -/
def T.slices_pdqsortCmpFunc_tree.r0 : List ROp := [⟨some 10, none, .op (.mov (.c (.bool true)))⟩]
def T.slices_pdqsortCmpFunc_tree.r1 : List ROp := [⟨some 11, none, .op (.mov (.c (.bool true)))⟩]
def T.slices_pdqsortCmpFunc_tree.r2 : List ROp := [⟨some 21, none, .op (.mov (.t 2))⟩, ⟨some 22, none, .op (.mov (.t 1))⟩, ⟨some 23, none, .op (.bin .plain .sub (.t 21) (.t 22))⟩, ⟨some 12, none, .op (.mov (.t 23))⟩]
def T.slices_pdqsortCmpFunc_tree.r3 : List ROp := [⟨some 24, none, .op (.mov (.t 12))⟩, ⟨some 25, none, .op (.bin .plain .leq (.t 24) (.c (.int .i64 12)))⟩]
def T.slices_pdqsortCmpFunc_tree.r4 : List ROp := [⟨some 26, none, .op (.mov (.t 0))⟩, ⟨some 27, none, .op (.mov (.t 1))⟩, ⟨some 28, none, .op (.mov (.t 2))⟩, ⟨some 29, none, .op (.mov (.t 4))⟩, ⟨some 30, none, .call false (.fn 73) [.t 26, .t 27, .t 28, .t 29]⟩]
def T.slices_pdqsortCmpFunc_tree.c9 : Code := .seq (.region T.slices_pdqsortCmpFunc_tree.r4 [0, 1, 2, 3, 4, 10, 11, 12, 25, 26, 27, 28, 29, 30] 0 false) .ret
def T.slices_pdqsortCmpFunc_tree.c8 : Code := .cond (.t 25) T.slices_pdqsortCmpFunc_tree.c9 .skip
def T.slices_pdqsortCmpFunc_tree.c7 : Code := .seq (.region T.slices_pdqsortCmpFunc_tree.r3 [24] 0 false) T.slices_pdqsortCmpFunc_tree.c8
def T.slices_pdqsortCmpFunc_tree.r5 : List ROp := [⟨some 31, none, .op (.mov (.t 3))⟩, ⟨some 32, none, .op (.bin .plain .eql (.t 31) (.c (.int .i64 0)))⟩]
def T.slices_pdqsortCmpFunc_tree.r6 : List ROp := [⟨some 33, none, .op (.mov (.t 0))⟩, ⟨some 34, none, .op (.mov (.t 1))⟩, ⟨some 35, none, .op (.mov (.t 2))⟩, ⟨some 36, none, .op (.mov (.t 4))⟩, ⟨some 37, none, .call false (.fn 92) [.t 33, .t 34, .t 35, .t 36]⟩]
def T.slices_pdqsortCmpFunc_tree.c13 : Code := .seq (.region T.slices_pdqsortCmpFunc_tree.r6 [0, 1, 2, 3, 4, 10, 11, 12, 32, 33, 34, 35, 36, 37] 0 false) .ret
def T.slices_pdqsortCmpFunc_tree.c12 : Code := .cond (.t 32) T.slices_pdqsortCmpFunc_tree.c13 .skip
def T.slices_pdqsortCmpFunc_tree.c11 : Code := .seq (.region T.slices_pdqsortCmpFunc_tree.r5 [25, 31] 0 false) T.slices_pdqsortCmpFunc_tree.c12
def T.slices_pdqsortCmpFunc_tree.r7 : List ROp := [⟨some 38, none, .op (.mov (.t 10))⟩, ⟨some 39, none, .op (.un .not (.t 38))⟩]
def T.slices_pdqsortCmpFunc_tree.r8 : List ROp := [⟨some 40, none, .op (.mov (.t 0))⟩, ⟨some 41, none, .op (.mov (.t 1))⟩, ⟨some 42, none, .op (.mov (.t 2))⟩, ⟨some 43, none, .op (.mov (.t 4))⟩, ⟨some 44, none, .call false (.fn 93) [.t 40, .t 41, .t 42, .t 43]⟩]
def T.slices_pdqsortCmpFunc_tree.r9 : List ROp := [⟨some 45, none, .op (.mov (.t 3))⟩, ⟨some 46, none, .op (.bin .plain .sub (.t 45) (.c (.int .i64 1)))⟩, ⟨some 3, none, .op (.mov (.t 46))⟩]
def T.slices_pdqsortCmpFunc_tree.c17 : Code := .seq (.region T.slices_pdqsortCmpFunc_tree.r8 [39, 40, 41, 42, 43, 44] 0 false) (.region T.slices_pdqsortCmpFunc_tree.r9 [45, 46] 0 false)
def T.slices_pdqsortCmpFunc_tree.c16 : Code := .cond (.t 39) T.slices_pdqsortCmpFunc_tree.c17 .skip
def T.slices_pdqsortCmpFunc_tree.c15 : Code := .seq (.region T.slices_pdqsortCmpFunc_tree.r7 [32, 38] 0 false) T.slices_pdqsortCmpFunc_tree.c16
def T.slices_pdqsortCmpFunc_tree.r10 : List ROp := [⟨some 48, none, .op (.mov (.t 0))⟩, ⟨some 49, none, .op (.mov (.t 1))⟩, ⟨some 50, none, .op (.mov (.t 2))⟩, ⟨some 51, none, .op (.mov (.t 4))⟩, ⟨some 52, none, .call false (.fn 94) [.t 48, .t 49, .t 50, .t 51]⟩, ⟨some 47, none, .op (.mov (.t 52))⟩, ⟨some 53, none, .op (.extract (.t 47) 0)⟩, ⟨some 54, none, .op (.extract (.t 47) 1)⟩, ⟨some 13, none, .op (.mov (.t 53))⟩, ⟨some 14, none, .op (.mov (.t 54))⟩]
def T.slices_pdqsortCmpFunc_tree.r11 : List ROp := [⟨some 55, none, .op (.mov (.t 14))⟩, ⟨some 56, none, .op (.bin .plain .eql (.t 55) (.c (.int .i64 2)))⟩]
def T.slices_pdqsortCmpFunc_tree.r12 : List ROp := [⟨some 57, none, .op (.mov (.t 0))⟩, ⟨some 58, none, .op (.mov (.t 1))⟩, ⟨some 59, none, .op (.mov (.t 2))⟩, ⟨some 60, none, .op (.mov (.t 4))⟩, ⟨some 61, none, .call false (.fn 95) [.t 57, .t 58, .t 59, .t 60]⟩]
def T.slices_pdqsortCmpFunc_tree.r13 : List ROp := [⟨some 62, none, .op (.mov (.t 2))⟩, ⟨some 63, none, .op (.bin .plain .sub (.t 62) (.c (.int .i64 1)))⟩, ⟨some 64, none, .op (.mov (.t 13))⟩, ⟨some 65, none, .op (.mov (.t 1))⟩, ⟨some 66, none, .op (.bin .plain .sub (.t 64) (.t 65))⟩, ⟨some 67, none, .op (.bin .plain .sub (.t 63) (.t 66))⟩, ⟨some 13, none, .op (.mov (.t 67))⟩]
def T.slices_pdqsortCmpFunc_tree.r14 : List ROp := [⟨some 14, none, .op (.mov (.c (.int .i64 1)))⟩]
def T.slices_pdqsortCmpFunc_tree.c23 : Code := .seq (.region T.slices_pdqsortCmpFunc_tree.r13 [62, 63, 64, 65, 66, 67] 0 false) (.region T.slices_pdqsortCmpFunc_tree.r14 [] 0 false)
def T.slices_pdqsortCmpFunc_tree.c22 : Code := .seq (.region T.slices_pdqsortCmpFunc_tree.r12 [14, 56, 57, 58, 59, 60, 61] 0 false) T.slices_pdqsortCmpFunc_tree.c23
def T.slices_pdqsortCmpFunc_tree.c21 : Code := .cond (.t 56) T.slices_pdqsortCmpFunc_tree.c22 .skip
def T.slices_pdqsortCmpFunc_tree.c20 : Code := .seq (.region T.slices_pdqsortCmpFunc_tree.r11 [55] 0 false) T.slices_pdqsortCmpFunc_tree.c21
def T.slices_pdqsortCmpFunc_tree.r15 : List ROp := [⟨some 68, none, .op (.mov (.t 10))⟩, ⟨some 69, none, .op (.mov (.t 68))⟩, ⟨some 70, some (69, true), .op (.mov (.t 11))⟩, ⟨some 71, none, .op (.pick (.t 69) (.t 70) (.c (.bool false)))⟩, ⟨some 72, none, .op (.mov (.t 71))⟩, ⟨some 73, some (72, true), .op (.mov (.t 14))⟩, ⟨some 74, some (72, true), .op (.bin .plain .eql (.t 73) (.c (.int .i64 1)))⟩, ⟨some 75, none, .op (.pick (.t 72) (.t 74) (.c (.bool false)))⟩]
def T.slices_pdqsortCmpFunc_tree.r16 : List ROp := [⟨some 76, none, .op (.mov (.t 0))⟩, ⟨some 77, none, .op (.mov (.t 1))⟩, ⟨some 78, none, .op (.mov (.t 2))⟩, ⟨some 79, none, .op (.mov (.t 4))⟩, ⟨some 80, none, .call false (.fn 96) [.t 76, .t 77, .t 78, .t 79]⟩]
def T.slices_pdqsortCmpFunc_tree.c28 : Code := .cond (.t 80) .ret .skip
def T.slices_pdqsortCmpFunc_tree.c27 : Code := .seq (.region T.slices_pdqsortCmpFunc_tree.r16 [75, 76, 77, 78, 79] 0 false) T.slices_pdqsortCmpFunc_tree.c28
def T.slices_pdqsortCmpFunc_tree.c26 : Code := .cond (.t 75) T.slices_pdqsortCmpFunc_tree.c27 .skip
def T.slices_pdqsortCmpFunc_tree.c25 : Code := .seq (.region T.slices_pdqsortCmpFunc_tree.r15 [14, 56, 68, 69, 70, 71, 72, 73, 74] 0 false) T.slices_pdqsortCmpFunc_tree.c26
def T.slices_pdqsortCmpFunc_tree.r17 : List ROp := [⟨some 81, none, .op (.mov (.t 1))⟩, ⟨some 82, none, .op (.bin .plain .gtr (.t 81) (.c (.int .i64 0)))⟩, ⟨some 83, none, .op (.mov (.t 82))⟩, ⟨some 84, some (83, true), .op (.mov (.t 4))⟩, ⟨some 85, some (83, true), .op (.mov (.t 0))⟩, ⟨some 86, some (83, true), .op (.mov (.t 1))⟩, ⟨some 87, some (83, true), .op (.bin .plain .sub (.t 86) (.c (.int .i64 1)))⟩, ⟨some 88, some (83, true), .op (.indexAddr 1 (.t 85) (.t 87))⟩, ⟨some 90, some (83, true), .op (.mov (.t 0))⟩, ⟨some 91, some (83, true), .op (.mov (.t 13))⟩, ⟨some 92, some (83, true), .op (.indexAddr 1 (.t 90) (.t 91))⟩, ⟨some 89, some (83, true), .op (.load false 1 (.t 88))⟩, ⟨some 93, some (83, true), .op (.load false 1 (.t 92))⟩, ⟨some 94, some (83, true), .call false (.val (.t 84)) [.t 89, .t 93]⟩, ⟨some 95, some (83, true), .op (.bin .plain .lss (.t 94) (.c (.int .i64 0)))⟩, ⟨some 96, some (83, true), .op (.un .not (.t 95))⟩, ⟨some 97, none, .op (.pick (.t 83) (.t 96) (.c (.bool false)))⟩]
def T.slices_pdqsortCmpFunc_tree.r18 : List ROp := [⟨some 98, none, .op (.mov (.t 0))⟩, ⟨some 99, none, .op (.mov (.t 1))⟩, ⟨some 100, none, .op (.mov (.t 2))⟩, ⟨some 101, none, .op (.mov (.t 13))⟩, ⟨some 102, none, .op (.mov (.t 4))⟩, ⟨some 103, none, .call false (.fn 97) [.t 98, .t 99, .t 100, .t 101, .t 102]⟩, ⟨some 15, none, .op (.mov (.t 103))⟩]
def T.slices_pdqsortCmpFunc_tree.r19 : List ROp := [⟨some 104, none, .op (.mov (.t 15))⟩, ⟨some 1, none, .op (.mov (.t 104))⟩]
def T.slices_pdqsortCmpFunc_tree.c33 : Code := .seq (.region T.slices_pdqsortCmpFunc_tree.r19 [15, 104] 0 false) (.exit 1)
def T.slices_pdqsortCmpFunc_tree.c32 : Code := .seq (.region T.slices_pdqsortCmpFunc_tree.r18 [1, 12, 13, 97, 98, 99, 100, 101, 102, 103] 0 false) T.slices_pdqsortCmpFunc_tree.c33
def T.slices_pdqsortCmpFunc_tree.c31 : Code := .cond (.t 97) T.slices_pdqsortCmpFunc_tree.c32 .skip
def T.slices_pdqsortCmpFunc_tree.c30 : Code := .seq (.region T.slices_pdqsortCmpFunc_tree.r17 [75, 80, 81, 82, 83, 84, 85, 86, 87, 88, 89, 90, 91, 92, 93, 94, 95, 96] 0 true) T.slices_pdqsortCmpFunc_tree.c31
def T.slices_pdqsortCmpFunc_tree.r20 : List ROp := [⟨some 106, none, .op (.mov (.t 0))⟩, ⟨some 107, none, .op (.mov (.t 1))⟩, ⟨some 108, none, .op (.mov (.t 2))⟩, ⟨some 109, none, .op (.mov (.t 13))⟩, ⟨some 110, none, .op (.mov (.t 4))⟩, ⟨some 111, none, .call false (.fn 98) [.t 106, .t 107, .t 108, .t 109, .t 110]⟩, ⟨some 105, none, .op (.mov (.t 111))⟩, ⟨some 112, none, .op (.extract (.t 105) 0)⟩, ⟨some 113, none, .op (.extract (.t 105) 1)⟩, ⟨some 16, none, .op (.mov (.t 112))⟩, ⟨some 17, none, .op (.mov (.t 113))⟩]
def T.slices_pdqsortCmpFunc_tree.r21 : List ROp := [⟨some 114, none, .op (.mov (.t 17))⟩, ⟨some 11, none, .op (.mov (.t 114))⟩]
def T.slices_pdqsortCmpFunc_tree.r22 : List ROp := [⟨some 115, none, .op (.mov (.t 16))⟩, ⟨some 116, none, .op (.mov (.t 1))⟩, ⟨some 117, none, .op (.bin .plain .sub (.t 115) (.t 116))⟩, ⟨some 118, none, .op (.mov (.t 2))⟩, ⟨some 119, none, .op (.mov (.t 16))⟩, ⟨some 120, none, .op (.bin .plain .sub (.t 118) (.t 119))⟩, ⟨some 18, none, .op (.mov (.t 117))⟩, ⟨some 19, none, .op (.mov (.t 120))⟩]
def T.slices_pdqsortCmpFunc_tree.r23 : List ROp := [⟨some 121, none, .op (.mov (.t 12))⟩, ⟨some 122, none, .op (.bin .plain .quo (.t 121) (.c (.int .i64 8)))⟩, ⟨some 20, none, .op (.mov (.t 122))⟩]
def T.slices_pdqsortCmpFunc_tree.r24 : List ROp := [⟨some 123, none, .op (.mov (.t 18))⟩, ⟨some 124, none, .op (.mov (.t 19))⟩, ⟨some 125, none, .op (.bin .plain .lss (.t 123) (.t 124))⟩]
def T.slices_pdqsortCmpFunc_tree.r25 : List ROp := [⟨some 126, none, .op (.mov (.t 18))⟩, ⟨some 127, none, .op (.mov (.t 20))⟩, ⟨some 128, none, .op (.bin .plain .geq (.t 126) (.t 127))⟩, ⟨some 10, none, .op (.mov (.t 128))⟩]
def T.slices_pdqsortCmpFunc_tree.r26 : List ROp := [⟨some 129, none, .op (.mov (.t 0))⟩, ⟨some 130, none, .op (.mov (.t 1))⟩, ⟨some 131, none, .op (.mov (.t 16))⟩, ⟨some 132, none, .op (.mov (.t 3))⟩, ⟨some 133, none, .op (.mov (.t 4))⟩, ⟨some 134, none, .call false (.fn 67) [.t 129, .t 130, .t 131, .t 132, .t 133]⟩]
def T.slices_pdqsortCmpFunc_tree.r27 : List ROp := [⟨some 135, none, .op (.mov (.t 16))⟩, ⟨some 136, none, .op (.bin .plain .add (.t 135) (.c (.int .i64 1)))⟩, ⟨some 1, none, .op (.mov (.t 136))⟩]
def T.slices_pdqsortCmpFunc_tree.c41 : Code := .seq (.region T.slices_pdqsortCmpFunc_tree.r26 [1, 129, 130, 131, 132, 133, 134] 0 false) (.region T.slices_pdqsortCmpFunc_tree.r27 [16, 135, 136] 0 false)
def T.slices_pdqsortCmpFunc_tree.c40 : Code := .seq (.region T.slices_pdqsortCmpFunc_tree.r25 [18, 19, 20, 125, 126, 127, 128] 0 false) T.slices_pdqsortCmpFunc_tree.c41
def T.slices_pdqsortCmpFunc_tree.r28 : List ROp := [⟨some 137, none, .op (.mov (.t 19))⟩, ⟨some 138, none, .op (.mov (.t 20))⟩, ⟨some 139, none, .op (.bin .plain .geq (.t 137) (.t 138))⟩, ⟨some 10, none, .op (.mov (.t 139))⟩]
def T.slices_pdqsortCmpFunc_tree.r29 : List ROp := [⟨some 140, none, .op (.mov (.t 0))⟩, ⟨some 141, none, .op (.mov (.t 16))⟩, ⟨some 142, none, .op (.bin .plain .add (.t 141) (.c (.int .i64 1)))⟩, ⟨some 143, none, .op (.mov (.t 2))⟩, ⟨some 144, none, .op (.mov (.t 3))⟩, ⟨some 145, none, .op (.mov (.t 4))⟩, ⟨some 146, none, .call false (.fn 67) [.t 140, .t 142, .t 143, .t 144, .t 145]⟩]
def T.slices_pdqsortCmpFunc_tree.r30 : List ROp := [⟨some 147, none, .op (.mov (.t 16))⟩, ⟨some 2, none, .op (.mov (.t 147))⟩]
def T.slices_pdqsortCmpFunc_tree.c43 : Code := .seq (.region T.slices_pdqsortCmpFunc_tree.r29 [2, 140, 141, 142, 143, 144, 145, 146] 0 false) (.region T.slices_pdqsortCmpFunc_tree.r30 [16, 147] 0 false)
def T.slices_pdqsortCmpFunc_tree.c42 : Code := .seq (.region T.slices_pdqsortCmpFunc_tree.r28 [18, 19, 20, 125, 137, 138, 139] 0 false) T.slices_pdqsortCmpFunc_tree.c43
def T.slices_pdqsortCmpFunc_tree.c39 : Code := .cond (.t 125) T.slices_pdqsortCmpFunc_tree.c40 T.slices_pdqsortCmpFunc_tree.c42
def T.slices_pdqsortCmpFunc_tree.c38 : Code := .seq (.region T.slices_pdqsortCmpFunc_tree.r24 [123, 124] 0 false) T.slices_pdqsortCmpFunc_tree.c39
def T.slices_pdqsortCmpFunc_tree.c37 : Code := .seq (.region T.slices_pdqsortCmpFunc_tree.r23 [12, 121, 122] 0 false) T.slices_pdqsortCmpFunc_tree.c38
def T.slices_pdqsortCmpFunc_tree.c36 : Code := .seq (.region T.slices_pdqsortCmpFunc_tree.r22 [115, 116, 117, 118, 119, 120] 0 false) T.slices_pdqsortCmpFunc_tree.c37
def T.slices_pdqsortCmpFunc_tree.c35 : Code := .seq (.region T.slices_pdqsortCmpFunc_tree.r21 [17, 114] 0 false) T.slices_pdqsortCmpFunc_tree.c36
def T.slices_pdqsortCmpFunc_tree.c34 : Code := .seq (.region T.slices_pdqsortCmpFunc_tree.r20 [10, 11, 13, 97, 105, 106, 107, 108, 109, 110, 111, 112, 113] 0 false) T.slices_pdqsortCmpFunc_tree.c35
def T.slices_pdqsortCmpFunc_tree.c29 : Code := .seq T.slices_pdqsortCmpFunc_tree.c30 T.slices_pdqsortCmpFunc_tree.c34
def T.slices_pdqsortCmpFunc_tree.c24 : Code := .seq T.slices_pdqsortCmpFunc_tree.c25 T.slices_pdqsortCmpFunc_tree.c29
def T.slices_pdqsortCmpFunc_tree.c19 : Code := .seq T.slices_pdqsortCmpFunc_tree.c20 T.slices_pdqsortCmpFunc_tree.c24
def T.slices_pdqsortCmpFunc_tree.c18 : Code := .seq (.region T.slices_pdqsortCmpFunc_tree.r10 [39, 47, 48, 49, 50, 51, 52, 53, 54] 0 false) T.slices_pdqsortCmpFunc_tree.c19
def T.slices_pdqsortCmpFunc_tree.c14 : Code := .seq T.slices_pdqsortCmpFunc_tree.c15 T.slices_pdqsortCmpFunc_tree.c18
def T.slices_pdqsortCmpFunc_tree.c10 : Code := .seq T.slices_pdqsortCmpFunc_tree.c11 T.slices_pdqsortCmpFunc_tree.c14
def T.slices_pdqsortCmpFunc_tree.c6 : Code := .seq T.slices_pdqsortCmpFunc_tree.c7 T.slices_pdqsortCmpFunc_tree.c10
def T.slices_pdqsortCmpFunc_tree.c5 : Code := .seq (.region T.slices_pdqsortCmpFunc_tree.r2 [21, 22, 23] 0 false) T.slices_pdqsortCmpFunc_tree.c6
def T.slices_pdqsortCmpFunc_tree.c4 : Code := .block 1 T.slices_pdqsortCmpFunc_tree.c5
def T.slices_pdqsortCmpFunc_tree.c3 : Code := .loop T.slices_pdqsortCmpFunc_tree.c4
def T.slices_pdqsortCmpFunc_tree.c2 : Code := .block 0 T.slices_pdqsortCmpFunc_tree.c3
def T.slices_pdqsortCmpFunc_tree.c1 : Code := .seq (.region T.slices_pdqsortCmpFunc_tree.r1 [] 0 false) T.slices_pdqsortCmpFunc_tree.c2
def T.slices_pdqsortCmpFunc_tree.c0 : Code := .seq (.region T.slices_pdqsortCmpFunc_tree.r0 [] 0 false) T.slices_pdqsortCmpFunc_tree.c1
def T.slices_pdqsortCmpFunc_tree : Fun := ⟨T.slices_pdqsortCmpFunc_tree.c0, []⟩
/- math/bits.TrailingZeros -/
def T.bits_TrailingZeros.r0 : List ROp := [⟨some 2, none, .op (.mov (.c (.int .i64 0)))⟩]
def T.bits_TrailingZeros.r1 : List ROp := [⟨some 3, none, .op (.mov (.t 0))⟩, ⟨some 4, none, .op (.conv .u32 (.t 3))⟩, ⟨some 5, none, .call false (.fn 74) [.t 4]⟩, ⟨some 2, none, .op (.mov (.t 5))⟩]
def T.bits_TrailingZeros.c3 : Code := .seq (.region T.bits_TrailingZeros.r1 [0, 3, 4, 5] 0 false) .ret
def T.bits_TrailingZeros.c2 : Code := .cond (.c (.bool false)) T.bits_TrailingZeros.c3 .skip
def T.bits_TrailingZeros.r2 : List ROp := [⟨some 6, none, .op (.mov (.t 0))⟩, ⟨some 7, none, .call false (.fn 75) [.t 6]⟩, ⟨some 2, none, .op (.mov (.t 7))⟩]
def T.bits_TrailingZeros.c4 : Code := .seq (.region T.bits_TrailingZeros.r2 [0, 6, 7] 0 false) .ret
def T.bits_TrailingZeros.c1 : Code := .seq T.bits_TrailingZeros.c2 T.bits_TrailingZeros.c4
def T.bits_TrailingZeros.c0 : Code := .seq (.region T.bits_TrailingZeros.r0 [2] 0 false) T.bits_TrailingZeros.c1
def T.bits_TrailingZeros : Fun := ⟨T.bits_TrailingZeros.c0, [.tmp 2]⟩
/- slices.insertionSortOrdered[int] -/
def T.slices_insertionSortOrdered_int.r0 : List ROp := [⟨some 8, none, .op (.mov (.t 1))⟩, ⟨some 9, none, .op (.bin .plain .add (.t 8) (.c (.int .i64 1)))⟩, ⟨some 6, none, .op (.mov (.t 9))⟩]
def T.slices_insertionSortOrdered_int.r1 : List ROp := [⟨some 10, none, .op (.mov (.t 6))⟩, ⟨some 11, none, .op (.mov (.t 2))⟩, ⟨some 12, none, .op (.bin .plain .lss (.t 10) (.t 11))⟩]
def T.slices_insertionSortOrdered_int.c5 : Code := .cond (.t 12) .skip (.exit 0)
def T.slices_insertionSortOrdered_int.c4 : Code := .seq (.region T.slices_insertionSortOrdered_int.r1 [10, 11] 0 false) T.slices_insertionSortOrdered_int.c5
def T.slices_insertionSortOrdered_int.r2 : List ROp := [⟨some 15, none, .op (.mov (.t 6))⟩, ⟨some 7, none, .op (.mov (.t 15))⟩]
def T.slices_insertionSortOrdered_int.r3 : List ROp := [⟨some 16, none, .op (.mov (.t 7))⟩, ⟨some 17, none, .op (.mov (.t 1))⟩, ⟨some 18, none, .op (.bin .plain .gtr (.t 16) (.t 17))⟩, ⟨some 19, none, .op (.mov (.t 18))⟩, ⟨some 20, some (19, true), .op (.mov (.t 0))⟩, ⟨some 21, some (19, true), .op (.mov (.t 7))⟩, ⟨some 22, some (19, true), .op (.indexAddr 1 (.t 20) (.t 21))⟩, ⟨some 24, some (19, true), .op (.mov (.t 0))⟩, ⟨some 25, some (19, true), .op (.mov (.t 7))⟩, ⟨some 26, some (19, true), .op (.bin .plain .sub (.t 25) (.c (.int .i64 1)))⟩, ⟨some 27, some (19, true), .op (.indexAddr 1 (.t 24) (.t 26))⟩, ⟨some 23, some (19, true), .op (.load false 1 (.t 22))⟩, ⟨some 28, some (19, true), .op (.load false 1 (.t 27))⟩, ⟨some 29, some (19, true), .call false (.fn 70) [.t 23, .t 28]⟩, ⟨some 30, none, .op (.pick (.t 19) (.t 29) (.c (.bool false)))⟩]
def T.slices_insertionSortOrdered_int.c13 : Code := .cond (.t 30) .skip (.exit 2)
def T.slices_insertionSortOrdered_int.c12 : Code := .seq (.region T.slices_insertionSortOrdered_int.r3 [16, 17, 18, 19, 20, 21, 22, 23, 24, 25, 26, 27, 28, 29] 0 true) T.slices_insertionSortOrdered_int.c13
def T.slices_insertionSortOrdered_int.r4 : List ROp := [⟨some 33, none, .op (.mov (.t 0))⟩, ⟨some 34, none, .op (.mov (.t 7))⟩, ⟨some 35, none, .op (.mov (.t 0))⟩, ⟨some 36, none, .op (.mov (.t 7))⟩, ⟨some 37, none, .op (.bin .plain .sub (.t 36) (.c (.int .i64 1)))⟩, ⟨some 38, none, .op (.mov (.t 0))⟩, ⟨some 39, none, .op (.mov (.t 7))⟩, ⟨some 40, none, .op (.bin .plain .sub (.t 39) (.c (.int .i64 1)))⟩, ⟨some 41, none, .op (.indexAddr 1 (.t 38) (.t 40))⟩, ⟨some 43, none, .op (.mov (.t 0))⟩, ⟨some 44, none, .op (.mov (.t 7))⟩, ⟨some 45, none, .op (.indexAddr 1 (.t 43) (.t 44))⟩, ⟨some 42, none, .op (.load false 1 (.t 41))⟩, ⟨some 46, none, .op (.load false 1 (.t 45))⟩, ⟨some 47, none, .op (.indexAddr 1 (.t 33) (.t 34))⟩, ⟨none, none, .op (.store 1 (.t 47) (.t 42))⟩, ⟨some 48, none, .op (.indexAddr 1 (.t 35) (.t 37))⟩, ⟨none, none, .op (.store 1 (.t 48) (.t 46))⟩]
def T.slices_insertionSortOrdered_int.c15 : Code := .block 3 (.region T.slices_insertionSortOrdered_int.r4 [30, 33, 34, 35, 36, 37, 38, 39, 40, 41, 42, 43, 44, 45, 46, 47, 48] 0 true)
def T.slices_insertionSortOrdered_int.r5 : List ROp := [⟨some 31, none, .op (.mov (.t 7))⟩, ⟨some 32, none, .op (.bin .plain .sub (.t 31) (.c (.int .i64 1)))⟩, ⟨some 7, none, .op (.mov (.t 32))⟩]
def T.slices_insertionSortOrdered_int.c14 : Code := .seq T.slices_insertionSortOrdered_int.c15 (.region T.slices_insertionSortOrdered_int.r5 [31, 32] 0 false)
def T.slices_insertionSortOrdered_int.c11 : Code := .seq T.slices_insertionSortOrdered_int.c12 T.slices_insertionSortOrdered_int.c14
def T.slices_insertionSortOrdered_int.c10 : Code := .loop T.slices_insertionSortOrdered_int.c11
def T.slices_insertionSortOrdered_int.c9 : Code := .block 2 T.slices_insertionSortOrdered_int.c10
def T.slices_insertionSortOrdered_int.c8 : Code := .seq (.region T.slices_insertionSortOrdered_int.r2 [12, 15] 0 false) T.slices_insertionSortOrdered_int.c9
def T.slices_insertionSortOrdered_int.c7 : Code := .block 1 T.slices_insertionSortOrdered_int.c8
def T.slices_insertionSortOrdered_int.r6 : List ROp := [⟨some 13, none, .op (.mov (.t 6))⟩, ⟨some 14, none, .op (.bin .plain .add (.t 13) (.c (.int .i64 1)))⟩, ⟨some 6, none, .op (.mov (.t 14))⟩]
def T.slices_insertionSortOrdered_int.c6 : Code := .seq T.slices_insertionSortOrdered_int.c7 (.region T.slices_insertionSortOrdered_int.r6 [7, 13, 14, 30] 0 false)
def T.slices_insertionSortOrdered_int.c3 : Code := .seq T.slices_insertionSortOrdered_int.c4 T.slices_insertionSortOrdered_int.c6
def T.slices_insertionSortOrdered_int.c2 : Code := .loop T.slices_insertionSortOrdered_int.c3
def T.slices_insertionSortOrdered_int.c1 : Code := .block 0 T.slices_insertionSortOrdered_int.c2
def T.slices_insertionSortOrdered_int.c0 : Code := .seq (.region T.slices_insertionSortOrdered_int.r0 [8, 9] 0 false) T.slices_insertionSortOrdered_int.c1
def T.slices_insertionSortOrdered_int : Fun := ⟨T.slices_insertionSortOrdered_int.c0, []⟩
/- cmp.Less[int] -/
def T.cmp_Less_int.r0 : List ROp := [⟨some 4, none, .op (.mov (.c (.bool false)))⟩]
def T.cmp_Less_int.r1 : List ROp := [⟨some 5, none, .op (.mov (.t 0))⟩, ⟨some 6, none, .call false (.fn 84) [.t 5]⟩, ⟨some 7, none, .op (.mov (.t 6))⟩, ⟨some 8, some (7, true), .op (.mov (.t 1))⟩, ⟨some 9, some (7, true), .call false (.fn 84) [.t 8]⟩, ⟨some 10, some (7, true), .op (.un .not (.t 9))⟩, ⟨some 11, none, .op (.pick (.t 7) (.t 10) (.c (.bool false)))⟩, ⟨some 12, none, .op (.mov (.t 11))⟩, ⟨some 13, some (12, false), .op (.mov (.t 0))⟩, ⟨some 14, some (12, false), .op (.mov (.t 1))⟩, ⟨some 15, some (12, false), .op (.bin .plain .lss (.t 13) (.t 14))⟩, ⟨some 16, none, .op (.pick (.t 12) (.c (.bool true)) (.t 15))⟩, ⟨some 4, none, .op (.mov (.t 16))⟩]
def T.cmp_Less_int.c1 : Code := .seq (.region T.cmp_Less_int.r1 [0, 1, 5, 6, 7, 8, 9, 10, 11, 12, 13, 14, 15, 16] 0 false) .ret
def T.cmp_Less_int.c0 : Code := .seq (.region T.cmp_Less_int.r0 [4] 0 false) T.cmp_Less_int.c1
def T.cmp_Less_int : Fun := ⟨T.cmp_Less_int.c0, [.tmp 4]⟩
/- math/bits.Len32 -/
def T.bits_Len32.r0 : List ROp := [⟨some 2, none, .op (.mov (.c (.int .i64 0)))⟩]
def T.bits_Len32.r1 : List ROp := [⟨some 3, none, .op (.mov (.t 0))⟩, ⟨some 4, none, .op (.bin .plain .geq (.t 3) (.c (.int .u32 65536)))⟩]
def T.bits_Len32.r2 : List ROp := [⟨some 5, none, .op (.mov (.t 0))⟩, ⟨some 6, none, .op (.bin .plain .shr (.t 5) (.c (.int .u64 16)))⟩, ⟨some 0, none, .op (.mov (.t 6))⟩]
def T.bits_Len32.r3 : List ROp := [⟨some 2, none, .op (.mov (.c (.int .i64 16)))⟩]
def T.bits_Len32.c4 : Code := .seq (.region T.bits_Len32.r2 [2, 4, 5, 6] 0 false) (.region T.bits_Len32.r3 [] 0 false)
def T.bits_Len32.c3 : Code := .cond (.t 4) T.bits_Len32.c4 .skip
def T.bits_Len32.c2 : Code := .seq (.region T.bits_Len32.r1 [3] 0 false) T.bits_Len32.c3
def T.bits_Len32.r4 : List ROp := [⟨some 7, none, .op (.mov (.t 0))⟩, ⟨some 8, none, .op (.bin .plain .geq (.t 7) (.c (.int .u32 256)))⟩]
def T.bits_Len32.r5 : List ROp := [⟨some 9, none, .op (.mov (.t 0))⟩, ⟨some 10, none, .op (.bin .plain .shr (.t 9) (.c (.int .u64 8)))⟩, ⟨some 0, none, .op (.mov (.t 10))⟩]
def T.bits_Len32.r6 : List ROp := [⟨some 11, none, .op (.mov (.t 2))⟩, ⟨some 12, none, .op (.bin .plain .add (.t 11) (.c (.int .i64 8)))⟩, ⟨some 2, none, .op (.mov (.t 12))⟩]
def T.bits_Len32.c8 : Code := .seq (.region T.bits_Len32.r5 [8, 9, 10] 0 false) (.region T.bits_Len32.r6 [11, 12] 0 false)
def T.bits_Len32.c7 : Code := .cond (.t 8) T.bits_Len32.c8 .skip
def T.bits_Len32.c6 : Code := .seq (.region T.bits_Len32.r4 [4, 7] 0 false) T.bits_Len32.c7
def T.bits_Len32.r7 : List ROp := [⟨some 13, none, .op (.mov (.t 2))⟩, ⟨some 14, none, .op (.mov (.t 0))⟩, ⟨some 15, none, .op (.conv .u8 (.t 14))⟩, ⟨some 16, none, .op (.strIndex (.c (.str [0, 1, 2, 2, 3, 3, 3, 3, 4, 4, 4, 4, 4, 4, 4, 4, 5, 5, 5, 5, 5, 5, 5, 5, 5, 5, 5, 5, 5, 5, 5, 5, 6, 6, 6, 6, 6, 6, 6, 6, 6, 6, 6, 6, 6, 6, 6, 6, 6, 6, 6, 6, 6, 6, 6, 6, 6, 6, 6, 6, 6, 6, 6, 6, 7, 7, 7, 7, 7, 7, 7, 7, 7, 7, 7, 7, 7, 7, 7, 7, 7, 7, 7, 7, 7, 7, 7, 7, 7, 7, 7, 7, 7, 7, 7, 7, 7, 7, 7, 7, 7, 7, 7, 7, 7, 7, 7, 7, 7, 7, 7, 7, 7, 7, 7, 7, 7, 7, 7, 7, 7, 7, 7, 7, 7, 7, 7, 7, 8, 8, 8, 8, 8, 8, 8, 8, 8, 8, 8, 8, 8, 8, 8, 8, 8, 8, 8, 8, 8, 8, 8, 8, 8, 8, 8, 8, 8, 8, 8, 8, 8, 8, 8, 8, 8, 8, 8, 8, 8, 8, 8, 8, 8, 8, 8, 8, 8, 8, 8, 8, 8, 8, 8, 8, 8, 8, 8, 8, 8, 8, 8, 8, 8, 8, 8, 8, 8, 8, 8, 8, 8, 8, 8, 8, 8, 8, 8, 8, 8, 8, 8, 8, 8, 8, 8, 8, 8, 8, 8, 8, 8, 8, 8, 8, 8, 8, 8, 8, 8, 8, 8, 8, 8, 8, 8, 8, 8, 8, 8, 8, 8, 8, 8, 8, 8, 8, 8, 8, 8, 8, 8, 8, 8, 8, 8, 8])) (.t 15))⟩, ⟨some 17, none, .op (.conv .i64 (.t 16))⟩, ⟨some 18, none, .op (.bin .plain .add (.t 13) (.t 17))⟩, ⟨some 2, none, .op (.mov (.t 18))⟩]
def T.bits_Len32.c9 : Code := .seq (.region T.bits_Len32.r7 [0, 8, 13, 14, 15, 16, 17, 18] 0 false) .ret
def T.bits_Len32.c5 : Code := .seq T.bits_Len32.c6 T.bits_Len32.c9
def T.bits_Len32.c1 : Code := .seq T.bits_Len32.c2 T.bits_Len32.c5
def T.bits_Len32.c0 : Code := .seq (.region T.bits_Len32.r0 [] 0 false) T.bits_Len32.c1
def T.bits_Len32 : Fun := ⟨T.bits_Len32.c0, [.tmp 2]⟩
/- math/bits.Len64 -/
def T.bits_Len64.r0 : List ROp := [⟨some 2, none, .op (.mov (.c (.int .i64 0)))⟩]
def T.bits_Len64.r1 : List ROp := [⟨some 3, none, .op (.mov (.t 0))⟩, ⟨some 4, none, .op (.bin .plain .geq (.t 3) (.c (.int .u64 4294967296)))⟩]
def T.bits_Len64.r2 : List ROp := [⟨some 5, none, .op (.mov (.t 0))⟩, ⟨some 6, none, .op (.bin .plain .shr (.t 5) (.c (.int .u64 32)))⟩, ⟨some 0, none, .op (.mov (.t 6))⟩]
def T.bits_Len64.r3 : List ROp := [⟨some 2, none, .op (.mov (.c (.int .i64 32)))⟩]
def T.bits_Len64.c4 : Code := .seq (.region T.bits_Len64.r2 [2, 4, 5, 6] 0 false) (.region T.bits_Len64.r3 [] 0 false)
def T.bits_Len64.c3 : Code := .cond (.t 4) T.bits_Len64.c4 .skip
def T.bits_Len64.c2 : Code := .seq (.region T.bits_Len64.r1 [3] 0 false) T.bits_Len64.c3
def T.bits_Len64.r4 : List ROp := [⟨some 7, none, .op (.mov (.t 0))⟩, ⟨some 8, none, .op (.bin .plain .geq (.t 7) (.c (.int .u64 65536)))⟩]
def T.bits_Len64.r5 : List ROp := [⟨some 9, none, .op (.mov (.t 0))⟩, ⟨some 10, none, .op (.bin .plain .shr (.t 9) (.c (.int .u64 16)))⟩, ⟨some 0, none, .op (.mov (.t 10))⟩]
def T.bits_Len64.r6 : List ROp := [⟨some 11, none, .op (.mov (.t 2))⟩, ⟨some 12, none, .op (.bin .plain .add (.t 11) (.c (.int .i64 16)))⟩, ⟨some 2, none, .op (.mov (.t 12))⟩]
def T.bits_Len64.c8 : Code := .seq (.region T.bits_Len64.r5 [8, 9, 10] 0 false) (.region T.bits_Len64.r6 [11, 12] 0 false)
def T.bits_Len64.c7 : Code := .cond (.t 8) T.bits_Len64.c8 .skip
def T.bits_Len64.c6 : Code := .seq (.region T.bits_Len64.r4 [4, 7] 0 false) T.bits_Len64.c7
def T.bits_Len64.r7 : List ROp := [⟨some 13, none, .op (.mov (.t 0))⟩, ⟨some 14, none, .op (.bin .plain .geq (.t 13) (.c (.int .u64 256)))⟩]
def T.bits_Len64.r8 : List ROp := [⟨some 15, none, .op (.mov (.t 0))⟩, ⟨some 16, none, .op (.bin .plain .shr (.t 15) (.c (.int .u64 8)))⟩, ⟨some 0, none, .op (.mov (.t 16))⟩]
def T.bits_Len64.r9 : List ROp := [⟨some 17, none, .op (.mov (.t 2))⟩, ⟨some 18, none, .op (.bin .plain .add (.t 17) (.c (.int .i64 8)))⟩, ⟨some 2, none, .op (.mov (.t 18))⟩]
def T.bits_Len64.c12 : Code := .seq (.region T.bits_Len64.r8 [14, 15, 16] 0 false) (.region T.bits_Len64.r9 [17, 18] 0 false)
def T.bits_Len64.c11 : Code := .cond (.t 14) T.bits_Len64.c12 .skip
def T.bits_Len64.c10 : Code := .seq (.region T.bits_Len64.r7 [8, 13] 0 false) T.bits_Len64.c11
def T.bits_Len64.r10 : List ROp := [⟨some 19, none, .op (.mov (.t 2))⟩, ⟨some 20, none, .op (.mov (.t 0))⟩, ⟨some 21, none, .op (.conv .u8 (.t 20))⟩, ⟨some 22, none, .op (.strIndex (.c (.str [0, 1, 2, 2, 3, 3, 3, 3, 4, 4, 4, 4, 4, 4, 4, 4, 5, 5, 5, 5, 5, 5, 5, 5, 5, 5, 5, 5, 5, 5, 5, 5, 6, 6, 6, 6, 6, 6, 6, 6, 6, 6, 6, 6, 6, 6, 6, 6, 6, 6, 6, 6, 6, 6, 6, 6, 6, 6, 6, 6, 6, 6, 6, 6, 7, 7, 7, 7, 7, 7, 7, 7, 7, 7, 7, 7, 7, 7, 7, 7, 7, 7, 7, 7, 7, 7, 7, 7, 7, 7, 7, 7, 7, 7, 7, 7, 7, 7, 7, 7, 7, 7, 7, 7, 7, 7, 7, 7, 7, 7, 7, 7, 7, 7, 7, 7, 7, 7, 7, 7, 7, 7, 7, 7, 7, 7, 7, 7, 8, 8, 8, 8, 8, 8, 8, 8, 8, 8, 8, 8, 8, 8, 8, 8, 8, 8, 8, 8, 8, 8, 8, 8, 8, 8, 8, 8, 8, 8, 8, 8, 8, 8, 8, 8, 8, 8, 8, 8, 8, 8, 8, 8, 8, 8, 8, 8, 8, 8, 8, 8, 8, 8, 8, 8, 8, 8, 8, 8, 8, 8, 8, 8, 8, 8, 8, 8, 8, 8, 8, 8, 8, 8, 8, 8, 8, 8, 8, 8, 8, 8, 8, 8, 8, 8, 8, 8, 8, 8, 8, 8, 8, 8, 8, 8, 8, 8, 8, 8, 8, 8, 8, 8, 8, 8, 8, 8, 8, 8, 8, 8, 8, 8, 8, 8, 8, 8, 8, 8, 8, 8, 8, 8, 8, 8, 8, 8])) (.t 21))⟩, ⟨some 23, none, .op (.conv .i64 (.t 22))⟩, ⟨some 24, none, .op (.bin .plain .add (.t 19) (.t 23))⟩, ⟨some 2, none, .op (.mov (.t 24))⟩]
def T.bits_Len64.c13 : Code := .seq (.region T.bits_Len64.r10 [0, 14, 19, 20, 21, 22, 23, 24] 0 false) .ret
def T.bits_Len64.c9 : Code := .seq T.bits_Len64.c10 T.bits_Len64.c13
def T.bits_Len64.c5 : Code := .seq T.bits_Len64.c6 T.bits_Len64.c9
def T.bits_Len64.c1 : Code := .seq T.bits_Len64.c2 T.bits_Len64.c5
def T.bits_Len64.c0 : Code := .seq (.region T.bits_Len64.r0 [] 0 false) T.bits_Len64.c1
def T.bits_Len64 : Fun := ⟨T.bits_Len64.c0, [.tmp 2]⟩
/- slices.insertionSortCmpFunc[droveway/breed.tree] -/
def T.slices_insertionSortCmpFunc_tree.r0 : List ROp := [⟨some 10, none, .op (.mov (.t 1))⟩, ⟨some 11, none, .op (.bin .plain .add (.t 10) (.c (.int .i64 1)))⟩, ⟨some 8, none, .op (.mov (.t 11))⟩]
def T.slices_insertionSortCmpFunc_tree.r1 : List ROp := [⟨some 12, none, .op (.mov (.t 8))⟩, ⟨some 13, none, .op (.mov (.t 2))⟩, ⟨some 14, none, .op (.bin .plain .lss (.t 12) (.t 13))⟩]
def T.slices_insertionSortCmpFunc_tree.c5 : Code := .cond (.t 14) .skip (.exit 0)
def T.slices_insertionSortCmpFunc_tree.c4 : Code := .seq (.region T.slices_insertionSortCmpFunc_tree.r1 [12, 13] 0 false) T.slices_insertionSortCmpFunc_tree.c5
def T.slices_insertionSortCmpFunc_tree.r2 : List ROp := [⟨some 17, none, .op (.mov (.t 8))⟩, ⟨some 9, none, .op (.mov (.t 17))⟩]
def T.slices_insertionSortCmpFunc_tree.r3 : List ROp := [⟨some 18, none, .op (.mov (.t 9))⟩, ⟨some 19, none, .op (.mov (.t 1))⟩, ⟨some 20, none, .op (.bin .plain .gtr (.t 18) (.t 19))⟩, ⟨some 21, none, .op (.mov (.t 20))⟩, ⟨some 22, some (21, true), .op (.mov (.t 3))⟩, ⟨some 23, some (21, true), .op (.mov (.t 0))⟩, ⟨some 24, some (21, true), .op (.mov (.t 9))⟩, ⟨some 25, some (21, true), .op (.indexAddr 1 (.t 23) (.t 24))⟩, ⟨some 27, some (21, true), .op (.mov (.t 0))⟩, ⟨some 28, some (21, true), .op (.mov (.t 9))⟩, ⟨some 29, some (21, true), .op (.bin .plain .sub (.t 28) (.c (.int .i64 1)))⟩, ⟨some 30, some (21, true), .op (.indexAddr 1 (.t 27) (.t 29))⟩, ⟨some 26, some (21, true), .op (.load false 1 (.t 25))⟩, ⟨some 31, some (21, true), .op (.load false 1 (.t 30))⟩, ⟨some 32, some (21, true), .call false (.val (.t 22)) [.t 26, .t 31]⟩, ⟨some 33, some (21, true), .op (.bin .plain .lss (.t 32) (.c (.int .i64 0)))⟩, ⟨some 34, none, .op (.pick (.t 21) (.t 33) (.c (.bool false)))⟩]
def T.slices_insertionSortCmpFunc_tree.c13 : Code := .cond (.t 34) .skip (.exit 2)
def T.slices_insertionSortCmpFunc_tree.c12 : Code := .seq (.region T.slices_insertionSortCmpFunc_tree.r3 [18, 19, 20, 21, 22, 23, 24, 25, 26, 27, 28, 29, 30, 31, 32, 33] 0 true) T.slices_insertionSortCmpFunc_tree.c13
def T.slices_insertionSortCmpFunc_tree.r4 : List ROp := [⟨some 37, none, .op (.mov (.t 0))⟩, ⟨some 38, none, .op (.mov (.t 9))⟩, ⟨some 39, none, .op (.mov (.t 0))⟩, ⟨some 40, none, .op (.mov (.t 9))⟩, ⟨some 41, none, .op (.bin .plain .sub (.t 40) (.c (.int .i64 1)))⟩, ⟨some 42, none, .op (.mov (.t 0))⟩, ⟨some 43, none, .op (.mov (.t 9))⟩, ⟨some 44, none, .op (.bin .plain .sub (.t 43) (.c (.int .i64 1)))⟩, ⟨some 45, none, .op (.indexAddr 1 (.t 42) (.t 44))⟩, ⟨some 47, none, .op (.mov (.t 0))⟩, ⟨some 48, none, .op (.mov (.t 9))⟩, ⟨some 49, none, .op (.indexAddr 1 (.t 47) (.t 48))⟩, ⟨some 46, none, .op (.load false 1 (.t 45))⟩, ⟨some 50, none, .op (.load false 1 (.t 49))⟩, ⟨some 51, none, .op (.indexAddr 1 (.t 37) (.t 38))⟩, ⟨none, none, .op (.store 1 (.t 51) (.t 46))⟩, ⟨some 52, none, .op (.indexAddr 1 (.t 39) (.t 41))⟩, ⟨none, none, .op (.store 1 (.t 52) (.t 50))⟩]
def T.slices_insertionSortCmpFunc_tree.c15 : Code := .block 3 (.region T.slices_insertionSortCmpFunc_tree.r4 [34, 37, 38, 39, 40, 41, 42, 43, 44, 45, 46, 47, 48, 49, 50, 51, 52] 0 true)
def T.slices_insertionSortCmpFunc_tree.r5 : List ROp := [⟨some 35, none, .op (.mov (.t 9))⟩, ⟨some 36, none, .op (.bin .plain .sub (.t 35) (.c (.int .i64 1)))⟩, ⟨some 9, none, .op (.mov (.t 36))⟩]
def T.slices_insertionSortCmpFunc_tree.c14 : Code := .seq T.slices_insertionSortCmpFunc_tree.c15 (.region T.slices_insertionSortCmpFunc_tree.r5 [35, 36] 0 false)
def T.slices_insertionSortCmpFunc_tree.c11 : Code := .seq T.slices_insertionSortCmpFunc_tree.c12 T.slices_insertionSortCmpFunc_tree.c14
def T.slices_insertionSortCmpFunc_tree.c10 : Code := .loop T.slices_insertionSortCmpFunc_tree.c11
def T.slices_insertionSortCmpFunc_tree.c9 : Code := .block 2 T.slices_insertionSortCmpFunc_tree.c10
def T.slices_insertionSortCmpFunc_tree.c8 : Code := .seq (.region T.slices_insertionSortCmpFunc_tree.r2 [14, 17] 0 false) T.slices_insertionSortCmpFunc_tree.c9
def T.slices_insertionSortCmpFunc_tree.c7 : Code := .block 1 T.slices_insertionSortCmpFunc_tree.c8
def T.slices_insertionSortCmpFunc_tree.r6 : List ROp := [⟨some 15, none, .op (.mov (.t 8))⟩, ⟨some 16, none, .op (.bin .plain .add (.t 15) (.c (.int .i64 1)))⟩, ⟨some 8, none, .op (.mov (.t 16))⟩]
def T.slices_insertionSortCmpFunc_tree.c6 : Code := .seq T.slices_insertionSortCmpFunc_tree.c7 (.region T.slices_insertionSortCmpFunc_tree.r6 [9, 15, 16, 34] 0 false)
def T.slices_insertionSortCmpFunc_tree.c3 : Code := .seq T.slices_insertionSortCmpFunc_tree.c4 T.slices_insertionSortCmpFunc_tree.c6
def T.slices_insertionSortCmpFunc_tree.c2 : Code := .loop T.slices_insertionSortCmpFunc_tree.c3
def T.slices_insertionSortCmpFunc_tree.c1 : Code := .block 0 T.slices_insertionSortCmpFunc_tree.c2
def T.slices_insertionSortCmpFunc_tree.c0 : Code := .seq (.region T.slices_insertionSortCmpFunc_tree.r0 [10, 11] 0 false) T.slices_insertionSortCmpFunc_tree.c1
def T.slices_insertionSortCmpFunc_tree : Fun := ⟨T.slices_insertionSortCmpFunc_tree.c0, []⟩
/- math/bits.TrailingZeros32 -/
def T.bits_TrailingZeros32.r0 : List ROp := [⟨some 2, none, .op (.mov (.c (.int .i64 0)))⟩]
def T.bits_TrailingZeros32.r1 : List ROp := [⟨some 3, none, .op (.mov (.t 0))⟩, ⟨some 4, none, .op (.bin .plain .eql (.t 3) (.c (.int .u32 0)))⟩]
def T.bits_TrailingZeros32.r2 : List ROp := [⟨some 2, none, .op (.mov (.c (.int .i64 32)))⟩]
def T.bits_TrailingZeros32.c4 : Code := .seq (.region T.bits_TrailingZeros32.r2 [0, 4] 0 false) .ret
def T.bits_TrailingZeros32.c3 : Code := .cond (.t 4) T.bits_TrailingZeros32.c4 .skip
def T.bits_TrailingZeros32.c2 : Code := .seq (.region T.bits_TrailingZeros32.r1 [3] 0 false) T.bits_TrailingZeros32.c3
def T.bits_TrailingZeros32.r3 : List ROp := [⟨some 5, none, .op (.mov (.t 0))⟩, ⟨some 6, none, .op (.mov (.t 0))⟩, ⟨some 7, none, .op (.un .neg (.t 6))⟩, ⟨some 8, none, .op (.bin .plain .and (.t 5) (.t 7))⟩, ⟨some 9, none, .op (.bin .plain .mul (.t 8) (.c (.int .u32 125613361)))⟩, ⟨some 10, none, .op (.bin .plain .shr (.t 9) (.c (.int .u64 27)))⟩, ⟨some 11, none, .op (.indexArrAddr 32 1 (.c (.ptr 0 0)) (.t 10))⟩, ⟨some 12, none, .op (.load false 1 (.t 11))⟩, ⟨some 13, none, .op (.conv .i64 (.t 12))⟩, ⟨some 2, none, .op (.mov (.t 13))⟩]
def T.bits_TrailingZeros32.c5 : Code := .seq (.region T.bits_TrailingZeros32.r3 [0, 4, 5, 6, 7, 8, 9, 10, 11, 12, 13] 0 false) .ret
def T.bits_TrailingZeros32.c1 : Code := .seq T.bits_TrailingZeros32.c2 T.bits_TrailingZeros32.c5
def T.bits_TrailingZeros32.c0 : Code := .seq (.region T.bits_TrailingZeros32.r0 [2] 0 false) T.bits_TrailingZeros32.c1
def T.bits_TrailingZeros32 : Fun := ⟨T.bits_TrailingZeros32.c0, [.tmp 2]⟩
/- math/bits.TrailingZeros64 -/
def T.bits_TrailingZeros64.r0 : List ROp := [⟨some 2, none, .op (.mov (.c (.int .i64 0)))⟩]
def T.bits_TrailingZeros64.r1 : List ROp := [⟨some 3, none, .op (.mov (.t 0))⟩, ⟨some 4, none, .op (.bin .plain .eql (.t 3) (.c (.int .u64 0)))⟩]
def T.bits_TrailingZeros64.r2 : List ROp := [⟨some 2, none, .op (.mov (.c (.int .i64 64)))⟩]
def T.bits_TrailingZeros64.c4 : Code := .seq (.region T.bits_TrailingZeros64.r2 [0, 4] 0 false) .ret
def T.bits_TrailingZeros64.c3 : Code := .cond (.t 4) T.bits_TrailingZeros64.c4 .skip
def T.bits_TrailingZeros64.c2 : Code := .seq (.region T.bits_TrailingZeros64.r1 [3] 0 false) T.bits_TrailingZeros64.c3
def T.bits_TrailingZeros64.r3 : List ROp := [⟨some 5, none, .op (.mov (.t 0))⟩, ⟨some 6, none, .op (.mov (.t 0))⟩, ⟨some 7, none, .op (.un .neg (.t 6))⟩, ⟨some 8, none, .op (.bin .plain .and (.t 5) (.t 7))⟩, ⟨some 9, none, .op (.bin .plain .mul (.t 8) (.c (.int .u64 285870213051353865)))⟩, ⟨some 10, none, .op (.bin .plain .shr (.t 9) (.c (.int .u64 58)))⟩, ⟨some 11, none, .op (.indexArrAddr 64 1 (.c (.ptr 1 0)) (.t 10))⟩, ⟨some 12, none, .op (.load false 1 (.t 11))⟩, ⟨some 13, none, .op (.conv .i64 (.t 12))⟩, ⟨some 2, none, .op (.mov (.t 13))⟩]
def T.bits_TrailingZeros64.c5 : Code := .seq (.region T.bits_TrailingZeros64.r3 [0, 4, 5, 6, 7, 8, 9, 10, 11, 12, 13] 0 false) .ret
def T.bits_TrailingZeros64.c1 : Code := .seq T.bits_TrailingZeros64.c2 T.bits_TrailingZeros64.c5
def T.bits_TrailingZeros64.c0 : Code := .seq (.region T.bits_TrailingZeros64.r0 [2] 0 false) T.bits_TrailingZeros64.c1
def T.bits_TrailingZeros64 : Fun := ⟨T.bits_TrailingZeros64.c0, [.tmp 2]⟩
/- strconv.Itoa -/
def T.strconv_Itoa.r0 : List ROp := [⟨some 2, none, .op (.mov (.c (.str [])))⟩]
def T.strconv_Itoa.r1 : List ROp := [⟨some 3, none, .op (.mov (.t 0))⟩, ⟨some 4, none, .call false (.fn 79) [.t 3]⟩, ⟨some 2, none, .op (.mov (.t 4))⟩]
def T.strconv_Itoa.c1 : Code := .seq (.region T.strconv_Itoa.r1 [0, 3, 4] 0 false) .ret
def T.strconv_Itoa.c0 : Code := .seq (.region T.strconv_Itoa.r0 [2] 0 false) T.strconv_Itoa.c1
def T.strconv_Itoa : Fun := ⟨T.strconv_Itoa.c0, [.tmp 2]⟩
/- internal/strconv.Itoa -/
def T.istrconv_Itoa.r0 : List ROp := [⟨some 2, none, .op (.mov (.c (.str [])))⟩]
def T.istrconv_Itoa.r1 : List ROp := [⟨some 3, none, .op (.mov (.t 0))⟩, ⟨some 4, none, .call false (.fn 80) [.t 3, .c (.int .i64 10)]⟩, ⟨some 2, none, .op (.mov (.t 4))⟩]
def T.istrconv_Itoa.c1 : Code := .seq (.region T.istrconv_Itoa.r1 [0, 3, 4] 0 false) .ret
def T.istrconv_Itoa.c0 : Code := .seq (.region T.istrconv_Itoa.r0 [2] 0 false) T.istrconv_Itoa.c1
def T.istrconv_Itoa : Fun := ⟨T.istrconv_Itoa.c0, [.tmp 2]⟩
/- internal/strconv.FormatInt -/
def T.istrconv_FormatInt.r0 : List ROp := [⟨some 4, none, .op (.mov (.c (.str [])))⟩]
def T.istrconv_FormatInt.r1 : List ROp := [⟨some 10, none, .op (.mov (.t 1))⟩, ⟨some 11, none, .op (.bin .plain .eql (.t 10) (.c (.int .i64 10)))⟩]
def T.istrconv_FormatInt.r2 : List ROp := [⟨some 12, none, .op (.mov (.t 0))⟩, ⟨some 13, none, .op (.bin .plain .leq (.c (.int .i64 0)) (.t 12))⟩, ⟨some 14, none, .op (.mov (.t 13))⟩, ⟨some 15, some (14, true), .op (.mov (.t 0))⟩, ⟨some 16, some (14, true), .op (.bin .plain .lss (.t 15) (.c (.int .i64 100)))⟩, ⟨some 17, none, .op (.pick (.t 14) (.t 16) (.c (.bool false)))⟩]
def T.istrconv_FormatInt.r3 : List ROp := [⟨some 18, none, .op (.mov (.t 0))⟩, ⟨some 19, none, .call false (.fn 81) [.t 18]⟩, ⟨some 4, none, .op (.mov (.t 19))⟩]
def T.istrconv_FormatInt.c7 : Code := .seq (.region T.istrconv_FormatInt.r3 [0, 17, 18, 19] 0 false) .ret
def T.istrconv_FormatInt.c6 : Code := .cond (.t 17) T.istrconv_FormatInt.c7 .skip
def T.istrconv_FormatInt.c5 : Code := .seq (.region T.istrconv_FormatInt.r2 [1, 11, 12, 13, 14, 15, 16] 0 false) T.istrconv_FormatInt.c6
def T.istrconv_FormatInt.r4 : List ROp := [⟨some 5, none, .op (.box none (.c (.agg [.int .u8 0, .int .u8 0, .int .u8 0, .int .u8 0, .int .u8 0, .int .u8 0, .int .u8 0, .int .u8 0, .int .u8 0, .int .u8 0, .int .u8 0, .int .u8 0, .int .u8 0, .int .u8 0, .int .u8 0, .int .u8 0, .int .u8 0, .int .u8 0, .int .u8 0, .int .u8 0, .int .u8 0, .int .u8 0, .int .u8 0, .int .u8 0])))⟩]
def T.istrconv_FormatInt.r5 : List ROp := [⟨some 20, none, .op (.mov (.t 0))⟩, ⟨some 21, none, .op (.conv .u64 (.t 20))⟩, ⟨some 6, none, .op (.mov (.t 21))⟩]
def T.istrconv_FormatInt.r6 : List ROp := [⟨some 22, none, .op (.mov (.t 0))⟩, ⟨some 23, none, .op (.bin .plain .lss (.t 22) (.c (.int .i64 0)))⟩]
def T.istrconv_FormatInt.r7 : List ROp := [⟨some 24, none, .op (.mov (.t 6))⟩, ⟨some 25, none, .op (.un .neg (.t 24))⟩, ⟨some 6, none, .op (.mov (.t 25))⟩]
def T.istrconv_FormatInt.c12 : Code := .cond (.t 23) (.region T.istrconv_FormatInt.r7 [23, 24, 25] 0 false) .skip
def T.istrconv_FormatInt.c11 : Code := .seq (.region T.istrconv_FormatInt.r6 [22] 0 false) T.istrconv_FormatInt.c12
def T.istrconv_FormatInt.r8 : List ROp := [⟨some 26, none, .op (.mov (.t 6))⟩, ⟨some 27, none, .call false (.fn 124) [.t 26]⟩, ⟨some 7, none, .op (.mov (.t 27))⟩]
def T.istrconv_FormatInt.r9 : List ROp := [⟨some 28, none, .op (.mov (.t 7))⟩, ⟨some 29, none, .op (.bin .plain .add (.c (.int .i64 1)) (.t 28))⟩, ⟨some 30, none, .op .fail⟩, ⟨some 31, none, .op (.mov (.t 6))⟩, ⟨some 32, none, .call false (.fn 125) [.t 30, .t 31]⟩]
def T.istrconv_FormatInt.r10 : List ROp := [⟨some 33, none, .op (.mov (.t 0))⟩, ⟨some 34, none, .op (.bin .plain .lss (.t 33) (.c (.int .i64 0)))⟩]
def T.istrconv_FormatInt.r11 : List ROp := [⟨some 35, none, .op (.indexArrAddr 24 1 (.t 5) (.c (.int .i64 0)))⟩, ⟨none, none, .op (.store 1 (.t 35) (.c (.int .u8 45)))⟩]
def T.istrconv_FormatInt.r12 : List ROp := [⟨some 36, none, .op (.mov (.t 7))⟩, ⟨some 37, none, .op (.bin .plain .add (.c (.int .i64 1)) (.t 36))⟩, ⟨some 38, none, .op .fail⟩, ⟨some 39, none, .op (.toStr (.t 38))⟩, ⟨some 4, none, .op (.mov (.t 39))⟩]
def T.istrconv_FormatInt.c19 : Code := .seq (.region T.istrconv_FormatInt.r12 [5, 7, 36, 37, 38, 39] 0 false) .ret
def T.istrconv_FormatInt.c18 : Code := .seq (.region T.istrconv_FormatInt.r11 [34, 35] 0 false) T.istrconv_FormatInt.c19
def T.istrconv_FormatInt.c17 : Code := .cond (.t 34) T.istrconv_FormatInt.c18 .skip
def T.istrconv_FormatInt.c16 : Code := .seq (.region T.istrconv_FormatInt.r10 [0, 33] 0 false) T.istrconv_FormatInt.c17
def T.istrconv_FormatInt.r13 : List ROp := [⟨some 40, none, .op (.mov (.t 7))⟩, ⟨some 41, none, .op (.bin .plain .add (.c (.int .i64 1)) (.t 40))⟩, ⟨some 42, none, .op .fail⟩, ⟨some 43, none, .op (.toStr (.t 42))⟩, ⟨some 4, none, .op (.mov (.t 43))⟩]
def T.istrconv_FormatInt.c20 : Code := .seq (.region T.istrconv_FormatInt.r13 [5, 7, 34, 40, 41, 42, 43] 0 false) .ret
def T.istrconv_FormatInt.c15 : Code := .seq T.istrconv_FormatInt.c16 T.istrconv_FormatInt.c20
def T.istrconv_FormatInt.c14 : Code := .seq (.region T.istrconv_FormatInt.r9 [6, 28, 29, 30, 31, 32] 0 false) T.istrconv_FormatInt.c15
def T.istrconv_FormatInt.c13 : Code := .seq (.region T.istrconv_FormatInt.r8 [23, 26, 27] 0 false) T.istrconv_FormatInt.c14
def T.istrconv_FormatInt.c10 : Code := .seq T.istrconv_FormatInt.c11 T.istrconv_FormatInt.c13
def T.istrconv_FormatInt.c9 : Code := .seq (.region T.istrconv_FormatInt.r5 [20, 21] 0 false) T.istrconv_FormatInt.c10
def T.istrconv_FormatInt.c8 : Code := .seq (.region T.istrconv_FormatInt.r4 [17] 0 false) T.istrconv_FormatInt.c9
def T.istrconv_FormatInt.c4 : Code := .seq T.istrconv_FormatInt.c5 T.istrconv_FormatInt.c8
def T.istrconv_FormatInt.c3 : Code := .cond (.t 11) T.istrconv_FormatInt.c4 .skip
def T.istrconv_FormatInt.c2 : Code := .seq (.region T.istrconv_FormatInt.r1 [10] 0 false) T.istrconv_FormatInt.c3
def T.istrconv_FormatInt.r14 : List ROp := [⟨some 45, none, .op (.mov (.t 0))⟩, ⟨some 46, none, .op (.conv .u64 (.t 45))⟩, ⟨some 47, none, .op (.mov (.t 1))⟩, ⟨some 48, none, .op (.mov (.t 0))⟩, ⟨some 49, none, .op (.bin .plain .lss (.t 48) (.c (.int .i64 0)))⟩, ⟨some 50, none, .call false (.fn 126) [.c .nils, .t 46, .t 47, .t 49, .c (.bool false)]⟩, ⟨some 44, none, .op (.mov (.t 50))⟩, ⟨some 51, none, .op (.extract (.t 44) 0)⟩, ⟨some 52, none, .op (.extract (.t 44) 1)⟩, ⟨some 8, none, .op (.mov (.t 51))⟩, ⟨some 9, none, .op (.mov (.t 52))⟩]
def T.istrconv_FormatInt.r15 : List ROp := [⟨some 53, none, .op (.mov (.t 9))⟩, ⟨some 4, none, .op (.mov (.t 53))⟩]
def T.istrconv_FormatInt.c22 : Code := .seq (.region T.istrconv_FormatInt.r15 [9, 53] 0 false) .ret
def T.istrconv_FormatInt.c21 : Code := .seq (.region T.istrconv_FormatInt.r14 [0, 1, 8, 11, 44, 45, 46, 47, 48, 49, 50, 51, 52] 0 false) T.istrconv_FormatInt.c22
def T.istrconv_FormatInt.c1 : Code := .seq T.istrconv_FormatInt.c2 T.istrconv_FormatInt.c21
def T.istrconv_FormatInt.c0 : Code := .seq (.region T.istrconv_FormatInt.r0 [4] 0 false) T.istrconv_FormatInt.c1
def T.istrconv_FormatInt : Fun := ⟨T.istrconv_FormatInt.c0, [.tmp 4]⟩
/- internal/strconv.small -/
def T.istrconv_small.r0 : List ROp := [⟨some 2, none, .op (.mov (.c (.str [])))⟩]
def T.istrconv_small.r1 : List ROp := [⟨some 3, none, .op (.mov (.t 0))⟩, ⟨some 4, none, .op (.bin .plain .lss (.t 3) (.c (.int .i64 10)))⟩]
def T.istrconv_small.r2 : List ROp := [⟨some 5, none, .op (.mov (.t 0))⟩, ⟨some 6, none, .op (.mov (.t 0))⟩, ⟨some 7, none, .op (.bin .plain .add (.t 6) (.c (.int .i64 1)))⟩, ⟨some 8, none, .op (.strSlc (.c (.str [48, 49, 50, 51, 52, 53, 54, 55, 56, 57, 97, 98, 99, 100, 101, 102, 103, 104, 105, 106, 107, 108, 109, 110, 111, 112, 113, 114, 115, 116, 117, 118, 119, 120, 121, 122])) (some (.t 5)) (some (.t 7)))⟩, ⟨some 2, none, .op (.mov (.t 8))⟩]
def T.istrconv_small.c4 : Code := .seq (.region T.istrconv_small.r2 [0, 4, 5, 6, 7, 8] 0 false) .ret
def T.istrconv_small.c3 : Code := .cond (.t 4) T.istrconv_small.c4 .skip
def T.istrconv_small.c2 : Code := .seq (.region T.istrconv_small.r1 [3] 0 false) T.istrconv_small.c3
def T.istrconv_small.r3 : List ROp := [⟨some 9, none, .op (.mov (.t 0))⟩, ⟨some 10, none, .op (.bin .plain .mul (.t 9) (.c (.int .i64 2)))⟩, ⟨some 11, none, .op (.mov (.t 0))⟩, ⟨some 12, none, .op (.bin .plain .mul (.t 11) (.c (.int .i64 2)))⟩, ⟨some 13, none, .op (.bin .plain .add (.t 12) (.c (.int .i64 2)))⟩, ⟨some 14, none, .op (.strSlc (.c (.str [48, 48, 48, 49, 48, 50, 48, 51, 48, 52, 48, 53, 48, 54, 48, 55, 48, 56, 48, 57, 49, 48, 49, 49, 49, 50, 49, 51, 49, 52, 49, 53, 49, 54, 49, 55, 49, 56, 49, 57, 50, 48, 50, 49, 50, 50, 50, 51, 50, 52, 50, 53, 50, 54, 50, 55, 50, 56, 50, 57, 51, 48, 51, 49, 51, 50, 51, 51, 51, 52, 51, 53, 51, 54, 51, 55, 51, 56, 51, 57, 52, 48, 52, 49, 52, 50, 52, 51, 52, 52, 52, 53, 52, 54, 52, 55, 52, 56, 52, 57, 53, 48, 53, 49, 53, 50, 53, 51, 53, 52, 53, 53, 53, 54, 53, 55, 53, 56, 53, 57, 54, 48, 54, 49, 54, 50, 54, 51, 54, 52, 54, 53, 54, 54, 54, 55, 54, 56, 54, 57, 55, 48, 55, 49, 55, 50, 55, 51, 55, 52, 55, 53, 55, 54, 55, 55, 55, 56, 55, 57, 56, 48, 56, 49, 56, 50, 56, 51, 56, 52, 56, 53, 56, 54, 56, 55, 56, 56, 56, 57, 57, 48, 57, 49, 57, 50, 57, 51, 57, 52, 57, 53, 57, 54, 57, 55, 57, 56, 57, 57])) (some (.t 10)) (some (.t 13)))⟩, ⟨some 2, none, .op (.mov (.t 14))⟩]
def T.istrconv_small.c5 : Code := .seq (.region T.istrconv_small.r3 [0, 4, 9, 10, 11, 12, 13, 14] 0 false) .ret
def T.istrconv_small.c1 : Code := .seq T.istrconv_small.c2 T.istrconv_small.c5
def T.istrconv_small.c0 : Code := .seq (.region T.istrconv_small.r0 [2] 0 false) T.istrconv_small.c1
def T.istrconv_small : Fun := ⟨T.istrconv_small.c0, [.tmp 2]⟩
/- cmp.isNaN[int] -/
def T.cmp_isNaN_int.r0 : List ROp := [⟨some 2, none, .op (.mov (.c (.bool false)))⟩]
def T.cmp_isNaN_int.r1 : List ROp := [⟨some 3, none, .op (.mov (.t 0))⟩, ⟨some 4, none, .op (.mov (.t 0))⟩, ⟨some 5, none, .op (.bin .plain .neq (.t 3) (.t 4))⟩, ⟨some 2, none, .op (.mov (.t 5))⟩]
def T.cmp_isNaN_int.c1 : Code := .seq (.region T.cmp_isNaN_int.r1 [0, 3, 4, 5] 0 false) .ret
def T.cmp_isNaN_int.c0 : Code := .seq (.region T.cmp_isNaN_int.r0 [2] 0 false) T.cmp_isNaN_int.c1
def T.cmp_isNaN_int : Fun := ⟨T.cmp_isNaN_int.c0, [.tmp 2]⟩
end Gc
end
