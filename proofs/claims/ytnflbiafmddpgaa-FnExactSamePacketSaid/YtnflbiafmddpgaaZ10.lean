/- The path calculus, part 10: the state behind a call. -/
import Derived.Test.YtnflbiafmddpgaaZ9
namespace Go.Proofs.Ytnflbiafmddpgaa.Z
open Go.RowKit
set_option linter.unusedVariables false
set_option linter.unusedSimpArgs false
section
variable {T : Tys} {P : Program} {W0 : World} {σ σ' σ1 : St T} {a : Act} {w w1 : World} {env env1 : Nat → Value} {F F1 : Nat → Nat → Prop} {o : Oper} {tch chg : List Nat}
theorem rc_len {S : Nat → Prop} {G : Nat → Nat → Prop} : ∀ {cs : List (R0 T.Tb)} {i : Nat} {vs : List Value}, ResCells w1 S G i cs vs → cs.length = vs.length
  | [], _, _, h => by cases h; rfl
  | .sc v :: cs, i, _, ⟨r, e, _, h⟩ => by subst e; simp [rc_len h]
  | .ow _ _ :: cs, i, _, ⟨v, r, e, _, h⟩ => by subst e; simp [rc_len h]
  | .im _ _ :: cs, i, _, ⟨v, r, e, _, h⟩ => by subst e; simp [rc_len h]
theorem rc_ow {S : Nat → Prop} {G : Nat → Nat → Prop} {e : Nat} {l : List (T.Tb e)} : ∀ {cs : List (R0 T.Tb)} {i j : Nat} {vs : List Value}, ResCells w1 S G i cs vs → cs[j]? = some (.ow e l) → ∃ v, vs[j]? = some v ∧ Ow T.sz w1 (G (i + j)) (.sl e (l.map (T.enc e))) v
  | [], _, _, _, _, h => by simp at h
  | c :: cs, i, 0, _, h, hj => by
    simp at hj
    subst hj
    obtain ⟨v, r, e', h1, _⟩ := h
    exact ⟨v, by rw [e']; rfl, h1⟩
  | c :: cs, i, j + 1, vs, h, hj => by
    have key : ∃ v r, vs = v :: r ∧ ResCells w1 S G (i + 1) cs r := by
      cases c with
      | sc v => obtain ⟨r, e', _, h⟩ := h; exact ⟨_, r, e', h⟩
      | ow _ _ => obtain ⟨v, r, e', _, h⟩ := h; exact ⟨v, r, e', h⟩
      | im _ _ => obtain ⟨v, r, e', _, h⟩ := h; exact ⟨v, r, e', h⟩
    obtain ⟨v, r, e', h⟩ := key
    obtain ⟨u, h1, h2⟩ := rc_ow (j := j) h (by simpa using hj)
    exact ⟨u, by rw [e']; simpa using h1, by rw [show i + (j + 1) = i + 1 + j by omega]; exact h2⟩
theorem rc_rel {S : Nat → Prop} {G : Nat → Nat → Prop} {nx : Nat} {p : Option (Nat × Nat)} : ∀ {cs : List (R0 T.Tb)} {i : Nat} {vs : List Value}, ResCells w1 S G i cs vs → (∀ j v, vs[j]? = some v → env1 (nx + (i + j)) = v) →
    (hasIm cs = true → ∀ k, S k → okP σ1.A F1 p k) → CellsRel σ1 env1 F1 w1 (resCells nx p i cs) vs
  | [], _, _, h, _, _ => h
  | .sc v :: cs, i, _, ⟨r, e, h1, h2⟩, he, hm => by
    subst e
    exact ⟨v, r, rfl, ⟨rfl, h1⟩, rc_rel h2 (fun j v hj => by have := he (j + 1) v (by simpa using hj); rw [show i + 1 + j = i + (j + 1) by omega]; exact this) (fun h => hm h)⟩
  | .ow e' l :: cs, i, _, ⟨v, r, e, h1, h2⟩, he, hm => by
    subst e
    exact ⟨v, r, rfl, ⟨(he 0 v rfl).symm, h1.one⟩, rc_rel h2 (fun j v hj => by have := he (j + 1) v (by simpa using hj); rw [show i + 1 + j = i + (j + 1) by omega]; exact this) (fun h => hm h)⟩
  | .im e' l :: cs, i, _, ⟨v, r, e, h1, h2⟩, he, hm => by
    subst e
    exact ⟨v, r, rfl, ⟨h1.one, fun _ => h1.mono (hm rfl)⟩, rc_rel h2 (fun j v hj => by have := he (j + 1) v (by simpa using hj); rw [show i + 1 + j = i + (j + 1) by omega]; exact this) (fun _ => hm rfl)⟩
theorem rc_split {S : Nat → Prop} {G : Nat → Nat → Prop} : ∀ {cs ds : List (R0 T.Tb)} {i : Nat} {f1 f2 : List Value}, ResCells w1 S G i (cs ++ ds) (f1 ++ f2) → f1.length = cs.length → ResCells w1 S G i cs f1 ∧ ResCells w1 S G (i + cs.length) ds f2
  | [], ds, i, f1, f2, h, hl => by
    have : f1 = [] := List.eq_nil_of_length_eq_zero (by simpa using hl)
    subst this; exact ⟨rfl, h⟩
  | c :: cs, ds, i, [], f2, h, hl => by simp at hl
  | c :: cs, ds, i, x :: f1, f2, h, hl => by
    have hl' : f1.length = cs.length := by simpa using hl
    cases c with
    | sc v =>
      obtain ⟨r, e, h1, h2⟩ := h
      cases e
      obtain ⟨h3, h4⟩ := rc_split h2 hl'
      exact ⟨⟨f1, rfl, h1, h3⟩, by rw [List.length_cons, show i + (cs.length + 1) = i + 1 + cs.length by omega]; exact h4⟩
    | ow _ _ =>
      obtain ⟨v, r, e, h1, h2⟩ := h
      cases e
      obtain ⟨h3, h4⟩ := rc_split h2 hl'
      exact ⟨⟨_, f1, rfl, h1, h3⟩, by rw [List.length_cons, show i + (cs.length + 1) = i + 1 + cs.length by omega]; exact h4⟩
    | im _ _ =>
      obtain ⟨v, r, e, h1, h2⟩ := h
      cases e
      obtain ⟨h3, h4⟩ := rc_split h2 hl'
      exact ⟨⟨_, f1, rfl, h1, h3⟩, by rw [List.length_cons, show i + (cs.length + 1) = i + 1 + cs.length by omega]; exact h4⟩
theorem hasIm_l {ds : List (R0 T.Tb)} : ∀ {cs : List (R0 T.Tb)}, hasIm cs = true → hasIm (cs ++ ds) = true
  | [], h => by cases h
  | .sc _ :: cs, h => hasIm_l (cs := cs) h
  | .ow _ _ :: cs, h => hasIm_l (cs := cs) h
  | .im _ _ :: cs, h => rfl
theorem hasIm_r {ds : List (R0 T.Tb)} : ∀ {cs : List (R0 T.Tb)}, hasIm ds = true → hasIm (cs ++ ds) = true
  | [], h => h
  | .sc _ :: cs, h => hasIm_r (cs := cs) h
  | .ow _ _ :: cs, h => hasIm_r (cs := cs) h
  | .im _ _ :: cs, h => rfl
theorem ri_rel {S : Nat → Prop} {G : Nat → Nat → Prop} {nx : Nat} {p : Option (Nat × Nat)} : ∀ {its : List (Bool × List (R0 T.Tb))} {i : Nat} {vs fv : List Value}, FlatItems its vs fv → ResCells w1 S G i (flatTu its) fv → (∀ j v, fv[j]? = some v → env1 (nx + (i + j)) = v) →
    (hasIm (flatTu its) = true → ∀ k, S k → okP σ1.A F1 p k) → ItemsRel σ1 env1 F1 w1 (resItems nx p i its) vs
  | [], _, _, _, h, _, _, _ => h.1
  | it :: its, i, _, _, ⟨v, r, f1, f2, e1, e2, hl, hv, hr⟩, hc, he, hm => by
    subst e1 e2
    obtain ⟨h1, h2⟩ := rc_split hc hl
    have h3 : CellsRel σ1 env1 F1 w1 (resCells nx p i it.2) f1 := rc_rel h1 (fun j v hj => he j v (by rw [List.getElem?_append_left (List.getElem?_eq_some_iff.1 hj).1]; exact hj)) (fun h => hm (hasIm_l h))
    refine ⟨v, r, rfl, ?_, ri_rel hr h2 (fun j v hj => ?_) (fun h => hm (hasIm_r h))⟩
    · unfold ItemRel
      cases hb : it.1 <;> rw [hb] at hv <;> dsimp only at hv ⊢
      · rw [← hv]; exact h3
      · obtain ⟨us, e, e'⟩ := hv
        exact ⟨us, e, by rw [e']; exact h3⟩
    · have := he (f1.length + j) v (by rw [List.getElem?_append_right (by omega)]; simpa using hj)
      rw [hl] at this
      rw [show i + it.2.length + j = i + (it.2.length + j) by omega]; exact this
theorem isOw_not : ∀ {l : List (R0 T.Tb)} {j : Nat}, (∀ e x, l[j]? ≠ some (.ow e x)) → isOw l j = false
  | [], _, _ => rfl
  | c :: l, 0, h => by cases c <;> first | rfl | exact absurd rfl (h _ _)
  | c :: l, j + 1, h => by
    have := isOw_not (l := l) (j := j) (fun e x => by simpa using h e x)
    cases c <;> exact this
theorem isOw_yes {e : Nat} {x : List (T.Tb e)} : ∀ {l : List (R0 T.Tb)} {j : Nat}, l[j]? = some (.ow e x) → isOw l j = true
  | [], _, h => by simp at h
  | c :: l, 0, h => by simp at h; subst h; rfl
  | c :: l, j + 1, h => by
    have := isOw_yes (l := l) (j := j) (by simpa using h)
    cases c <;> exact this
/-- A call is over: what it made is owned, what it answers is told. -/
theorem Sim0.called (h : Sim0 W0 σ a w env F) (g : Grew w w1) {res : RS T.Tb} {v : Value} {fv : List Value} {G : Nat → Nat → Prop} {ps : List (Nat × Nat)} {p : Option (Nat × Nat)} {nx nx' : Nat} {dst : Option Nat}
    (hfr : ∀ r, nx ≤ r → r < nx + res.flat.length → Unsaid σ r ∧ σ.res r = .no) (hG : ∀ i k, G i k → w.heap.size ≤ k ∧ k < w1.heap.size) (hap : ∀ i j k, G i k → G j k → i = j) (hf : FlatV res v fv)
    (hc : ResCells w1 (fun k => lent σ.A F ps k ∧ k < w.heap.size ∨ w.heap.size ≤ k ∧ ∀ i, ¬ G i k) G 0 res.flat fv) (hp : hasIm res.flat = true → oneOf ps = some p) (hd : ∀ d, dst = some d → d < σ.n) :
    Sim W0 (σ.upd dst ⟨resSlot nx p res, resRs nx 0 res.flat, tch, nx', chg⟩) (a.put dst v) w1 := by
  have hlen := rc_len hc
  have hrs : ∀ r, ¬ (nx ≤ r ∧ r < nx + res.flat.length) → (σ.upd dst ⟨resSlot nx p res, resRs nx 0 res.flat, tch, nx', chg⟩).res r = σ.res r := fun r hr => St.upd_res_not (fun q hq => by have := resRs_ids q hq; intro e; subst e; exact hr (by simpa using this))
  have hrs2 : ∀ j, j < res.flat.length → (σ.upd dst ⟨resSlot nx p res, resRs nx 0 res.flat, tch, nx', chg⟩).res (nx + j) = match res.flat[j]? with
      | some (.ow e x) => .row (nx + j) e x
      | _ => .no := fun j hj => by
    rw [St.upd_res]
    have := resRs_look (nx := nx) (l := res.flat) (i := 0) (j := j) (d := σ.res (nx + j)) hj
    simp only [Nat.add_zero] at this
    rw [this, (hfr (nx + j) (by omega) (by omega)).2]
    cases hx : res.flat[j]? with
    | none => rfl
    | some x => cases x <;> rfl
  let env1 : Nat → Value := fun s => if nx ≤ s ∧ s < nx + res.flat.length then fv.getD (s - nx) undef else env s
  let F1 : Nat → Nat → Prop := fun s k => if nx ≤ s ∧ s < nx + res.flat.length then isOw res.flat (s - nx) = true ∧ G (s - nx) k else F s k
  have he0 : ∀ s, ¬ (nx ≤ s ∧ s < nx + res.flat.length) → env1 s = env s := fun s hs => if_neg hs
  have hF0 : ∀ s k, ¬ (nx ≤ s ∧ s < nx + res.flat.length) → (F1 s k ↔ F s k) := fun s k hs => by show (if _ then _ else _) ↔ _; rw [if_neg hs]
  have hF1 : ∀ s k, nx ≤ s → s < nx + res.flat.length → (F1 s k ↔ isOw res.flat (s - nx) = true ∧ G (s - nx) k) := fun s k h1 h2 => by show (if _ then _ else _) ↔ _; rw [if_pos ⟨h1, h2⟩]
  have he1 : ∀ j u, fv[j]? = some u → env1 (nx + (0 + j)) = u := fun j u hj => by
    have hlt := (List.getElem?_eq_some_iff.1 hj).1
    show (if _ then _ else _) = _
    rw [if_pos (by omega), show nx + (0 + j) - nx = j by omega, List.getD_eq_getElem?_getD, hj]; rfl
  have hst : ∀ k, (∀ r, ¬ F r k) → (∀ i, ¬ G i k) → ∀ r, ¬ F1 r k := fun k h1 h2 r hr => by
    by_cases e : nx ≤ r ∧ r < nx + res.flat.length
    · exact h2 _ ((hF1 r k e.1 e.2).1 hr).2
    · exact h1 r ((hF0 r k e).1 hr)
  have hGn : ∀ k, k < w.heap.size → ∀ i, ¬ G i k := fun k hk i hg => by have := (hG i k hg).1; omega
  have calm : Calm σ (σ.upd dst ⟨resSlot nx p res, resRs nx 0 res.flat, tch, nx', chg⟩) F F1 w w1 := ⟨St.upd_A _ _ _, g.size, fun k hk h1 => ⟨hst k h1 (hGn k hk), g.block k hk⟩⟩
  have same : ∀ r, ¬ (nx ≤ r ∧ r < nx + res.flat.length) → Same σ (σ.upd dst ⟨resSlot nx p res, resRs nx 0 res.flat, tch, nx', chg⟩) env env1 F F1 w w1 r := fun r hr => ⟨he0 r hr, fun k => hF0 r k hr, hrs r hr, fun k hk => g.block k (own_lt h hk)⟩
  have himS : hasIm res.flat = true → ∀ k, (lent σ.A F ps k ∧ k < w.heap.size ∨ w.heap.size ≤ k ∧ ∀ i, ¬ G i k) → okP (σ.upd dst ⟨resSlot nx p res, resRs nx 0 res.flat, tch, nx', chg⟩).A F1 p k := fun him k hk => by
    rcases hk with ⟨hk, hlt⟩ | ⟨hge, hk⟩
    · rcases oneOf_lent (hp him) k hk with ⟨ha, h1⟩ | ⟨q, hq, h1⟩
      · exact .inl ⟨by rw [St.upd_A]; exact ha, hst k h1 (hGn k hlt)⟩
      · refine .inr ⟨q, hq, ?_⟩
        by_cases e : nx ≤ q.1 ∧ q.1 < nx + res.flat.length
        · have h2 := h.res q.1
          rw [(hfr q.1 e.1 e.2).2] at h2
          exact (h2 k h1).elim
        · exact (hF0 q.1 k e).2 h1
    · exact .inl ⟨by rw [St.upd_A]; exact h.acc k (Nat.le_trans h.below.size hge), hst k (fun r hr => by have := own_lt h hr; omega) hk⟩
  refine h.upd (env1 := env1) (F1 := F1) (fun r => nx ≤ r ∧ r < nx + res.flat.length) (below_grew h.below g) calm same ?_ ?_ ?_ (fun r hr => .inl (hfr r hr.1 hr.2).1) (fun d hd' => ⟨hd d hd', ?_⟩)
  · rintro r ⟨h1, h2⟩
    obtain ⟨j, rfl⟩ : ∃ j, r = nx + j := ⟨r - nx, by omega⟩
    have hj : j < res.flat.length := by omega
    rw [hrs2 j hj]
    cases hx : res.flat[j]? with
    | none => simp at hx; omega
    | some x =>
      cases x with
      | sc u =>
        intro k hk
        have := ((hF1 _ k h1 h2).1 hk).1
        rw [show nx + j - nx = j by omega, isOw_not (fun e x h => by rw [hx] at h; cases h)] at this
        cases this
      | im e l =>
        intro k hk
        have := ((hF1 _ k h1 h2).1 hk).1
        rw [show nx + j - nx = j by omega, isOw_not (fun e x h => by rw [hx] at h; cases h)] at this
        cases this
      | ow e l =>
        obtain ⟨u, h3, h4⟩ := rc_ow hc hx
        show Ow T.sz w1 (F1 (nx + j)) (.sl e (l.map (T.enc e))) (env1 (nx + j))
        have h5 := he1 j u h3
        rw [Nat.zero_add] at h5 h4
        rw [h5]
        exact h4.mono (fun k hk => (hF1 _ k h1 h2).2 (by rw [show nx + j - nx = j by omega]; exact ⟨isOw_yes hx, hk⟩))
  · rintro r k ⟨h1, h2⟩ hk
    have h3 := hG _ _ ((hF1 r k h1 h2).1 hk).2
    exact ⟨Nat.le_trans h.below.size h3.1, h3.2⟩
  · rintro r s k ⟨h1, h2⟩ hk hk2
    have h3 := ((hF1 r k h1 h2).1 hk).2
    by_cases e : nx ≤ s ∧ s < nx + res.flat.length
    · have h4 := ((hF1 s k e.1 e.2).1 hk2).2
      have := hap _ _ _ h3 h4
      omega
    · have h4 := own_lt h ((hF0 s k e).1 hk2)
      have := (hG _ _ h3).1
      omega
  · cases res with
    | c x =>
      obtain rfl : fv = [v] := hf
      have h1 : CellsRel (σ.upd dst ⟨resSlot nx p (.c x), resRs nx 0 (RS.c x).flat, tch, nx', chg⟩) env1 F1 w1 (resCells nx p 0 [x]) [v] := rc_rel hc he1 himS
      obtain ⟨u, r, e, h2, _⟩ := h1
      cases e
      exact h2
    | ag l =>
      obtain ⟨us, e, e'⟩ := hf
      exact ⟨us, e, by rw [e']; exact rc_rel hc he1 himS⟩
    | tu l =>
      obtain ⟨us, e, e'⟩ := hf
      exact ⟨us, e, ri_rel e' hc he1 himS⟩
theorem call_ok {nx : Nat} {f : FuncId} {args : Array Operand} {ts : Array TypeId} {as : List (Arg T.Tb)} {ps : List (Nat × Nat)} {res : RS T.Tb} {U : Upd T} (ho : o.op = .call { callee := .value (.func f), args := args, argTypes := ts }) (ha : argsS σ (evL σ args.toList) = some (as, ps)) (hob : CallOb T P f as res) (hu : callUpd σ nx o.dst ps res = some U) : LStep P W0 o σ U := by
  intro σ' a w K Q hA ⟨env, F, hS⟩ hK
  unfold callUpd at hu
  cases hd : dstOk σ o.dst <;> rw [hd] at hu <;> dsimp only at hu
  · cases hu
  cases hf : freshN σ nx res.flat.length <;> rw [hf] at hu <;> dsimp only at hu
  · cases hu
  have hd' : ∀ d, o.dst = some d → d < σ'.n := fun d h => by rw [hA.n]; exact dstOk_spec hd d h
  obtain ⟨⟨fn, hfn, hname, hbody⟩, hcall⟩ := hob
  have main : ∀ (p : Option (Nat × Nat)) (him : hasIm res.flat = true → oneOf ps = some p) (hU : U = ⟨resSlot nx p res, resRs nx 0 res.flat, ids nx res.flat.length ++ (fsts ps ++ (resSlot nx p res).refs), res.flat.length, ids nx res.flat.length⟩), Oper.wp P o a w K Q := by
    rintro p him rfl
    have hargs : ArgsRel w (lent σ'.A F ps) as (args.toList.map a.eval) := argsS_rel hS hA (fun x hx => by rw [ho]; simp only [Op.operands, Call.operands, Array.toList_append]; exact List.mem_append_right _ hx) ha (fun q hq => List.mem_append_right _ (List.mem_append_left _ (mem_fsts.2 ⟨q, hq, rfl⟩)))
    have hc := hcall w _ _ hargs
    have hrun : (execOp a.eval o).run P w = .ok (.enter f (args.toList.map a.eval).toArray) w := by
      obtain ⟨c, hbc⟩ := Option.isSome_iff_exists.1 hbody
      have h1 : fn.name ≠ "runtime.NumGoroutine" := fun e => by rw [e] at hname; simp at hname
      have hmap : Array.map a.eval args = (args.toList.map a.eval).toArray := by apply Array.ext'; simp
      unfold execOp
      rw [ho]
      simp [resolve, Deferred.ofValue, invoke, Act.eval, callFunc, hfn, h1, hbc, hmap]
    unfold Oper.wp
    rw [hrun, Oper.upon_enter]
    refine hc.mono ?_
    rintro e w1 ⟨v, G, rfl, hb, hG, hap, fv, hfv, hcells⟩
    refine hK _ _ (hS.called (Grew.of_below hb) (fun r h1 h2 => ?_) hG hap hfv hcells him hd')
    exact hA.new (mem_ids.2 ⟨h1, h2⟩) (freshN_spec hf r h1 h2)
  cases hi : hasIm res.flat <;> rw [hi] at hu <;> dsimp only at hu
  · cases hu
    exact main none (fun h => by rw [hi] at h; cases h) rfl
  · cases hp : oneOf ps with
    | none => rw [hp] at hu; cases hu
    | some p =>
      rw [hp] at hu
      cases hu
      exact main p (fun _ => hp) rfl
end
end Go.Proofs.Ytnflbiafmddpgaa.Z
