/- A deterministic executor for the model, and that it is sound (part 3 of 3): no condition. -/
import Derived.Test.YtnacmjacppihcaaGreatXb
import Derived.Laws.Sem
import Derived.Calls
import Derived.Orders
import Derived.RowKit3
/- The executor's calls are the machine's. -/
namespace Go.Dv

/-- what is known of some calls beside -/
def XS (P : Program) (X : Nat → List Value → AHeap → Option (Value × AHeap)) : Prop :=
  ∀ {ρ : Ren} {h : AHeap} {w : World} {f : Nat} {args args' : List Value} {v : Value} {h' : AHeap} (c : Frame) (cs : List Frame), X f args h = some (v, h') → LR ρ args args' → HR P ρ h w →
    ∃ ρ' w' v', (∃ fn, P.funcs[f]? = some fn ∧ fn.body.isSome = true ∧ fn.name ≠ "runtime.NumGoroutine") ∧ Steps P (lone (Frame.enter P f args'.toArray .normal) (c :: cs) w) (lone (c.finish v') cs w') ∧
      VR ρ' v v' ∧ HR P ρ' h' w' ∧ Stp h ρ w h' ρ' w'

noncomputable def bodyV (F : Nat → Option IFunc) (C : CB) (lf : Nat) (f : Nat) (args : List Value) (h : AHeap) : Option (Value × AHeap) :=
  match F f with
  | none => none
  | some fn => match run C f fn.ntmps lf none fn.body { ts := trOf 0 args .nil, ms := [], h } with
    | some (.norm, s) | some (.ret, s) => match killAll s.h s.ms with
      | none => none
      | some h' => match resV s.ts h' fn.results with
        | some vs => some (tupleOf vs, h')
        | none => none
    | _ => none

section
variable {P : Program} {ρ : Ren} {ts : Tr Value} {tmps : Array Value} {h : AHeap} {w : World} {ds : List Deferred} {k : List Item} {cs : List Frame}

noncomputable def resC (P : Program) (r : ResultVar) : Option ResV := match r with
  | .tmp t => some (ResV.tmp t)
  | .cell a t => match szOf P t, aggT P t with
    | some n, some ag => cond (ag || Nat.beq n 1) (some (.cell a n ag)) none
    | _, _ => none

theorem cFunc_parts {f : Nat} {F : IFunc} (hc : cFunc P f = some F) : ∃ fn c, P.funcs[f]? = some fn ∧ fn.body = some c ∧ fn.name ≠ "runtime.NumGoroutine" ∧ F.ntmps = fn.ntmps ∧ cCode P fn.ntmps c = some F.body ∧ fn.results.toList.mapM (resC P) = some F.results := by
  unfold cFunc at hc
  split at hc
  · cases hc
  · rename_i fn hfn
    split at hc
    · cases hc
    · rename_i c hb
      obtain ⟨hn, hc⟩ := cond_none hc
      split at hc
      · rename_i bd rs h1 h2
        cases hc
        exact ⟨fn, c, hfn, hb, by simpa using hn, rfl, h1, h2⟩
      · cases hc

noncomputable def resM (tmps : Array Value) : ResultVar → Sem Value
  | .tmp t => pure (tmps.getD t undef)
  | .cell a t => do loadVar t (← asAddr (tmps.getD a undef))

theorem res_list (cx : Cx P ρ ts tmps h w) : ∀ (rs : List ResultVar) (irs : List ResV) (vs : List Value), rs.mapM (resC P) = some irs → resV ts h irs = some vs →
    ∃ vs', (rs.mapM (resM tmps)).run P w = .ok vs' w ∧ LR ρ vs vs' := by
  intro rs
  induction rs with
  | nil =>
    intro irs vs h1 h2
    simp at h1
    subst h1
    simp [resV] at h2
    subst h2
    exact ⟨[], by simp, .nil ρ⟩
  | cons r rs ih =>
    intro irs vs h1 h2
    rw [List.mapM_cons] at h1
    cases e1 : resC P r with
    | none => rw [e1] at h1; cases h1
    | some ir =>
      cases e2 : rs.mapM (resC P) with
      | none => rw [e1, e2] at h1; cases h1
      | some irs' =>
        rw [e1, e2] at h1
        cases h1
        cases r with
        | tmp t =>
          cases e1
          simp only [resV] at h2
          split at h2
          · rename_i v vs1 g1 g2
            cases h2
            obtain ⟨vs', q1, q2⟩ := ih irs' vs1 e2 g2
            obtain ⟨v', q3, q4⟩ := cx.tr t v g1
            refine ⟨v' :: vs', ?_, .cons q4 q2⟩
            rw [List.mapM_cons]
            simp [resM, q1, Array.getD_eq_getD_getElem?, q3]
          · cases h2
        | cell a t =>
          simp only [resC] at e1
          split at e1
          · rename_i n ag hn ha
            obtain ⟨hag, e1⟩ := cond_some e1
            cases e1
            simp only [resV] at h2
            split at h2
            · rename_i v vs1 g1 g2
              cases h2
              obtain ⟨vs', q1, q2⟩ := ih irs' vs1 e2 g2
              simp only [rdV, ev] at g1
              split at g1
              · rename_i b off ha'
                split at g1
                · rename_i c hc
                  split at g1
                  · rename_i l hl
                    obtain ⟨x', x1, x2⟩ := cx.tr a _ ha'
                    obtain ⟨_, bi, e3, e4⟩ := x2.inv_ptr
                    obtain ⟨bi', v', e5, e6, e7⟩ := loadVar_sound cx.hr hn ha (by simpa using hag) hc hl g1
                    rw [e3] at e5; cases e5
                    refine ⟨v' :: vs', ?_, .cons e7 q2⟩
                    rw [List.mapM_cons]
                    simp [resM, q1, Array.getD_eq_getD_getElem?, x1, e4, asAddr, e6]
                  · cases g1
                · cases g1
              · cases g1
            · cases h2
          · cases e1

theorem res_sound (cx : Cx P ρ ts tmps h w) {fn : Func} {irs : List ResV} {vs : List Value} (h1 : fn.results.toList.mapM (resC P) = some irs) (h2 : resV ts h irs = some vs) :
    ∃ v', (results fn tmps).run P w = .ok v' w ∧ VR ρ (tupleOf vs) v' := by
  obtain ⟨vs', q1, q2⟩ := res_list cx _ _ _ h1 h2
  have hm : (fn.results.mapM (resM tmps)).run P w = .ok vs'.toArray w := by
    rw [Array.mapM_eq_mapM_toList]
    rw [map_eq_pure_bind, Sem.run_bind, q1]
    rfl
  have : (results fn tmps).run P w = .ok (if h : vs'.toArray.size = 1 then vs'.toArray[0] else .tuple vs'.toArray) w := by
    unfold results
    show (fn.results.mapM (resM tmps) >>= _).run P w = _
    rw [Sem.run_bind, hm]
    rfl
  refine ⟨_, this, ?_⟩
  match vs, vs', q2 with
  | [], [], _ => exact .tuple_of (.nil ρ)
  | [v], [v'], q => exact q.head
  | a :: b :: l, a' :: b' :: l', q =>
    rw [dif_neg (by simp)]
    exact .tuple_of (by simpa [tupleOf] using q)
  | [], _ :: _, q => exact absurd q.1 (by simp)
  | _ :: _, [], q => exact absurd q.1 (by simp)
  | [_], _ :: _ :: _, q => exact absurd q.1 (by simp)
  | _ :: _ :: _, [_], q => exact absurd q.1 (by simp)

noncomputable def Rt (b : Base) (tmps : Array Value) (ds : List Deferred) (todo : List Item) : Frame := { Fr b tmps ds todo with mode := .returning }

theorem s_end {f : FuncId} : step P (lone (Fr ⟨f, none⟩ tmps ds []) cs w) = .next (lone (Rt ⟨f, none⟩ tmps ds []) cs w) :=
  step_lone_go (by simp [stepG, stepG.exec, Fr, Rt])
theorem s_ret {f : FuncId} : step P (lone (Fr ⟨f, none⟩ tmps ds (.code .ret :: k)) cs w) = .next (lone (Rt ⟨f, none⟩ tmps ds (.code .ret :: k)) cs w) :=
  step_lone_go (by simp [stepG, stepG.exec, Fr, Rt])
theorem s_mark {b : Base} {bk : Nat} {as : Array Value} {l : List Deferred} {w' : World} (h : (Instr.takeDeferred bk).run P w = .ok l w') :
    step P (lone (Rt b tmps ({ target := .collected bk, args := as } :: ds) k) cs w) = .next (lone (Rt b tmps (l ++ ds) k) cs w') :=
  step_lone_go (by simp [stepG, unwind, Fr, Rt, Sem.runT_eq, h])

theorem marks_sound {b : Base} : ∀ (ms : List Nat) {ds : List Deferred} {h h' : AHeap} {w : World}, killAll h ms = some h' → MR ρ ms ds → HR P ρ h w →
    ∃ w', Steps P (lone (Rt b tmps ds k) cs w) (lone (Rt b tmps [] k) cs w') ∧ HR P ρ h' w' ∧ Stp h ρ w h' ρ w' := by
  intro ms
  induction ms with
  | nil =>
    intro ds h h' w hk hm hr
    cases hm
    cases hk
    exact ⟨w, .refl _ _, hr, .refl _ _ _⟩
  | cons m ms ih =>
    intro ds h h' w hk hm hr
    cases hm with
    | cons hb hs ht =>
      rename_i bi ds
      simp only [killAll] at hk
      split at hk
      · rename_i hd
        obtain ⟨bj, o', e1, e2, e3⟩ := hr.obj m _ hd
        rw [hb] at e1
        cases e1
        cases e3
        obtain ⟨q1, q2⟩ := drop_sound hr (by rw [hd]; rfl) hb (ob' := .deferred none) (w' := w.putObj bi.blk (.deferred none)) (by intro _ _ _ _ e; cases e) rfl rfl rfl rfl
        obtain ⟨w', p1, p2, p3⟩ := ih hk ht q1
        exact ⟨w', .head (s_mark (run_takeDeferred e2)) p1, p2, q2.trans p3⟩
      · cases hk

theorem enter_eq {f : Nat} {fn : Func} {c : Code} (hf : P.funcs[f]? = some fn) (hb : fn.body = some c) (args : Array Value) :
    Frame.enter P f args .normal = Fr ⟨f, none⟩ (args ++ Array.replicate (fn.ntmps - args.size) undef) [] [.code c] := by
  simp [Frame.enter, Fr, hf, hb]

theorem body_sound {F : Nat → Option IFunc} (hF : ∀ f fn, F f = some fn → cFunc P f = some fn) {C : CB} (hC : CS P C) (hD : DrawS P C) {lf f : Nat} {args args' : List Value} {v : Value} {h' : AHeap}
    (hv : bodyV F C lf f args h = some (v, h')) (hl : LR ρ args args') (hr : HR P ρ h w) (cs : List Frame) :
    ∃ ρ' w' v' fr, (∃ fn, P.funcs[f]? = some fn ∧ fn.body.isSome = true ∧ fn.name ≠ "runtime.NumGoroutine") ∧ Steps P (lone (Frame.enter P f args'.toArray .normal) cs w) (lone fr cs w') ∧ fr.fn = f ∧ fr.leaving P w' (.returned v') ∧
      VR ρ' v v' ∧ HR P ρ' h' w' ∧ Stp h ρ w h' ρ' w' := by
  unfold bodyV at hv
  split at hv
  · cases hv
  · rename_i fn hfn
    obtain ⟨gn, c, c1, c2, c3, c4, c5, c6⟩ := cFunc_parts (hF _ _ hfn)
    rw [c4] at hv
    have hent := enter_eq c1 c2 args'.toArray
    have hsz : gn.ntmps ≤ (args'.toArray ++ Array.replicate (gn.ntmps - args'.toArray.size) undef).size := by simp; omega
    have htr : TR ρ (trOf 0 args .nil) (args'.toArray ++ Array.replicate (gn.ntmps - args'.toArray.size) undef) := by
      intro t x hx
      rw [get_trOf] at hx
      split at hx
      · obtain ⟨x', h1, h2⟩ := hl.get (by simpa using hx)
        have hi : t < args'.length := (List.getElem?_eq_some_iff.1 h1).1
        refine ⟨x', ?_, h2⟩
        rw [Array.getElem?_append_left (by simpa using hi)]
        simpa using h1
      · rw [Tr.get_nil] at hx; cases hx
    have hgood := code_sound hC hD (lf := lf) c _ c5
    -- the way out
    have fin : ∀ (s : St) (e : Ex), run C f gn.ntmps lf none fn.body { ts := trOf 0 args .nil, ms := [], h } = some (e, s) → (e = .norm ∨ e = .ret) → (match killAll s.h s.ms with
        | none => none
        | some h' => match resV s.ts h' fn.results with
          | some vs => some (tupleOf vs, h')
          | none => none) = some (v, h') → ∃ ρ' w' v' fr, (∃ fn, P.funcs[f]? = some fn ∧ fn.body.isSome = true ∧ fn.name ≠ "runtime.NumGoroutine") ∧ Steps P (lone (Frame.enter P f args'.toArray .normal) cs w) (lone fr cs w') ∧ fr.fn = f ∧ fr.leaving P w' (.returned v') ∧
      VR ρ' v v' ∧ HR P ρ' h' w' ∧ Stp h ρ w h' ρ' w' := by
      intro s e hrun he hres
      obtain ⟨ρ1, tmps1, ds1, w1, g1, sr1, st1⟩ := hgood ⟨f, none⟩ none [] cs ρ _ s e _ [] w hrun ⟨⟨htr, hr⟩, hsz, .nil, .none⟩
      have hret : ∃ todo, Steps P (lone (Frame.enter P f args'.toArray .normal) cs w) (lone (Rt ⟨f, none⟩ tmps1 ds1 todo) cs w1) := by
        rw [hent]
        rcases he with rfl | rfl
        · exact ⟨_, Steps.trans g1 (.one s_end)⟩
        · obtain ⟨k0, g2⟩ := g1
          exact ⟨_, g2.trans (.one s_ret)⟩
      obtain ⟨todo, hret⟩ := hret
      split at hres
      · cases hres
      · rename_i h2 hk
        split at hres
        · rename_i vs hvs
          cases hres
          obtain ⟨w2, m1, m2, m3⟩ := marks_sound (P := P) (b := ⟨f, none⟩) (tmps := tmps1) (k := todo) (cs := cs) s.ms hk sr1.ms sr1.cx.hr
          obtain ⟨v', r1, r2⟩ := res_sound ⟨sr1.cx.tr, m2⟩ c6 hvs
          exact ⟨ρ1, w2, v', _, ⟨gn, c1, by rw [c2]; rfl, c3⟩, hret.trans m1, rfl, ⟨rfl, rfl, rfl, gn, c1, r1⟩, r2, m2, st1.trans m3⟩
        · cases hres
    split at hv
    · rename_i s hrun; exact fin s _ hrun (.inl rfl) hv
    · rename_i s hrun; exact fin s _ hrun (.inr rfl) hv
    · cases hv

end
end Go.Dv

/- The executor's rounds, and all of it. -/
namespace Go.Dv
section
variable {P : Program} {ρ : Ren} {ts : Tr Value} {tmps : Array Value} {h : AHeap} {w : World} {ds : List Deferred} {k : List Item} {cs : List Frame}

theorem s_begin {f : FuncId} {l : Nat} {w' : World} (h : (Instr.beginRound l).run P w = .ok () w') :
    step P (lone (Fr ⟨f, some l⟩ tmps ds (.beginRound :: k)) cs w) = .next (lone (Fr ⟨f, some l⟩ tmps ds k) cs w') :=
  step_lone_go (by simp [stepG, stepG.exec, stepG.apply, Fr, Sem.runT_eq, h, Result.andThen, Frame.finish])

theorem s_round_end {f : FuncId} {l : Nat} {v : Value} {w' : World} {c : Frame} (h : (Instr.endRound l none).run P w = .ok v w') :
    step P (lone (Fr ⟨f, some l⟩ tmps ds []) (c :: cs) w) = .next (lone (c.finish v) cs w') :=
  step_lone_go (by simp [stepG, stepG.exec, Fr, Sem.runT_eq, h, doReturn])
theorem s_round_ret {f : FuncId} {l : Nat} {v : Value} {w' : World} {c : Frame} (h : (Instr.endRound l (some .ret)).run P w = .ok v w') :
    step P (lone (Fr ⟨f, some l⟩ tmps ds (.code .ret :: k)) (c :: cs) w) = .next (lone (c.finish v) cs w') :=
  step_lone_go (by simp [stepG, stepG.exec, Fr, Sem.runT_eq, h, doReturn])
theorem s_round_exit {f : FuncId} {l id : Nat} {v : Value} {w' : World} {c : Frame} (hx : exitTo id k = none) (h : (Instr.endRound l (some (.exit id))).run P w = .ok v w') :
    step P (lone (Fr ⟨f, some l⟩ tmps ds (.code (.exit id) :: k)) (c :: cs) w) = .next (lone (c.finish v) cs w') :=
  step_lone_go (by simp [stepG, stepG.exec, Fr, hx, Sem.runT_eq, h, doReturn])

theorem fold_size (l : List (Nat × Value)) : ∀ t : Array Value, (l.foldl (fun tmps (p : Nat × Value) => tmps.setIfInBounds p.1 p.2) t).size = t.size := by
  induction l with
  | nil => intro t; rfl
  | cons x l ih => intro t; rw [List.foldl_cons, ih]; simp

theorem setAll_sound {nt : Nat} : ∀ (ps : List Nat) (as as' : List Value) {ts ts' : Tr Value} {tmps : Array Value}, setAll ts ps as = some ts' → LR ρ as as' → TR ρ ts tmps → (∀ p, p ∈ ps → p < nt) → nt ≤ tmps.size →
    as'.length = ps.length ∧ TR ρ ts' ((ps.zip as').foldl (fun tmps (p : Nat × Value) => tmps.setIfInBounds p.1 p.2) tmps) := by
  intro ps
  induction ps with
  | nil =>
    intro as as' ts ts' tmps hs hl ht _ _
    cases as with
    | nil => rw [hl.inv_nil]; simp [setAll] at hs; subst hs; exact ⟨rfl, by simpa using ht⟩
    | cons _ _ => simp [setAll] at hs
  | cons p ps ih =>
    intro as as' ts ts' tmps hs hl ht hp hn
    cases as with
    | nil => simp [setAll] at hs
    | cons v as =>
      obtain ⟨v', l', rfl, e1, e2⟩ := hl.inv_cons
      simp only [setAll] at hs
      obtain ⟨q1, q2⟩ := ih as l' hs e2 (TR.put (d := some p) ht (fun x e => by cases e; exact Nat.lt_of_lt_of_le (hp _ (by simp)) hn) e1) (fun x hx => hp x (by simp [hx])) (by rw [putD_size]; exact hn)
      exact ⟨by simp [q1], q2⟩

theorem zip_fold (ps : Array Nat) (as : List Value) (tmps : Array Value) :
    (ps.zip as.toArray).foldl (fun tmps (t, a) => tmps.setIfInBounds t a) tmps = (ps.toList.zip as).foldl (fun tmps (p : Nat × Value) => tmps.setIfInBounds p.1 p.2) tmps := by
  rw [← Array.foldl_toList, Array.toList_zip]

noncomputable def roundV (C : CB) (lf : Nat) (l : Nat) (args : List Value) (h : AHeap) : Option (Value × AHeap) := match h.get l with
  | some (.loop r) => cond (Nat.beq r.st 0) (match setAll r.tmps r.params args with
    | none => none
    | some ts => match run C r.fn r.nt lf (some l) r.assign { ts, ms := [], h } with
      | some (.norm, s1) => match s1.h.get l with
        | some (.loop r1) => cond (Nat.beq r1.st 0) (match run C r.fn r.nt lf (some l) r.body { s1 with h := s1.h.put l (.loop { r1 with st := 1 }) } with
          | some (e, s2) => match s2.h.get l with
            | some (.loop r2) => match Jump.of e with
              | none => some (.bool true, s2.h.put l (.loop { r2 with st := 0, pending := none }))
              | some j => some (.bool false, s2.h.put l (.loop { r2 with st := 2, pending := some j }))
            | _ => none
          | none => none) none
        | _ => none
      | _ => none) none
  | _ => none

theorem round_sound {C : CB} (hC : CS P C) (hD : DrawS P C) {lf l : Nat} {bl : BI} {args args' : List Value} {v : Value} {h' : AHeap} (c : Frame) (cs : List Frame)
    (hv : roundV C lf l args h = some (v, h')) (hb : ρ l = some bl) (hl : LR ρ args args') (hr : HR P ρ h w) :
    ∃ ρ' w' v' f tmps a b w1, (Instr.yield bl.blk args'.toArray).run P w = .ok (.round bl.blk f tmps a b) w1 ∧ Steps P (lone (Frame.round bl.blk f tmps a b .normal) (c :: cs) w1) (lone (c.finish v') cs w') ∧
      VR ρ' v v' ∧ HR P ρ' h' w' ∧ Stp h ρ w h' ρ' w' := by
  unfold roundV at hv
  split at hv
  · rename_i r hr0
    obtain ⟨r', hs, e2, e3⟩ := run_loop_get hr hr0 hb
    obtain ⟨_, hv⟩ := cond_some hv
    split at hv
    · cases hv
    · rename_i ts hts
      obtain ⟨t1, t2⟩ := setAll_sound r.params args args' hts hl e3.tmps e3.okp e3.nt
      have hsz : args'.toArray.size = r'.params.size := by
        rw [e3.params] at t1
        simpa using t1
      have hy := run_yield (P := P) (args := args'.toArray) e2 hsz
      rw [zip_fold, ← e3.params] at hy
      have hsize : r.nt ≤ ((r.params.zip args').foldl (fun tmps (p : Nat × Value) => tmps.setIfInBounds p.1 p.2) r'.tmps).size := by
        rw [fold_size]; exact e3.nt
      rw [e3.fn] at hv
      split at hv
      · rename_i s1 hrun1
        obtain ⟨ρ1, tmps1, ds1, w1, g1, sr1, st1⟩ := code_sound hC hD (lf := lf) r'.assign r.assign e3.assign ⟨r'.fn, some bl.blk⟩ (some l) [.beginRound, .code r'.body] (c :: cs) ρ _ s1 .norm _ [] w hrun1 ⟨⟨t2, hr⟩, hsize, .nil, .some hb hs⟩
        have hb1 := st1.ext _ _ hb
        split at hv
        · rename_i r1 hr1
          obtain ⟨r1', _, f2, f3⟩ := run_loop_get sr1.cx.hr hr1 hb1
          obtain ⟨hst, hv⟩ := cond_some hv
          have hst0 := Nat.eq_of_beq_eq_true hst
          have hready : r1'.state = .ready := by
            have := f3.st
            rw [hst0] at this
            cases hh : r1'.state <;> rw [hh] at this <;> simp at this ⊢
          obtain ⟨w2, b1, b2, b3⟩ : ∃ w2, (Instr.beginRound bl.blk).run P w1 = .ok () w2 ∧ HR P ρ1 (s1.h.put l (.loop { r1 with st := 1 })) w2 ∧ Stp s1.h ρ1 w1 (s1.h.put l (.loop { r1 with st := 1 })) ρ1 w2 :=
            ⟨_, run_beginRound f2 hready, put_sound (ob := .loop { r1 with st := 1 }) (ob' := .loop { r1' with state := .busy }) sr1.cx.hr (by rw [hr1]; rfl) hb1 (.loop hs { st := rfl, pending := f3.pending, fn := f3.fn, nt := f3.nt, tmps := f3.tmps, params := f3.params, okp := f3.okp, assign := f3.assign, body := f3.body, dfr := f3.dfr })
              (w' := w1.putObj bl.blk (.loop { r1' with state := .busy })) rfl rfl rfl rfl⟩
          split at hv
          · rename_i e s2 hrun2
            obtain ⟨ρ2, tmps2, ds2, w3, g2, sr2, st2⟩ := code_sound hC hD (lf := lf) r'.body r.body e3.body ⟨r'.fn, some bl.blk⟩ (some l) [] (c :: cs) ρ1 _ s2 e _ ds1 w2 hrun2 ⟨⟨sr1.cx.tr, b2⟩, sr1.size, sr1.ms, sr1.rnd⟩
            have hb2 := st2.ext _ _ hb1
            have steps0 : Steps P (lone (Frame.round bl.blk r'.fn ((r.params.zip args').foldl (fun tmps (p : Nat × Value) => tmps.setIfInBounds p.1 p.2) r'.tmps) r'.assign r'.body .normal) (c :: cs) w)
                (lone (Fr ⟨r'.fn, some bl.blk⟩ tmps1 ds1 [.code r'.body]) (c :: cs) w2) := Steps.trans g1 (.one (s_begin b1))
            split at hv
            · rename_i r2 hr2
              obtain ⟨r2', _, k2, k3⟩ := run_loop_get sr2.cx.hr hr2 hb2
              have fin : ∀ (j : Option Jump) (st : Nat), st = (match (if j.isNone then LoopState.ready else .done) with | .ready => 0 | .busy => 1 | .done => 2 | .exhausted => 3) →
                  ∃ w4, (Instr.endRound bl.blk (j.map Jump.code)).run P w3 = .ok (.bool j.isNone) w4 ∧ HR P ρ2 (s2.h.put l (.loop { r2 with st, pending := j })) w4 ∧ Stp s2.h ρ2 w3 (s2.h.put l (.loop { r2 with st, pending := j })) ρ2 w4 := by
                intro j st hst
                refine ⟨w3.putObj bl.blk (.loop { r2' with state := if j.isNone then .ready else .done, pending := j.map Jump.code }), by rw [run_endRound (P := P) (j.map Jump.code) k2]; cases j <;> rfl, put_sound (ob := .loop { r2 with st, pending := j }) (ob' := .loop { r2' with state := if j.isNone then .ready else .done, pending := j.map Jump.code }) (w' := w3.putObj bl.blk (.loop { r2' with state := if j.isNone then .ready else .done, pending := j.map Jump.code })) sr2.cx.hr (by rw [hr2]; rfl) hb2 (.loop hs { st := ?_, pending := rfl, fn := k3.fn, nt := k3.nt, tmps := k3.tmps, params := k3.params, okp := k3.okp, assign := k3.assign, body := k3.body, dfr := k3.dfr }) rfl rfl rfl rfl⟩
                rw [hst]; cases j <;> rfl
              have stp := (st1.trans b3).trans st2
              cases e with
              | norm =>
                simp only [Jump.of] at hv
                cases hv
                obtain ⟨w4, p1, p2, p3⟩ := fin none 0 rfl
                exact ⟨ρ2, w4, _, _, _, _, _, _, hy, (steps0.trans g2).trans (.one (s_round_end p1)), .bool true, p2, stp.trans p3⟩
              | exit id =>
                simp only [Jump.of] at hv
                cases hv
                obtain ⟨w4, p1, p2, p3⟩ := fin (some (.exit id)) 2 rfl
                obtain ⟨k0, x1, x2⟩ := g2
                exact ⟨ρ2, w4, _, _, _, _, _, _, hy, (steps0.trans x2).trans (.one (s_round_exit x1 p1)), .bool false, p2, stp.trans p3⟩
              | ret =>
                simp only [Jump.of] at hv
                cases hv
                obtain ⟨w4, p1, p2, p3⟩ := fin (some .ret) 2 rfl
                obtain ⟨k0, x2⟩ := g2
                exact ⟨ρ2, w4, _, _, _, _, _, _, hy, (steps0.trans x2).trans (.one (s_round_ret p1)), .bool false, p2, stp.trans p3⟩
            · cases hv
          · cases hv
        · cases hv
      · cases hv
  · cases hv

theorem lvl_sound {F : Nat → Option IFunc} (hF : ∀ f fn, F f = some fn → cFunc P f = some fn) {X : Nat → List Value → AHeap → Option (Value × AHeap)} (hX : XS P X) (hD : ∀ C, CS P C → DrawS P C) (lf : Nat) :
    ∀ n, CS P (lvl F X lf n) := by
  intro n
  induction n with
  | zero =>
    constructor
    · intro ρ h w f args args' v h' c cs hv; cases hv
    · intro ρ h w l bl args args' v h' c cs hv; cases hv
  | succ n ih =>
    constructor
    · intro ρ h w f args args' v h' c cs hv hl hr
      have hv' : (match X f args h with
        | some r => some r
        | none => bodyV F (lvl F X lf n) lf f args h) = some (v, h') := hv
      split at hv'
      · rename_i r hx
        cases hv'
        exact hX c cs hx hl hr
      · obtain ⟨ρ', w', v', fr, q1, q2, q3, q4, q5, q6, q7⟩ := body_sound hF ih (hD _ ih) hv' hl hr (c :: cs)
        exact ⟨ρ', w', v', q1, q2.trans (.one (step_leave_returned q4)), q5, q6, q7⟩
    · intro ρ h w l bl args args' v h' c cs hv hb _ hl hr
      exact round_sound ih (hD _ ih) c cs hv hb hl hr

end
end Go.Dv

/- Drawn regions: values alike, and operations at the same operands. -/
namespace Go.Dv

theorem all2_eq {f : Value → Value → Bool} (hf : ∀ a b, f a b = true → a = b) : ∀ (x y : List Value), all2 f x y = true → x = y := by
  intro x
  induction x with
  | nil => intro y h; cases y with
    | nil => rfl
    | cons _ _ => cases h
  | cons a x ih => intro y h; cases y with
    | nil => cases h
    | cons b y =>
      simp only [all2, Bool.and_eq_true] at h
      rw [hf a b h.1, ih y h.2]

theorem toList_eq {a b : Array Value} (h : a.toList = b.toList) : a = b := Array.ext' h

theorem cond_some' {b c : Bool} (h : cond b c false = true) : b = true ∧ c = true := by cases b <;> simp_all

theorem sameV_eq (n : Nat) : ∀ (a b : Value), sameV n a b = true → a = b := by
  induction n with
  | zero => intro a b h; cases h
  | succ n ih =>
    intro a b h
    have hl : ∀ {x y : Array Value}, all2 (sameV n) x.toList y.toList = true → x = y := fun h => toList_eq (all2_eq ih _ _ h)
    have hn : ∀ {x y : Nat}, Nat.beq x y = true → x = y := fun h => Nat.eq_of_beq_eq_true h
    unfold sameV at h
    split at h
    · simp at h; rw [h]
    · rename_i k x k' y
      obtain ⟨h1, h2⟩ := cond_some' h
      have h1' : k = k' := by simpa using h1
      have h2' : x = y := by simpa using h2
      rw [h1', h2']
    · rename_i x y
      rw [sameBytes_eq] at h
      have : x.data.toList = y.data.toList := by simpa using h
      have h3 := Array.ext' this
      cases x; cases y; simp at h3; rw [h3]
    · rfl
    · simp only [Bool.and_eq_true] at h; rw [hn h.1, hn h.2]
    · simp only [Bool.and_eq_true] at h; rw [hn h.1, hn h.2]
    · simp only [Bool.and_eq_true] at h; rw [hn h.1.1.1, hn h.1.1.2, hn h.1.2, hn h.2]
    · rfl
    · rw [hn h]
    · rfl
    · simp only [Bool.and_eq_true] at h; rw [hn h.1.1, hl h.1.2, hl h.2]
    · simp only [Bool.and_eq_true] at h; rw [hn h.1, ih _ _ h.2]
    · rfl
    · rw [hl h]
    · rw [hl h]
    · cases h

theorem evs_congr {ts ts' : Tr Value} (l : List Opd) (h : ∀ x, x ∈ l → ev ts x = ev ts' x) : evs ts l = evs ts' l := by
  induction l with
  | nil => rfl
  | cons x l ih => simp only [evs, h x (by simp), ih (fun y hy => h y (by simp [hy]))]

theorem fillL_congr {ts ts' : Tr Value} (l : List (Nat × Nat × Opd)) : ∀ (cs : List Value), (∀ x, x ∈ l.map (·.2.2) → ev ts x = ev ts' x) → fillL ts cs l = fillL ts' cs l := by
  induction l with
  | nil => intro cs _; rfl
  | cons p l ih =>
    intro cs h
    obtain ⟨off, size, x⟩ := p
    simp only [fillL, h x (by simp)]
    split
    · rfl
    · rw [ih _ (fun y hy => h y (by simp at hy ⊢; exact .inr hy))]

theorem evo_congr {ts ts' : Tr Value} (x : Option Opd) (h : ∀ y, y ∈ x.toList → ev ts y = ev ts' y) : evo ts x = evo ts' x := by
  cases x with
  | none => rfl
  | some x => simp only [evo, h x (by simp)]

theorem rdV_congr {ts ts' : Tr Value} (h : AHeap) (o : IOp) (hk : ∀ x, x ∈ opds o → ev ts x = ev ts' x) : rdV h ts o = rdV h ts' o := by
  cases o <;> simp only [opds] at hk <;> simp only [rdV] <;> try rfl
  case mkFunc fn a b => rw [evs_congr a (fun x hx => hk x (by simp [hx])), evs_congr b (fun x hx => hk x (by simp [hx]))]
  case build z ps => rw [fillL_congr ps z hk]
  case slice k x lo hi mx =>
    rw [hk x (by simp), evo_congr lo (fun y hy => hk y (by simp [hy])), evo_congr hi (fun y hy => hk y (by simp [hy])), evo_congr mx (fun y hy => hk y (by simp [hy]))]
  case pick x y z => rw [hk x (by simp), hk y (by simp), hk z (by simp)]
  all_goals first
    | (rename_i x y; rw [hk x (by simp), hk y (by simp)])
    | rw [hk _ (by simp)]

theorem mkV_congr {ts ts' : Tr Value} (o : IOp) (hk : ∀ x, x ∈ opds o → ev ts x = ev ts' x) : mkV ts o = mkV ts' o := by
  cases o <;> simp only [opds] at hk <;> simp only [mkV] <;> try rfl
  case buildSlice len es et z ps => rw [fillL_congr ps _ hk]
  all_goals first
    | (rename_i x y; rw [hk x (by simp), hk y (by simp)])
    | rw [hk _ (by simp)]

theorem efV_congr (C : CB) {ts ts' : Tr Value} (h : AHeap) (o : IOp) (hk : ∀ x, x ∈ opds o → ev ts x = ev ts' x) : efV C ts h o = efV C ts' h o := by
  cases o <;> simp only [opds] at hk <;> simp only [efV] <;> try rfl
  case mapUpd keys x y z => rw [hk x (by simp), hk y (by simp), hk z (by simp)]
  case call f as => rw [hk f (by simp), evs_congr as (fun x hx => hk x (by simp [hx]))]
  all_goals first
    | (rename_i x y; rw [hk x (by simp), hk y (by simp)])
    | rw [hk _ (by simp)]

theorem rdV_looks {ts : Tr Value} (h h' : AHeap) (o : IOp) (hl : looks o = false) : rdV h ts o = rdV h' ts o := by
  cases o <;> first | rfl | cases hl

end Go.Dv

/- Drawn regions: what the plan says. -/
namespace Go.Dv

theorem testBit_lor (a b i : Nat) : (Nat.lor a b).testBit i = (a.testBit i || b.testBit i) := Nat.testBit_or a b i

theorem testBit_one (d i : Nat) : (Nat.shiftLeft 1 d).testBit i = true ↔ i = d := by
  have : Nat.shiftLeft 1 d = 2 ^ d := by
    show 1 <<< d = 2 ^ d
    rw [Nat.shiftLeft_eq, Nat.one_mul]
  rw [this, Nat.testBit_two_pow]
  constructor
  · intro h; exact (of_decide_eq_true h).symm
  · intro h; exact decide_eq_true h.symm

theorem maskOf_spec (acc : Tr Nat) : ∀ (l : List Nat) (m : Nat), maskOf acc l = some m → (∀ d, d ∈ l → (acc.get d).isSome = true) ∧
    ∀ b, m.testBit b = true → ∃ d, d ∈ l ∧ (b = d ∨ ∃ md, acc.get d = some md ∧ md.testBit b = true) := by
  intro l
  induction l with
  | nil => intro m h; simp [maskOf] at h; subst h; simp
  | cons d l ih =>
    intro m h
    simp only [maskOf] at h
    split at h
    · rename_i md r h1 h2
      cases h
      obtain ⟨i1, i2⟩ := ih r h2
      refine ⟨?_, ?_⟩
      · intro x hx
        simp at hx
        rcases hx with rfl | hx
        · rw [h1]; rfl
        · exact i1 x hx
      · intro b hb
        rw [testBit_lor, testBit_lor] at hb
        simp only [Bool.or_eq_true] at hb
        rcases hb with (hb | hb) | hb
        · exact ⟨d, by simp, .inl ((testBit_one _ _).1 hb)⟩
        · exact ⟨d, by simp, .inr ⟨md, h1, hb⟩⟩
        · obtain ⟨x, hx, h3⟩ := i2 b hb
          exact ⟨x, by simp [hx], h3⟩
    · cases h

noncomputable def mAt (i : Nat) (acc : Tr Nat) (its : List PIt) (d : Nat) : Option Nat := if d < i then acc.get d else (its[d - i]?).map (·.m)

theorem items_spec : ∀ (l : List IOper) (i : Nat) (acc : Tr Nat) (its : List PIt), itemsOf i l acc = some its → (∀ d, i ≤ d → acc.get d = none) →
    its.length = l.length ∧ ∀ (k : Nat) (x : PIt), its[k]? = some x → x.i = i + k ∧ l[k]? = some x.o ∧ (∀ d, d ∈ x.o.after → d < i + k) ∧
      ∀ b, x.m.testBit b = true → ∃ d, d ∈ x.o.after ∧ (b = d ∨ ∃ md, mAt i acc its d = some md ∧ md.testBit b = true) := by
  intro l
  induction l with
  | nil => intro i acc its h _; simp [itemsOf] at h; subst h; simp
  | cons o l ih =>
    intro i acc its h hacc
    simp only [itemsOf] at h
    split at h
    · cases h
    · rename_i m hm
      split at h
      · rename_i r hr
        cases h
        obtain ⟨m1, m2⟩ := maskOf_spec acc _ _ hm
        have hbelow : ∀ d, (acc.get d).isSome = true → d < i := by
          intro d hd
          rcases Nat.lt_or_ge d i with h | h
          · exact h
          · rw [hacc d h] at hd; cases hd
        obtain ⟨e1, e2⟩ := ih (i + 1) _ r hr (by
          intro d hd
          rw [Tr.get_set, if_neg (by omega)]
          exact hacc d (by omega))
        have hM : ∀ d, mAt (i + 1) (acc.set i (some m)) r d = mAt i acc (⟨i, o, m⟩ :: r) d := by
          intro d
          unfold mAt
          by_cases h1 : d < i
          · rw [if_pos (by omega), if_pos h1, Tr.get_set, if_neg (by omega)]
          · by_cases h2 : d = i
            · subst h2
              rw [if_pos (by omega), if_neg h1, Tr.get_set, if_pos rfl]
              simp
            · rw [if_neg (by omega), if_neg h1, show d - i = (d - (i + 1)) + 1 by omega]
              simp
        refine ⟨by simp [e1], ?_⟩
        intro k x hk
        cases k with
        | zero =>
          simp at hk
          subst hk
          refine ⟨rfl, rfl, fun d hd => hbelow d (m1 d hd), ?_⟩
          intro b hb
          obtain ⟨d, hd, h3⟩ := m2 b hb
          refine ⟨d, hd, ?_⟩
          rcases h3 with h3 | ⟨md, h4, h5⟩
          · exact .inl h3
          · refine .inr ⟨md, ?_, h5⟩
            unfold mAt
            rw [if_pos (hbelow d (by rw [h4]; rfl)), h4]
        | succ k =>
          simp at hk
          obtain ⟨f1, f2, f3, f4⟩ := e2 k x hk
          refine ⟨by omega, by simpa using f2, fun d hd => by have := f3 d hd; omega, ?_⟩
          intro b hb
          obtain ⟨d, hd, h3⟩ := f4 b hb
          refine ⟨d, hd, ?_⟩
          rw [← hM]
          exact h3
      · cases h

theorem pairs_spec : ∀ (l : List PIt), pairsOk l = true → ∀ (a b : Nat) (x y : PIt), a < b → l[a]? = some x → l[b]? = some y → pairOk x y = true := by
  intro l
  induction l with
  | nil => intro _ a b x y _ h; simp at h
  | cons z l ih =>
    intro h a b x y hab hx hy
    simp only [pairsOk, Bool.and_eq_true] at h
    cases b with
    | zero => omega
    | succ b =>
      simp at hy
      cases a with
      | zero =>
        simp at hx
        subst hx
        exact List.all_eq_true.1 h.1 y (List.mem_of_getElem? hy)
      | succ a =>
        simp at hx
        exact ih h.2 a b x y (by omega) hx hy

theorem looses_spec : ∀ (l : List PIt) (a b : Nat) (x y : PIt), a < b → l[a]? = some x → l[b]? = some y → ∀ p, p ∈ loosePair x y → p ∈ looses l := by
  intro l
  induction l with
  | nil => intro a b x y _ h; simp at h
  | cons z l ih =>
    intro a b x y hab hx hy p hp
    simp only [looses, List.mem_append]
    cases b with
    | zero => omega
    | succ b =>
      simp at hy
      cases a with
      | zero =>
        simp at hx
        subst hx
        left
        rw [List.mem_flatten]
        exact ⟨loosePair z y, List.mem_map.2 ⟨y, List.mem_of_getElem? hy, rfl⟩, hp⟩
      | succ a =>
        simp at hx
        exact .inr (ih a b x y (by omega) hx hy p hp)

theorem mks_spec {all : List PIt} {m seen a : Nat} (h : a ∈ mks all m seen) : ∃ y, y ∈ all ∧ y.i = a ∧ isMk y.o.op = true ∧ m.testBit a = true ∧ seen.testBit a = false := by
  unfold mks at h
  obtain ⟨y, hy, rfl⟩ := List.mem_map.1 h
  obtain ⟨h1, h2⟩ := List.mem_filter.1 hy
  simp only [Bool.and_eq_true, Bool.not_eq_true'] at h2
  exact ⟨y, h1, rfl, h2.1, h2.2.1, h2.2.2⟩

theorem insOf_spec (all : List PIt) : ∀ (l : List PIt) (seen : Nat), (insOf all l seen).length = l.length ∧
    ∀ (k : Nat) (x : PIt), l[k]? = some x → ∃ ins, (insOf all l seen)[k]? = some ins ∧ (isEf x.o.op = false → ins = []) ∧ (ins.Nodup ∨ ¬ (all.map (·.i)).Nodup) ∧
      ∀ a, a ∈ ins → (∃ y, y ∈ all ∧ y.i = a ∧ isMk y.o.op = true) ∧ x.m.testBit a = true ∧ seen.testBit a = false ∧ ∀ (k' : Nat) (y : PIt), k' < k → l[k']? = some y → isEf y.o.op = true → y.m.testBit a = false := by
  intro l
  induction l with
  | nil => intro seen; simp [insOf]
  | cons z l ih =>
    intro seen
    cases he : isEf z.o.op with
    | true =>
      obtain ⟨e1, e2⟩ := ih (Nat.lor seen z.m)
      simp only [insOf, he, cond_true]
      refine ⟨congrArg (· + 1) e1, ?_⟩
      intro k x hk
      cases k with
      | zero =>
        simp at hk
        subst hk
        refine ⟨_, rfl, fun h => absurd (he.symm.trans h) (by simp), ?_, ?_⟩
        · by_cases hn : (all.map (·.i)).Nodup
          · left
            exact List.Nodup.sublist (List.Sublist.map _ List.filter_sublist) hn
          · exact .inr hn
        · intro a ha
          obtain ⟨y, y1, y2, y3, y4, y5⟩ := mks_spec ha
          exact ⟨⟨y, y1, y2, y3⟩, y4, y5, fun k' y h => by omega⟩
      | succ k =>
        simp at hk
        obtain ⟨ins, f1, f2, f3, f4⟩ := e2 k x hk
        refine ⟨ins, by simpa using f1, f2, f3, ?_⟩
        intro a ha
        obtain ⟨g1, g2, g3, g4⟩ := f4 a ha
        rw [testBit_lor] at g3
        simp only [Bool.or_eq_false_iff] at g3
        refine ⟨g1, g2, g3.1, ?_⟩
        intro k' y hk' hy hey
        cases k' with
        | zero => simp at hy; subst hy; exact g3.2
        | succ k' => simp at hy; exact g4 k' y (by omega) hy hey
    | false =>
      obtain ⟨e1, e2⟩ := ih seen
      simp only [insOf, he, cond_false]
      refine ⟨congrArg (· + 1) e1, ?_⟩
      intro k x hk
      cases k with
      | zero => simp at hk; subst hk; exact ⟨[], rfl, fun _ => rfl, .inl List.nodup_nil, by simp⟩
      | succ k =>
        simp at hk
        obtain ⟨ins, f1, f2, f3, f4⟩ := e2 k x hk
        refine ⟨ins, by simpa using f1, f2, f3, ?_⟩
        intro a ha
        obtain ⟨g1, g2, g3, g4⟩ := f4 a ha
        refine ⟨g1, g2, g3, ?_⟩
        intro k' y hk' hy hey
        cases k' with
        | zero => simp at hy; subst hy; rw [he] at hey; cases hey
        | succ k' => simp at hy; exact g4 k' y (by omega) hy hey

theorem restOf_spec (all : List PIt) : ∀ (l : List PIt) (seen : Nat), ((restOf all l seen).Nodup ∨ ¬ (all.map (·.i)).Nodup) ∧
    ∀ a, a ∈ restOf all l seen → (∃ y, y ∈ all ∧ y.i = a ∧ isMk y.o.op = true) ∧ seen.testBit a = false ∧ ∀ y, y ∈ l → isEf y.o.op = true → y.m.testBit a = false := by
  intro l
  induction l with
  | nil =>
    intro seen
    simp only [restOf]
    refine ⟨?_, ?_⟩
    · by_cases hn : (all.map (·.i)).Nodup
      · left
        exact List.Nodup.sublist (List.Sublist.map _ List.filter_sublist) hn
      · exact .inr hn
    · intro a ha
      obtain ⟨y, hy, rfl⟩ := List.mem_map.1 ha
      obtain ⟨h1, h2⟩ := List.mem_filter.1 hy
      simp only [Bool.and_eq_true, Bool.not_eq_true'] at h2
      exact ⟨⟨y, h1, rfl, h2.1⟩, h2.2, by simp⟩
  | cons z l ih =>
    intro seen
    cases he : isEf z.o.op with
    | true =>
      simp only [restOf, he, cond_true]
      obtain ⟨e1, e2⟩ := ih (Nat.lor seen z.m)
      refine ⟨e1, ?_⟩
      intro a ha
      obtain ⟨g1, g2, g3⟩ := e2 a ha
      rw [testBit_lor] at g2
      simp only [Bool.or_eq_false_iff] at g2
      refine ⟨g1, g2.1, ?_⟩
      intro y hy hey
      simp at hy
      rcases hy with rfl | hy
      · exact g2.2
      · exact g3 y hy hey
    | false =>
      simp only [restOf, he, cond_false]
      obtain ⟨e1, e2⟩ := ih seen
      refine ⟨e1, ?_⟩
      intro a ha
      obtain ⟨g1, g2, g3⟩ := e2 a ha
      refine ⟨g1, g2, ?_⟩
      intro y hy hey
      simp at hy
      rcases hy with rfl | hy
      · rw [he] at hey; cases hey
      · exact g3 y hy hey

theorem runD_spec (C : CB) (base : Nat) : ∀ (l : List IOper) (i : Nat) (as : List (List Nat)) (s : DSt) (sts : List DSt), runD C base i l as s = some sts →
    sts.length = l.length + 1 ∧ sts[0]? = some s ∧ ∀ (k : Nat) (o : IOper), l[k]? = some o → ∃ ins t t', as[k]? = some ins ∧ sts[k]? = some t ∧ sts[k + 1]? = some t' ∧ stepD C base (i + k) o ins t = some t' := by
  intro l
  induction l with
  | nil => intro i as s sts h; simp [runD] at h; subst h; simp
  | cons o l ih =>
    intro i as s sts h
    cases as with
    | nil => simp [runD] at h
    | cons ins as =>
      simp only [runD] at h
      split at h
      · rename_i s' hs
        split at h
        · rename_i ss hss
          cases h
          obtain ⟨e1, e2, e3⟩ := ih (i + 1) as s' ss hss
          refine ⟨by simp [e1], rfl, ?_⟩
          intro k x hk
          cases k with
          | zero => simp at hk; subst hk; exact ⟨ins, s, s', rfl, rfl, by simpa using e2, hs⟩
          | succ k =>
            simp at hk
            obtain ⟨ins', t, t', f1, f2, f3, f4⟩ := e3 k x hk
            exact ⟨ins', t, t', by simpa using f1, by simpa using f2, by simpa using f3, by rw [show i + (k + 1) = i + 1 + k by omega]; exact f4⟩
        · cases h
      · cases h

theorem loose_spec {ops : List IOper} {sts : List DSt} : ∀ (l : List (Nat × Nat)), looseOk ops sts l = true → ∀ (i e : Nat), (i, e) ∈ l → ∃ o s s' t t', ops[i]? = some o ∧ sts[i]? = some s ∧ sts[i + 1]? = some s' ∧ sts[e]? = some t ∧ sts[e + 1]? = some t' ∧
    (s'.on = true → rdV t.h s.ts o.op = some s'.v ∧ rdV t'.h s.ts o.op = some s'.v) := by
  intro l
  induction l with
  | nil => intro _ i e h; simp at h
  | cons p l ih =>
    intro h i e hm
    obtain ⟨i', e'⟩ := p
    simp only [looseOk, nth_eq] at h
    split at h
    · rename_i o s s' t t' h1 h2 h3 h4 h5
      simp only [Bool.and_eq_true] at h
      simp at hm
      rcases hm with ⟨rfl, rfl⟩ | hm
      · refine ⟨o, s, s', t, t', h1, h2, h3, h4, h5, ?_⟩
        intro hon
        have := h.1
        simp only [hon, Bool.not_true, Bool.false_or, Bool.and_eq_true] at this
        have key : ∀ x : Option Value, sameO x s'.v = true → x = some s'.v := by
          intro x hx
          cases x with
          | none => cases hx
          | some x => rw [sameV_eq _ _ _ hx]
        exact ⟨key _ this.1, key _ this.2⟩
      · exact ih h.2 i e hm
    · cases h

end Go.Dv

/- Drawn regions: one operation, in whatever order. -/
namespace Go.Dv

section
variable {P : Program} {ρ ρ0 : Ren} {h h0 : AHeap} {w w0 : World}

theorem ins1 (hr : HR P ρ h w) (hs : Stp h0 ρ0 w0 h ρ w) {b : Nat} {bi : BI} {ob : AObj} {ob' : Obj} (hb : ρ b = some bi) (hge : w0.heap.size ≤ bi.blk) (hw : w.heap[bi.blk]? = some ob') (ho : OR P ρ bi ob ob')
    (hd : ∀ c x, (h.get c).isSome = true → ρ c = some x → x.blk ≠ bi.blk) : HR P ρ (h.put b ob) w ∧ Stp h0 ρ0 w0 (h.put b ob) ρ w := by
  refine ⟨⟨?_, ?_, hr.bnd, hr.glob⟩, ⟨hs.ext, ?_, hs.size, hs.frame, hs.tape, hs.os, hs.out, hs.next, hs.old, hs.froz⟩⟩
  · intro c o hc
    rw [get_put] at hc
    split at hc
    · rename_i e
      cases hc
      exact ⟨bi, ob', e ▸ hb, hw, ho⟩
    · exact hr.obj c o hc
  · intro c d x y hc hd' hx hy e
    rw [get_put] at hc hd'
    by_cases ec : c = b
    · by_cases ed : d = b
      · rw [ec, ed]
      · rw [if_neg ed] at hd'
        rw [ec, hb] at hx
        cases hx
        exact absurd e.symm (hd d y hd' hy)
    · rw [if_neg ec] at hc
      by_cases ed : d = b
      · rw [ed, hb] at hy
        cases hy
        exact absurd e (hd c x hc hx)
      · rw [if_neg ed] at hd'
        exact hr.inj c d x y hc hd' hx hy e
  · intro c x hc hx
    rw [get_put] at hc
    by_cases ec : c = b
    · rw [ec, hb] at hx
      cases hx
      exact .inl hge
    · rw [if_neg ec] at hc
      exact hs.live c x hc hx

/-- what has been made and is not yet in the heap -/
def Pend (P : Program) (ρ : Ren) (h : AHeap) (w0 w : World) (b : Nat) (ob : AObj) : Prop :=
  ∃ bi ob', ρ b = some bi ∧ w0.heap.size ≤ bi.blk ∧ w.heap[bi.blk]? = some ob' ∧ OR P ρ bi ob ob' ∧ ∀ c x, (h.get c).isSome = true → ρ c = some x → x.blk ≠ bi.blk

theorem ins_sound {base n : Nat} {mds : Tr AObj} (hinj : ∀ a b x y, a < n → b < n → a ≠ b → ρ (base + a) = some x → ρ (base + b) = some y → x.blk ≠ y.blk) : ∀ (as : List Nat) {h : AHeap}, HR P ρ h w → Stp h0 ρ0 w0 h ρ w → as.Nodup → (∀ a, a ∈ as → a < n) →
    (∀ a, a ∈ as → ∀ ob, mds.get a = some ob → Pend P ρ h w0 w (base + a) ob) →
    HR P ρ (insL base mds as h) w ∧ Stp h0 ρ0 w0 (insL base mds as h) ρ w ∧ (insL base mds as h).next = h.next ∧ ∀ c, ((insL base mds as h).get c).isSome = true → (h.get c).isSome = true ∨ ∃ a, a ∈ as ∧ c = base + a := by
  intro as
  induction as with
  | nil => intro h hr hs _ _ _; exact ⟨hr, hs, rfl, fun c hc => .inl hc⟩
  | cons a as ih =>
    intro h hr hs hn hlt hp
    simp only [insL]
    rw [List.nodup_cons] at hn
    cases hm : mds.get a with
    | none =>
      obtain ⟨e1, e2, e3, e4⟩ := ih hr hs hn.2 (fun x hx => hlt x (by simp [hx])) (fun x hx => hp x (by simp [hx]))
      refine ⟨e1, e2, e3, fun c hc => ?_⟩
      rcases e4 c hc with k | ⟨x, hx, e⟩
      · exact .inl k
      · exact .inr ⟨x, by simp [hx], e⟩
    | some ob =>
      obtain ⟨bi, ob', p1, p2, p3, p4, p5⟩ := hp a (by simp) ob hm
      obtain ⟨q1, q2⟩ := ins1 hr hs p1 p2 p3 p4 p5
      obtain ⟨e1, e2, e3, e4⟩ := ih q1 q2 hn.2 (fun x hx => hlt x (by simp [hx])) (by
        intro x hx o ho
        obtain ⟨bj, oj, r1, r2, r3, r4, r5⟩ := hp x (by simp [hx]) o ho
        refine ⟨bj, oj, r1, r2, r3, r4, ?_⟩
        intro c y hc hy
        rw [get_put] at hc
        by_cases ec : c = base + a
        · rw [ec] at hy
          exact hinj a x y bj (hlt a (by simp)) (hlt x (by simp [hx])) (by rintro rfl; exact hn.1 hx) hy r1
        · rw [if_neg ec] at hc
          exact r5 c y hc hy)
      refine ⟨e1, e2, e3, fun c hc => ?_⟩
      rcases e4 c hc with k | ⟨x, hx, e⟩
      · rw [get_put] at k
        by_cases ec : c = base + a
        · exact .inr ⟨a, by simp, ec⟩
        · rw [if_neg ec] at k; exact .inl k
      · exact .inr ⟨x, by simp [hx], e⟩

end

/-- what the plan and the run in the text's order say -/
structure DF (P : Program) (C : CB) (nt : Nat) (ops : Array Oper) (n base : Nat) (O : Nat → IOper) (M : Nat → Nat) (I : Nat → List Nat) (S : Nat → DSt) (rest : List Nat) (ts0 : Tr Value) : Prop where
  len : ops.size = n
  oper : ∀ k, k < n → ∃ o, ops[k]? = some o ∧ cOper P nt ops o = some (O k)
  step : ∀ k, k < n → stepD C base k (O k) (I k) (S k) = some (S (k + 1))
  ts : (S 0).ts = ts0
  mds : (S 0).mds = .nil
  aft : ∀ k, k < n → ∀ d, d ∈ (O k).after → d < k
  bits : ∀ k, k < n → ∀ b, (M k).testBit b = true → ∃ d, d ∈ (O k).after ∧ (b = d ∨ (M d).testBit b = true)
  pair : ∀ a b, a < b → b < n → pairOk ⟨a, O a, M a⟩ ⟨b, O b, M b⟩ = true
  loose : ∀ i e, i < n → e < n → i ≠ e → looks (O i).op = true → isEf (O e).op = true → (i < e → (M e).testBit i = false) → (e < i → (M i).testBit e = false) → (S (i + 1)).on = true →
    rdV (S e).h (S i).ts (O i).op = some (S (i + 1)).v ∧ rdV (S (e + 1)).h (S i).ts (O i).op = some (S (i + 1)).v
  ins0 : ∀ k, k < n → isEf (O k).op = false → I k = []
  nodup : ∀ k, k < n → (I k).Nodup
  ins : ∀ k, k < n → ∀ a, a ∈ I k → a < n ∧ (M k).testBit a = true ∧ ∀ e, e < k → isEf (O e).op = true → (M e).testBit a = false
  rnodup : rest.Nodup
  rest : ∀ a, a ∈ rest → a < n ∧ ∀ e, e < n → isEf (O e).op = true → (M e).testBit a = false

section
variable {P : Program} {C : CB} {nt : Nat} {ops : Array Oper} {n base : Nat} {O : Nat → IOper} {M : Nat → Nat} {I : Nat → List Nat} {S : Nat → DSt} {rest : List Nat} {ts0 : Tr Value}

theorem DF.tsS (f : DF P C nt ops n base O M I S rest ts0) {k : Nat} (hk : k < n) : (S (k + 1)).ts = setD (S k).ts (O k).dst (S (k + 1)).v := by
  have := f.step k hk
  unfold stepD at this
  split at this
  · cases this
  · injection this with this; rw [← this]
  · cases he : isEf (O k).op with
    | true =>
      rw [he] at this
      simp only [cond_true] at this
      split at this
      · injection this with this; rw [← this]
      · cases this
    | false =>
      rw [he] at this
      simp only [cond_false] at this
      cases hm : isMk (O k).op with
      | true =>
        rw [hm] at this
        simp only [cond_true] at this
        split at this
        · injection this with this; rw [← this]
        · cases this
      | false =>
        rw [hm] at this
        simp only [cond_false] at this
        split at this
        · injection this with this; rw [← this]
        · cases this

theorem DF.heapS (f : DF P C nt ops n base O M I S rest ts0) {k : Nat} (hk : k < n) (he : isEf (O k).op = false) : (S (k + 1)).h = (S k).h := by
  have := f.step k hk
  rw [f.ins0 k hk he] at this
  unfold stepD at this
  split at this
  · cases this
  · injection this with this; rw [← this]; rfl
  · rw [he] at this
    simp only [cond_false] at this
    cases hm : isMk (O k).op with
    | true =>
      rw [hm] at this
      simp only [cond_true] at this
      split at this
      · injection this with this; rw [← this]
      · cases this
    | false =>
      rw [hm] at this
      simp only [cond_false] at this
      split at this
      · injection this with this; rw [← this]
      · cases this

theorem DF.mdsS (f : DF P C nt ops n base O M I S rest ts0) {k : Nat} (hk : k < n) : ∀ a, a ≠ k → (S (k + 1)).mds.get a = (S k).mds.get a := by
  intro a ha
  have := f.step k hk
  unfold stepD at this
  split at this
  · cases this
  · injection this with this; rw [← this]
  · cases he : isEf (O k).op with
    | true =>
      rw [he] at this
      simp only [cond_true] at this
      split at this
      · injection this with this; rw [← this]
      · cases this
    | false =>
      rw [he] at this
      simp only [cond_false] at this
      cases hm : isMk (O k).op with
      | true =>
        rw [hm] at this
        simp only [cond_true] at this
        split at this
        · injection this with this; rw [← this]; simp only [Tr.get_set, if_neg ha]
        · cases this
      | false =>
        rw [hm] at this
        simp only [cond_false] at this
        split at this
        · injection this with this; rw [← this]
        · cases this

/-- what operation a has made -/
noncomputable def Ob (S : Nat → DSt) (a : Nat) : Option AObj := (S (a + 1)).mds.get a

theorem DF.mdsAt (f : DF P C nt ops n base O M I S rest ts0) : ∀ k, k ≤ n → ∀ a, (S k).mds.get a = if a < k then Ob S a else none := by
  intro k
  induction k with
  | zero => intro _ a; rw [f.mds, Tr.get_nil]; simp
  | succ k ih =>
    intro hk a
    by_cases e : a = k
    · subst e; rw [if_pos (by omega)]; rfl
    · rw [f.mdsS (by omega) a e, ih (by omega) a]
      by_cases h1 : a < k
      · rw [if_pos h1, if_pos (by omega)]
      · rw [if_neg h1, if_neg (by omega)]

theorem DF.dst (f : DF P C nt ops n base O M I S rest ts0) {a b d : Nat} (ha : a < n) (hb : b < n) (h1 : (O a).dst = some d) (h2 : (O b).dst = some d) : a = b := by
  have key : ∀ {a b}, a < b → b < n → (O a).dst = some d → (O b).dst = some d → False := by
    intro a b hab hb h1 h2
    have := f.pair a b hab hb
    simp [pairOk, h1, h2] at this
  rcases Nat.lt_trichotomy a b with h | h | h
  · exact (key h hb h1 h2).elim
  · exact h
  · exact (key h ha h2 h1).elim

theorem DF.tsAt (f : DF P C nt ops n base O M I S rest ts0) : ∀ k, k ≤ n → (∀ j, j < k → ∀ d, (O j).dst = some d → (S k).ts.get d = some (S (j + 1)).v) ∧ (∀ t, (∀ j, j < k → (O j).dst ≠ some t) → (S k).ts.get t = ts0.get t) := by
  intro k
  induction k with
  | zero => intro _; exact ⟨fun j hj => by omega, fun t _ => by rw [f.ts]⟩
  | succ k ih =>
    intro hk
    obtain ⟨i1, i2⟩ := ih (by omega)
    have hts := f.tsS (k := k) (by omega)
    refine ⟨?_, ?_⟩
    · intro j hj d hd
      rw [hts]
      by_cases e : j = k
      · subst e; rw [hd]; simp [setD, Tr.get_set]
      · cases hk' : (O k).dst with
        | none => simp only [setD]; exact i1 j (by omega) d hd
        | some d' =>
          have : d ≠ d' := by rintro rfl; exact e (f.dst (by omega) (by omega) hd hk')
          simp only [setD, Tr.get_set, if_neg this]
          exact i1 j (by omega) d hd
    · intro t ht
      rw [hts]
      cases hk' : (O k).dst with
      | none => simp only [setD]; exact i2 t (fun j hj => ht j (by omega))
      | some d' =>
        have : t ≠ d' := by rintro rfl; exact ht k (by omega) hk'
        simp only [setD, Tr.get_set, if_neg this]
        exact i2 t (fun j hj => ht j (by omega))

/-- a set that holds what its members wait for -/
def Shut (n : Nat) (O : Nat → IOper) (E : Nat → Bool) : Prop := ∀ k, k < n → E k = true → ∀ d, d ∈ (O k).after → E d = true

theorem DF.shut (f : DF P C nt ops n base O M I S rest ts0) {E : Nat → Bool} (hE : Shut n O E) : ∀ k, k < n → (∀ d, d ∈ (O k).after → E d = true) → ∀ b, (M k).testBit b = true → E b = true := by
  intro k
  induction k using Nat.strongRecOn with
  | _ k ih =>
    intro hk ha b hb
    obtain ⟨d, hd, h⟩ := f.bits k hk b hb
    rcases h with rfl | h
    · exact ha _ hd
    · have hdk := f.aft k hk d hd
      exact ih d hdk (by omega) (hE d (by omega) (ha d hd)) b h

theorem DF.low (f : DF P C nt ops n base O M I S rest ts0) : ∀ k, k < n → ∀ b, (M k).testBit b = true → b < k := by
  intro k
  induction k using Nat.strongRecOn with
  | _ k ih =>
    intro hk b hb
    obtain ⟨d, hd, h⟩ := f.bits k hk b hb
    have hdk := f.aft k hk d hd
    rcases h with rfl | h
    · exact hdk
    · exact Nat.lt_trans (ih d hdk (by omega) b h) hdk

theorem DF.same (f : DF P C nt ops n base O M I S rest ts0) : ∀ d a, a + d ≤ n → (∀ e, a ≤ e → e < a + d → isEf (O e).op = false) → (S a).h = (S (a + d)).h := by
  intro d
  induction d with
  | zero => intro a _ _; rfl
  | succ d ih =>
    intro a hn he
    rw [ih a (by omega) (fun e h1 h2 => he e h1 (by omega))]
    exact (f.heapS (k := a + d) (by omega) (he _ (by omega) (by omega))).symm

theorem DF.heapEq (f : DF P C nt ops n base O M I S rest ts0) {a b : Nat} (ha : a ≤ n) (hb : b ≤ n) (h : ∀ e, e < n → isEf (O e).op = true → (e < a ↔ e < b)) : (S a).h = (S b).h := by
  have key : ∀ a b, a ≤ b → b ≤ n → (∀ e, e < n → isEf (O e).op = true → (e < a ↔ e < b)) → (S a).h = (S b).h := by
    intro a b hab hb h
    have := f.same (b - a) a (by omega) (by
      intro e h1 h2
      cases he : isEf (O e).op with
      | false => rfl
      | true => have := (h e (by omega) he).2 (by omega); omega)
    rw [this, show a + (b - a) = b by omega]
  rcases Nat.le_total a b with h1 | h1
  · exact key a b h1 hb h
  · exact (key b a h1 ha (fun e x y => (h e x y).symm)).symm

theorem DF.readUp (f : DF P C nt ops n base O M I S rest ts0) {i : Nat} (hi : i < n) (hl : looks (O i).op = true) (hon : (S (i + 1)).on = true) (hv : rdV (S i).h (S i).ts (O i).op = some (S (i + 1)).v) :
    ∀ d q, q + d = i → (∀ e, q ≤ e → e < i → isEf (O e).op = true → (M i).testBit e = false) → rdV (S q).h (S i).ts (O i).op = some (S (i + 1)).v := by
  intro d
  induction d with
  | zero => intro q hq _; rw [show q = i by omega]; exact hv
  | succ d ih =>
    intro q hq hb
    cases he : isEf (O q).op with
    | true => exact (f.loose i q hi (by omega) (by omega) hl he (fun h => by omega) (fun _ => hb q (Nat.le_refl _) (by omega) he) hon).1
    | false => rw [← f.heapS (k := q) (by omega) he]; exact ih (q + 1) (by omega) (fun e h1 h2 => hb e (by omega) h2)

theorem DF.readDown (f : DF P C nt ops n base O M I S rest ts0) {i : Nat} (hi : i < n) (hl : looks (O i).op = true) (hne : isEf (O i).op = false) (hon : (S (i + 1)).on = true) (hv : rdV (S i).h (S i).ts (O i).op = some (S (i + 1)).v) :
    ∀ d, i + d ≤ n → (∀ e, i ≤ e → e < i + d → isEf (O e).op = true → (M e).testBit i = false) → rdV (S (i + d)).h (S i).ts (O i).op = some (S (i + 1)).v := by
  intro d
  induction d with
  | zero => intro _ _; exact hv
  | succ d ih =>
    intro hn hb
    cases he : isEf (O (i + d)).op with
    | true =>
      have hne' : i ≠ i + d := by intro e; rw [← e, hne] at he; cases he
      exact (f.loose i (i + d) hi (by omega) hne' hl he (fun _ => hb (i + d) (by omega) (by omega) he) (fun h => by omega) hon).2
    | false => rw [show i + (d + 1) = i + d + 1 by omega, f.heapS (k := i + d) (by omega) he]; exact ih (by omega) (fun e h1 h2 => hb e h1 (by omega))

end
end Go.Dv

/- Drawn regions: the schedule. -/
namespace Go.Dv

structure Inv (P : Program) (n base : Nat) (O : Nat → IOper) (I : Nat → List Nat) (S : Nat → DSt) (ts0 : Tr Value) (h0 : AHeap) (ρ0 : Ren) (w0 : World) (sz : Nat) (E : Nat → Bool) (q : Nat) (ts : Tr Value) (tmps : Array Value) (ρ : Ren) (w : World) : Prop where
  shut : Shut n O E
  tsA : ∀ j, j < n → E j = true → ∀ d, (O j).dst = some d → ts.get d = some (S (j + 1)).v
  tsB : ∀ t, (∀ j, j < n → E j = true → (O j).dst ≠ some t) → ts.get t = ts0.get t
  tr : TR ρ ts tmps
  size : tmps.size = sz
  hr : HR P ρ (S q).h w
  qn : q ≤ n
  qE : ∀ e, e < n → isEf (O e).op = true → (E e = true ↔ e < q)
  stp : Stp h0 ρ0 w0 (S q).h ρ w
  nx : base + n ≤ (S q).h.next
  pend : ∀ a, a < n → E a = true → ∀ ob, Ob S a = some ob → (∀ e, e < n → isEf (O e).op = true → E e = true → a ∉ I e) → Pend P ρ (S q).h w0 w (base + a) ob
  fresh : ∀ a, a < n → E a = false → ρ (base + a) = none
  inj : ∀ a b x y, a < n → b < n → a ≠ b → ρ (base + a) = some x → ρ (base + b) = some y → x.blk ≠ y.blk

section
variable {P : Program} {C : CB} {nt : Nat} {ops : Array Oper} {n base : Nat} {O : Nat → IOper} {M : Nat → Nat} {I : Nat → List Nat} {S : Nat → DSt} {rest : List Nat} {ts0 : Tr Value} {h0 : AHeap} {ρ0 ρ : Ren} {w0 w : World} {sz : Nat} {E : Nat → Bool} {q : Nat} {ts : Tr Value} {tmps : Array Value}
  {b : Base} {ds : List Deferred} {k : List Item} {cs : List Frame}

noncomputable def put1 (E : Nat → Bool) (i : Nat) : Nat → Bool := fun k => k == i || E k

theorem put1_self (i : Nat) : put1 E i i = true := by simp [put1]
theorem put1_of {i k : Nat} (h : E k = true) : put1 E i k = true := by simp [put1, h]
theorem put1_ne {i k : Nat} (h : k ≠ i) : put1 E i k = E k := by simp [put1, h]

theorem wantedV_congr {ts ts' : Tr Value} (g : Option (Nat × Bool)) (h : ∀ t b, g = some (t, b) → ts.get t = ts'.get t) : wantedV ts g = wantedV ts' g := by
  cases g with
  | none => rfl
  | some p => obtain ⟨t, b⟩ := p; simp only [wantedV, h t b rfl]

/-- the temporaries that an operation reads are what they are in the text's order -/
theorem DF.agree (f : DF P C nt ops n base O M I S rest ts0) (v : Inv P n base O I S ts0 h0 ρ0 w0 sz E q ts tmps ρ w) {i : Nat} (hi : i < n) (hE : E i = false) (ha : ∀ d, d ∈ (O i).after → E d = true) {t : Nat}
    (ht : namesT (O i) t = true) : ts.get t = (S i).ts.get t := by
  obtain ⟨a1, a2⟩ := f.tsAt i (by omega)
  have hsh := f.shut v.shut i hi ha
  by_cases hw : ∃ j, j < n ∧ (O j).dst = some t
  · obtain ⟨j, hj, hd⟩ := hw
    have uniq : ∀ j', j' < n → (O j').dst = some t → j' = j := fun j' h1 h2 => f.dst h1 hj h2 hd
    rcases Nat.lt_trichotomy j i with hji | hji | hji
    · have hp := f.pair j i hji hi
      have hb : (M i).testBit j = true := by
        simp only [pairOk, hd, Bool.and_eq_true, Bool.or_eq_true] at hp
        rcases hp.2 with h | h
        · exact h
        · have := h.1.1; simp [ht] at this
      rw [v.tsA j hj (hsh j hb) t hd, a1 j hji t hd]
    · have h1 : ∀ j', j' < n → E j' = true → (O j').dst ≠ some t := by
        intro j' h1 h2 h3
        rw [uniq j' h1 h3, hji, hE] at h2; cases h2
      rw [v.tsB t h1, a2 t (fun j' h1 h3 => by have := uniq j' (by omega) h3; omega)]
    · have hp := f.pair i j hji hj
      have hb : (M j).testBit i = true := by
        simp only [pairOk, hd, Bool.and_eq_true, Bool.or_eq_true] at hp
        rcases hp.2 with h | h
        · exact h
        · have := h.1.2; simp [ht] at this
      have hEj : E j = false := by
        cases hh : E j with
        | false => rfl
        | true => have := f.shut v.shut j hj (v.shut j hj hh) i hb; rw [hE] at this; cases this
      have h1 : ∀ j', j' < n → E j' = true → (O j').dst ≠ some t := by
        intro j' h1 h2 h3
        rw [uniq j' h1 h3, hEj] at h2; cases h2
      rw [v.tsB t h1, a2 t (fun j' h1 h3 => by have := uniq j' (by omega) h3; omega)]
  · have hno : ∀ j', j' < n → (O j').dst ≠ some t := fun j' h1 h2 => hw ⟨j', h1, h2⟩
    rw [v.tsB t (fun j' h1 _ => hno j' h1), a2 t (fun j' h1 => hno j' (by omega))]

theorem DF.agreeO (f : DF P C nt ops n base O M I S rest ts0) (v : Inv P n base O I S ts0 h0 ρ0 w0 sz E q ts tmps ρ w) {i : Nat} (hi : i < n) (hE : E i = false) (ha : ∀ d, d ∈ (O i).after → E d = true) :
    ∀ x, x ∈ opds (O i).op → ev ts x = ev (S i).ts x := by
  intro x hx
  cases x with
  | c v => rfl
  | t m =>
    simp only [ev]
    refine f.agree v hi hE ha ?_
    simp only [namesT, Bool.or_eq_true]
    left
    rw [List.any_eq_true]
    exact ⟨.t m, hx, Nat.beq_refl m⟩

theorem DF.agreeG (f : DF P C nt ops n base O M I S rest ts0) (v : Inv P n base O I S ts0 h0 ρ0 w0 sz E q ts tmps ρ w) {i : Nat} (hi : i < n) (hE : E i = false) (ha : ∀ d, d ∈ (O i).after → E d = true) :
    wantedV ts (O i).guard = wantedV (S i).ts (O i).guard := by
  refine wantedV_congr _ ?_
  intro t bb e
  refine f.agree v hi hE ha ?_
  simp [namesT, e]

/-- the effects that are done are those before i in the text -/
theorem DF.effs (f : DF P C nt ops n base O M I S rest ts0) (v : Inv P n base O I S ts0 h0 ρ0 w0 sz E q ts tmps ρ w) {i : Nat} (hi : i < n) (hE : E i = false) (ha : ∀ d, d ∈ (O i).after → E d = true) (hf : isEf (O i).op = true) :
    ∀ e, e < n → isEf (O e).op = true → (E e = true ↔ e < i) := by
  intro e he hfe
  have hsh := f.shut v.shut i hi ha
  rcases Nat.lt_trichotomy e i with h | h | h
  · have hp := f.pair e i h hi
    simp only [pairOk, Bool.and_eq_true, Bool.or_eq_true] at hp
    have hb : (M i).testBit e = true := by
      rcases hp.2 with h | h
      · exact h
      · have := h.2; simp [hf, hfe] at this
    simp [h, hsh e hb]
  · subst h; simp [hE]
  · have hp := f.pair i e h he
    simp only [pairOk, Bool.and_eq_true, Bool.or_eq_true] at hp
    have hb : (M e).testBit i = true := by
      rcases hp.2 with h | h
      · exact h
      · have := h.2; simp [hf, hfe] at this
    constructor
    · intro hh
      have := f.shut v.shut e he (v.shut e he hh) i hb
      rw [hE] at this; cases this
    · intro hh; omega

theorem shut_put {i : Nat} (hs : Shut n O E) (ha : ∀ d, d ∈ (O i).after → E d = true) : Shut n O (put1 E i) := by
  intro k hk hE d hd
  by_cases e : k = i
  · subst e; exact put1_of (ha d hd)
  · rw [put1_ne e] at hE
    exact put1_of (hs k hk hE d hd)

theorem DF.tsA_put (f : DF P C nt ops n base O M I S rest ts0) (v : Inv P n base O I S ts0 h0 ρ0 w0 sz E q ts tmps ρ w) {i : Nat} (hi : i < n) :
    (∀ j, j < n → put1 E i j = true → ∀ d, (O j).dst = some d → (setD ts (O i).dst (S (i + 1)).v).get d = some (S (j + 1)).v) ∧
    (∀ t, (∀ j, j < n → put1 E i j = true → (O j).dst ≠ some t) → (setD ts (O i).dst (S (i + 1)).v).get t = ts0.get t) := by
  refine ⟨?_, ?_⟩
  · intro j hj hE d hd
    by_cases e : j = i
    · subst e; rw [hd]; simp [setD, Tr.get_set]
    · rw [put1_ne e] at hE
      cases hk' : (O i).dst with
      | none => simp only [setD]; exact v.tsA j hj hE d hd
      | some d' =>
        have : d ≠ d' := by rintro rfl; exact e (f.dst hj hi hd hk')
        simp only [setD, Tr.get_set, if_neg this]
        exact v.tsA j hj hE d hd
  · intro t ht
    have hold : ∀ j, j < n → E j = true → (O j).dst ≠ some t := fun j hj hE => ht j hj (put1_of hE)
    cases hk' : (O i).dst with
    | none => simp only [setD]; exact v.tsB t hold
    | some d' =>
      have : t ≠ d' := by rintro rfl; exact ht i hi (put1_self i) hk'
      simp only [setD, Tr.get_set, if_neg this]
      exact v.tsB t hold

/-- what an effect asks for is put into the heap -/
theorem DF.insE (f : DF P C nt ops n base O M I S rest ts0) (v : Inv P n base O I S ts0 h0 ρ0 w0 sz E q ts tmps ρ w) {i : Nat} (hi : i < n) (hE : E i = false) (ha : ∀ d, d ∈ (O i).after → E d = true) (hf : isEf (O i).op = true) :
    HR P ρ (insL base (S i).mds (I i) (S i).h) w ∧ Stp h0 ρ0 w0 (insL base (S i).mds (I i) (S i).h) ρ w ∧ (insL base (S i).mds (I i) (S i).h).next = (S i).h.next ∧ (S q).h = (S i).h ∧
      ∀ c, ((insL base (S i).mds (I i) (S i).h).get c).isSome = true → ((S i).h.get c).isSome = true ∨ ∃ a, a ∈ I i ∧ c = base + a := by
  have heff := f.effs v hi hE ha hf
  have hq : (S q).h = (S i).h := f.heapEq v.qn (by omega) (fun e he hfe => (v.qE e he hfe).symm.trans (heff e he hfe))
  have hr := v.hr
  have hs := v.stp
  rw [hq] at hr hs
  have := ins_sound (base := base) (n := n) (mds := (S i).mds) v.inj (I i) hr hs (f.nodup i hi) (fun a h => (f.ins i hi a h).1) (by
    intro a hain ob hob
    obtain ⟨h1, h2, h3⟩ := f.ins i hi a hain
    have hai := f.low i hi a h2
    rw [f.mdsAt i (by omega) a, if_pos hai] at hob
    have hp := v.pend a h1 (f.shut v.shut i hi ha a h2) ob hob (by
      intro e he hfe hEe hin
      have hei := (heff e he hfe).1 hEe
      have := h3 e hei hfe
      rw [(f.ins e he a hin).2.1] at this; cases this)
    rw [hq] at hp
    exact hp)
  obtain ⟨x1, x2, x3, x4⟩ := this
  exact ⟨x1, x2, x3, hq, x4⟩

theorem op_sound (f : DF P C nt ops n base O M I S rest ts0) (hC : CS P C) (hnt : nt ≤ sz) (hb0 : h0.next = base) (v : Inv P n base O I S ts0 h0 ρ0 w0 sz E q ts tmps ρ w) {i : Nat} (hi : i < n) (hE : E i = false) (ha : ∀ d, d ∈ (O i).after → E d = true) (r : List Nat) :
    ∃ q' ts' tmps' ρ' w', Steps P (lone (Fr b tmps ds (.inRegion ops (i :: r) :: k)) cs w) (lone (Fr b tmps' ds (.inRegion ops r :: k)) cs w') ∧ Inv P n base O I S ts0 h0 ρ0 w0 sz (put1 E i) q' ts' tmps' ρ' w' := by
  obtain ⟨o, ho, hco⟩ := f.oper i hi
  obtain ⟨c1, c2, c3, c4, c5, _⟩ := cOper_parts hco
  have hdst : ∀ d, o.dst = some d → d < tmps.size := fun d e => Nat.lt_of_lt_of_le (c4 d e) (by rw [v.size]; exact hnt)
  have hg := f.agreeG v hi hE ha
  have hag := f.agreeO v hi hE ha
  have hst := f.step i hi
  obtain ⟨tA, tB⟩ := f.tsA_put v hi
  have hsh' := shut_put (i := i) v.shut ha
  unfold stepD at hst
  split at hst
  · cases hst
  · -- off
    rename_i hw
    rw [← hg] at hw
    have hnw := wanted_sound v.tr hco hw
    have hs := step_oper_skip (P := P) (b := b) (tmps := tmps) (ds := ds) (k := k) (cs := cs) (w := w) (ops := ops) (i := i) (rest := r) (by rw [ho]; simpa using hnw)
    rw [ho, Option.bind_some] at hs
    injection hst with hst
    have hv : (S (i + 1)).v = undefV := by rw [← hst]
    have hm : (S (i + 1)).mds = (S i).mds := by rw [← hst]
    have hobi : Ob S i = none := by
      unfold Ob; rw [hm, f.mdsAt i (by omega) i, if_neg (by omega)]
    rw [hv] at tA tB
    rw [c3] at tA tB
    cases hf : isEf (O i).op with
    | true =>
      obtain ⟨x1, x2, x3, x4, x5⟩ := f.insE v hi hE ha hf
      have hh : (S (i + 1)).h = insL base (S i).mds (I i) (S i).h := by rw [← hst]
      refine ⟨i + 1, setD ts o.dst undefV, _, ρ, w, .one hs, ?_⟩
      exact {
        shut := hsh'
        tsA := tA
        tsB := tB
        tr := v.tr.put hdst (.undef ρ)
        size := by rw [putD_size]; exact v.size
        hr := by rw [hh]; exact x1
        qn := by omega
        qE := by
          intro e he hfe
          by_cases h : e = i
          · subst h; simp [put1_self]
          · rw [put1_ne h, f.effs v hi hE ha hf e he hfe]; omega
        stp := by rw [hh]; exact x2
        nx := by rw [hh, x3, ← x4]; exact v.nx
        pend := by
          intro a han hEa ob hob hno
          by_cases e : a = i
          · subst e; rw [hobi] at hob; cases hob
          · rw [put1_ne e] at hEa
            obtain ⟨bi, ob', p1, p2, p3, p4, p5⟩ := v.pend a han hEa ob hob (fun e' h1 h2 h3 => hno e' h1 h2 (put1_of h3))
            refine ⟨bi, ob', p1, p2, p3, p4, ?_⟩
            intro c x hc hx
            rw [hh] at hc
            rcases x5 c hc with h | ⟨a', h1, h2⟩
            · rw [← x4] at h; exact p5 c x h hx
            · subst h2
              exact v.inj a' a x bi (f.ins i hi a' h1).1 han (by rintro rfl; exact hno i hi hf (put1_self i) h1) hx p1
        fresh := by
          intro a han hEa
          by_cases e : a = i
          · subst e; rw [put1_self] at hEa; cases hEa
          · rw [put1_ne e] at hEa; exact v.fresh a han hEa
        inj := v.inj }
    | false =>
      refine ⟨q, setD ts o.dst undefV, _, ρ, w, .one hs, ?_⟩
      exact {
        shut := hsh'
        tsA := tA
        tsB := tB
        tr := v.tr.put hdst (.undef ρ)
        size := by rw [putD_size]; exact v.size
        hr := v.hr
        qn := v.qn
        qE := by
          intro e he hfe
          by_cases h : e = i
          · subst h; rw [hf] at hfe; cases hfe
          · rw [put1_ne h]; exact v.qE e he hfe
        stp := v.stp
        nx := v.nx
        pend := by
          intro a han hEa ob hob hno
          by_cases e : a = i
          · subst e; rw [hobi] at hob; cases hob
          · rw [put1_ne e] at hEa
            exact v.pend a han hEa ob hob (fun e' h1 h2 h3 => hno e' h1 h2 (put1_of h3))
        fresh := by
          intro a han hEa
          by_cases e : a = i
          · subst e; rw [put1_self] at hEa; cases hEa
          · rw [put1_ne e] at hEa; exact v.fresh a han hEa
        inj := v.inj }
  · rename_i hw
    rw [← hg] at hw
    have hyw := wanted_sound v.tr hco hw
    cases hf : isEf (O i).op with
    | true =>
      rw [hf] at hst
      simp only [cond_true] at hst
      split at hst
      · rename_i val h' hev
        injection hst with hst
        have hv : (S (i + 1)).v = val := by rw [← hst]
        have hm : (S (i + 1)).mds = (S i).mds := by rw [← hst]
        have hh : (S (i + 1)).h = h' := by rw [← hst]
        have hobi : Ob S i = none := by
          unfold Ob; rw [hm, f.mdsAt i (by omega) i, if_neg (by omega)]
        obtain ⟨x1, x2, x3, x4, x5⟩ := f.insE v hi hE ha hf
        rw [← efV_congr C _ _ hag] at hev
        obtain ⟨ρ1, w1, v1, e1, e2, e3, e4⟩ := ef_all ⟨v.tr, x1⟩ hC c1 c2 hf hev (Fr b tmps ds (.inRegion ops (i :: r) :: k)) cs
        have hs := step_oper ho hyw (cOp_not_defer c1) e1
        rw [hv] at tA tB
        rw [c3] at tA tB
        refine ⟨i + 1, setD ts o.dst val, _, ρ1, w1, hs, ?_⟩
        have hnx : base + n ≤ (insL base (S i).mds (I i) (S i).h).next := by rw [x3, ← x4]; exact v.nx
        have hold : ∀ a, a < n → ρ1 (base + a) = ρ (base + a) := fun a h => e4.old _ (by omega)
        have hinj : ∀ a b x y, a < n → b < n → a ≠ b → ρ1 (base + a) = some x → ρ1 (base + b) = some y → x.blk ≠ y.blk := by
          intro a b x y h1 h2 h3 h4 h5
          rw [hold a h1] at h4
          rw [hold b h2] at h5
          exact v.inj a b x y h1 h2 h3 h4 h5
        exact {
          shut := hsh'
          tsA := tA
          tsB := tB
          tr := (v.tr.mono e4.ext).put hdst e2
          size := by rw [putD_size]; exact v.size
          hr := by rw [hh]; exact e3
          qn := by omega
          qE := by
            intro e he hfe
            by_cases h : e = i
            · subst h; simp [put1_self]
            · rw [put1_ne h, f.effs v hi hE ha hf e he hfe]; omega
          stp := by rw [hh]; exact x2.trans e4
          nx := by rw [hh]; exact Nat.le_trans hnx e4.next
          pend := by
            intro a han hEa ob hob hno
            by_cases e : a = i
            · subst e; rw [hobi] at hob; cases hob
            · rw [put1_ne e] at hEa
              obtain ⟨bi, ob', p1, p2, p3, p4, p5⟩ := v.pend a han hEa ob hob (fun e' h1 h2 h3 => hno e' h1 h2 (put1_of h3))
              have hbnd := (v.hr.bnd _ _ p1).2
              have hlive : ∀ c x, ((insL base (S i).mds (I i) (S i).h).get c).isSome = true → ρ c = some x → x.blk ≠ bi.blk := by
                intro c x hc hx
                rcases x5 c hc with h | ⟨a', h1, h2⟩
                · rw [← x4] at h; exact p5 c x h hx
                · subst h2
                  exact v.inj a' a x bi (f.ins i hi a' h1).1 han (by rintro rfl; exact hno i hi hf (put1_self i) h1) hx p1
              refine ⟨bi, ob', e4.ext _ _ p1, p2, ?_, p4.mono e4.ext, ?_⟩
              · rw [e4.frame bi.blk hbnd hlive]; exact p3
              · intro c x hc hx
                rw [hh] at hc
                rcases e4.live c x hc hx with h | ⟨c', y, h1, h2, h3⟩
                · omega
                · rw [← h3]; exact hlive c' y h1 h2
          fresh := by
            intro a han hEa
            rw [hold a han]
            by_cases e : a = i
            · subst e; rw [put1_self] at hEa; cases hEa
            · rw [put1_ne e] at hEa; exact v.fresh a han hEa
          inj := hinj }
      · cases hst
    | false =>
      rw [hf] at hst
      simp only [cond_false] at hst
      cases hmk : isMk (O i).op with
      | true =>
        rw [hmk] at hst
        simp only [cond_true] at hst
        split at hst
        · rename_i ob m hmv
          injection hst with hst
          have hv : (S (i + 1)).v = m.val (base + i) := by rw [← hst]
          have hob : Ob S i = some ob := by unfold Ob; rw [← hst]; simp [Tr.get_set]
          rw [← mkV_congr _ hag] at hmv
          obtain ⟨w1, ob', bi, v', k1, k2, k3, k4, k5, k6, k7, k8⟩ := mk_all ⟨v.tr, v.hr⟩ c1 c2 hmk hmv
          have hs := step_oper ho hyw (cOp_not_defer c1) (.value k1 : Ends P (cev tmps) o w (Fr b tmps ds (.inRegion ops (i :: r) :: k)) cs v' w1)
          rw [hv] at tA tB
          rw [c3] at tA tB
          have hnone := v.fresh i hi hE
          have hext : Ext ρ (fun b => if b = base + i then some bi else ρ b) := by
            intro b x hb
            have : b ≠ base + i := by intro e; rw [e, hnone] at hb; cases hb
            simp [this, hb]
          have hlive : ∀ c, ((S q).h.get c).isSome = true → c ≠ base + i := by
            intro c hc e
            obtain ⟨o', ho'⟩ := Option.isSome_iff_exists.1 hc
            obtain ⟨x, _, hx, _⟩ := v.hr.obj c o' ho'
            rw [e, hnone] at hx; cases hx
          have hge := v.stp.size
          refine ⟨q, setD ts o.dst (m.val (base + i)), _, fun b => if b = base + i then some bi else ρ b, w1, hs, ?_⟩
          have hlt : ∀ c, c < w.heap.size → w1.heap[c]? = w.heap[c]? := by
            intro c hc
            rw [k2, Array.getElem?_push_lt hc, Array.getElem?_eq_getElem hc]
          exact {
            shut := hsh'
            tsA := tA
            tsB := tB
            tr := (v.tr.mono hext).put hdst (k8 _ _ (by simp))
            size := by rw [putD_size]; exact v.size
            hr := {
              obj := by
                intro c o' hc
                obtain ⟨x, oc, y1, y2, y3⟩ := v.hr.obj c o' hc
                exact ⟨x, oc, hext _ _ y1, by rw [hlt _ (v.hr.bnd c x y1).2]; exact y2, y3.mono hext⟩
              inj := by
                intro c d x y hc hd hx hy e
                simp only [if_neg (hlive c hc)] at hx
                simp only [if_neg (hlive d hd)] at hy
                exact v.hr.inj c d x y hc hd hx hy e
              bnd := by
                intro c x hx
                rw [k2, Array.size_push]
                by_cases e : c = base + i
                · simp only [if_pos e, Option.some.injEq] at hx
                  have := v.nx
                  rw [← hx, k6]
                  omega
                · simp only [if_neg e] at hx
                  have := v.hr.bnd c x hx
                  omega
              glob := by
                intro g hg'
                obtain ⟨x, y1, y2, y3⟩ := v.hr.glob g hg'
                exact ⟨x, hext _ _ y1, y2, y3⟩ }
            qn := v.qn
            qE := by
              intro e he hfe
              by_cases h : e = i
              · subst h; rw [hf] at hfe; cases hfe
              · rw [put1_ne h]; exact v.qE e he hfe
            stp := {
              ext := v.stp.ext.trans hext
              live := by
                intro c x hc hx
                simp only [if_neg (hlive c hc)] at hx
                exact v.stp.live c x hc hx
              size := by rw [k2, Array.size_push]; omega
              frame := by
                intro c hc hn
                rw [hlt c (by omega)]
                exact v.stp.frame c hc hn
              tape := k3.trans v.stp.tape
              os := k4.trans v.stp.os
              out := k5.trans v.stp.out
              next := v.stp.next
              old := by
                intro c hc
                have : c ≠ base + i := by omega
                simp only [if_neg this]
                exact v.stp.old c hc
              froz := fun a => (frozen_push k7.nofz k2 a).trans (v.stp.froz a) }
            nx := v.nx
            pend := by
              intro a han hEa ob2 hob2 hno
              by_cases e : a = i
              · subst e
                rw [hob] at hob2
                cases hob2
                refine ⟨bi, ob', by simp, by omega, by rw [k2, k6]; simp, k7.mono hext, ?_⟩
                intro c x hc hx
                simp only [if_neg (hlive c hc)] at hx
                have := (v.hr.bnd c x hx).2
                omega
              · rw [put1_ne e] at hEa
                obtain ⟨bj, oj, p1, p2, p3, p4, p5⟩ := v.pend a han hEa ob2 hob2 (fun e' h1 h2 h3 => hno e' h1 h2 (put1_of h3))
                refine ⟨bj, oj, hext _ _ p1, p2, by rw [hlt _ (v.hr.bnd _ _ p1).2]; exact p3, p4.mono hext, ?_⟩
                intro c x hc hx
                simp only [if_neg (hlive c hc)] at hx
                exact p5 c x hc hx
            fresh := by
              intro a han hEa
              by_cases e : a = i
              · subst e; rw [put1_self] at hEa; cases hEa
              · rw [put1_ne e] at hEa
                have : base + a ≠ base + i := by omega
                simp only [if_neg this]
                exact v.fresh a han hEa
            inj := by
              intro a a' x y h1 h2 h3 hx hy
              by_cases e : a = i
              · subst e
                simp only [if_true, Option.some.injEq] at hx
                have : base + a' ≠ base + a := by omega
                simp only [if_neg this] at hy
                have := (v.hr.bnd _ _ hy).2
                rw [← hx, k6]; omega
              · have ne : base + a ≠ base + i := by omega
                simp only [if_neg ne] at hx
                by_cases e' : a' = i
                · subst e'
                  simp only [if_true, Option.some.injEq] at hy
                  have := (v.hr.bnd _ _ hx).2
                  rw [← hy, k6]; omega
                · have ne' : base + a' ≠ base + i := by omega
                  simp only [if_neg ne'] at hy
                  exact v.inj a a' x y h1 h2 h3 hx hy }
        · cases hst
      | false =>
        rw [hmk] at hst
        simp only [cond_false] at hst
        split at hst
        · rename_i val hrd
          injection hst with hst
          have hv : (S (i + 1)).v = val := by rw [← hst]
          have hon : (S (i + 1)).on = true := by rw [← hst]
          have hobi : Ob S i = none := by
            unfold Ob; rw [← hst]; simp only []; rw [f.mdsAt i (by omega) i, if_neg (by omega)]
          have hread : rdV (S q).h (S i).ts (O i).op = some val := by
            cases hl : looks (O i).op with
            | false => rw [rdV_looks _ (S i).h _ hl]; exact hrd
            | true =>
              rw [← hv] at hrd ⊢
              rcases Nat.le_total q i with h | h
              · refine f.readUp hi hl hon hrd (i - q) q (by omega) ?_
                intro e h1 h2 h3
                cases hb : (M i).testBit e with
                | false => rfl
                | true =>
                  have := (v.qE e (by omega) h3).1 (f.shut v.shut i hi ha e hb)
                  omega
              · have := f.readDown hi hl hf hon hrd (q - i) (by have := v.qn; omega) (by
                  intro e h1 h2 h3
                  have hqn := v.qn
                  cases hb : (M e).testBit i with
                  | false => rfl
                  | true =>
                    have hEe := (v.qE e (by omega) h3).2 (by omega)
                    have := f.shut v.shut e (by omega) (v.shut e (by omega) hEe) i hb
                    rw [hE] at this; cases this)
                rw [show i + (q - i) = q by omega] at this
                exact this
          rw [← rdV_congr _ _ hag] at hread
          obtain ⟨v', k1, k2⟩ := rd_all ⟨v.tr, v.hr⟩ c1 c2 hf hmk hread
          have hs := step_oper ho hyw (cOp_not_defer c1) (.value k1 : Ends P (cev tmps) o w (Fr b tmps ds (.inRegion ops (i :: r) :: k)) cs v' w)
          rw [hv] at tA tB
          rw [c3] at tA tB
          refine ⟨q, setD ts o.dst val, _, ρ, w, hs, ?_⟩
          exact {
            shut := hsh'
            tsA := tA
            tsB := tB
            tr := v.tr.put hdst k2
            size := by rw [putD_size]; exact v.size
            hr := v.hr
            qn := v.qn
            qE := by
              intro e he hfe
              by_cases h : e = i
              · subst h; rw [hf] at hfe; cases hfe
              · rw [put1_ne h]; exact v.qE e he hfe
            stp := v.stp
            nx := v.nx
            pend := by
              intro a han hEa ob hob hno
              by_cases e : a = i
              · subst e; rw [hobi] at hob; cases hob
              · rw [put1_ne e] at hEa
                exact v.pend a han hEa ob hob (fun e' h1 h2 h3 => hno e' h1 h2 (put1_of h3))
            fresh := by
              intro a han hEa
              by_cases e : a = i
              · subst e; rw [put1_self] at hEa; cases hEa
              · rw [put1_ne e] at hEa; exact v.fresh a han hEa
            inj := v.inj }
        · cases hst

end
end Go.Dv

/- Drawn regions: all of it. -/
namespace Go.Dv

noncomputable def unl (E : Nat → Bool) : Nat → Nat
  | 0 => 0
  | m + 1 => unl E m + cond (E m) 0 1

theorem unl_put {E : Nat → Bool} {i : Nat} (hE : E i = false) : ∀ m, unl E m = unl (put1 E i) m + cond (Nat.blt i m) 1 0 := by
  intro m
  induction m with
  | zero => rfl
  | succ m ih =>
    simp only [unl]
    rw [ih]
    by_cases e : m = i
    · subst e
      have h1 : Nat.blt m m = false := by
        cases h : Nat.blt m m with
        | false => rfl
        | true => simp at h
      have h2 : Nat.blt m (m + 1) = true := by simp [Nat.blt_eq]
      rw [hE, put1_self, h1, h2]
      rfl
    · rw [put1_ne e]
      by_cases h : i < m
      · have h1 : Nat.blt i m = true := by simpa [Nat.blt_eq] using h
        have h2 : Nat.blt i (m + 1) = true := by simp [Nat.blt_eq]; omega
        rw [h1, h2]
        simp only [cond_true]
        omega
      · have h1 : Nat.blt i m = false := by
          cases hh : Nat.blt i m with
          | false => rfl
          | true => exact absurd (by simpa [Nat.blt_eq] using hh) h
        have h2 : Nat.blt i (m + 1) = false := by
          cases hh : Nat.blt i (m + 1) with
          | false => rfl
          | true => have : i < m + 1 := by simpa [Nat.blt_eq] using hh
                    omega
        rw [h1, h2]
        simp only [cond_false]
        omega

theorem unl_zero {E : Nat → Bool} : ∀ m, unl E m = 0 → ∀ k, k < m → E k = true := by
  intro m
  induction m with
  | zero => intro _ k hk; omega
  | succ m ih =>
    intro h k hk
    simp only [unl] at h
    cases hE : E m with
    | true =>
      rw [hE] at h
      by_cases e : k = m
      · subst e; exact hE
      · exact ih (by simpa using h) k (by omega)
    | false => rw [hE] at h; simp at h

theorem unl_none : ∀ m, unl (fun _ => false) m = m := by
  intro m
  induction m with
  | zero => rfl
  | succ m ih => simp only [unl, ih, cond_false]

section
variable {P : Program} {C : CB} {nt : Nat} {ops : Array Oper} {n base : Nat} {O : Nat → IOper} {M : Nat → Nat} {I : Nat → List Nat} {S : Nat → DSt} {rest : List Nat} {ts0 : Tr Value} {h0 : AHeap} {ρ0 : Ren} {w0 : World} {sz : Nat}
  {b : Base} {ds : List Deferred} {k : List Item} {cs : List Frame}

theorem ready_spec {listed : Array Bool} {i : Nat} : i ∈ Region.ready .any ops listed ↔ i < ops.size ∧ listed.getD i true = false ∧ ∃ o, ops[i]? = some o ∧ ∀ e, e ∈ o.after.toList → Region.binds .any e = true → listed.getD e.on false = true := by
  unfold Region.ready
  simp only [List.mem_filter, List.mem_range, Bool.and_eq_true, Bool.not_eq_true']
  constructor
  · rintro ⟨h1, h2, h3⟩
    refine ⟨h1, h2, ops[i], Array.getElem?_eq_getElem h1, ?_⟩
    rw [Array.getElem?_eq_getElem h1] at h3
    simp only [Option.map_some, Option.getD_some] at h3
    intro e he hb
    rw [← Array.all_toList] at h3
    have := List.all_eq_true.1 h3 e he
    simpa [hb] using this
  · rintro ⟨h1, h2, o, h3, h4⟩
    refine ⟨h1, h2, ?_⟩
    rw [h3]
    simp only [Option.map_some, Option.getD_some]
    rw [← Array.all_toList]
    refine List.all_eq_true.2 ?_
    intro e he
    cases hb : Region.binds .any e with
    | false => rfl
    | true => simpa using h4 e he hb

theorem go_sound (f : DF P C nt ops n base O M I S rest ts0) (hC : CS P C) (hnt : nt ≤ sz) (hb0 : h0.next = base) :
    ∀ (fuel t : Nat) (listed : Array Bool) (E : Nat → Bool) (q : Nat) (ts : Tr Value) (tmps : Array Value) (ρ : Ren) (w : World), Inv P n base O I S ts0 h0 ρ0 w0 sz E q ts tmps ρ w → listed.size = n → (∀ k, k < n → listed.getD k false = E k) → unl E n = fuel →
    ∃ E' q' ts' tmps' ρ' w', Steps P (lone (Fr b tmps ds (.inRegion ops (Region.linearise.go .any ops fuel t listed []) :: k)) cs w) (lone (Fr b tmps' ds k) cs w') ∧ Inv P n base O I S ts0 h0 ρ0 w0 sz E' q' ts' tmps' ρ' w' ∧ ∀ k, k < n → E' k = true := by
  intro fuel
  induction fuel with
  | zero =>
    intro t listed E q ts tmps ρ w v hsz hl hu
    exact ⟨E, q, ts, tmps, ρ, w, .one step_region_end', v, unl_zero n hu⟩
  | succ fuel ih =>
    intro t listed E q ts tmps ρ w v hsz hl hu
    have hL : ∀ k, k < n → ∀ d, listed.getD k d = E k := by
      intro k hk d
      have := hl k hk
      simp only [Array.getD_eq_getD_getElem?, Array.getElem?_eq_getElem (show k < listed.size by omega), Option.getD_some] at this ⊢
      exact this
    simp only [Region.linearise.go]
    show ∃ E' q' ts' tmps' ρ' w', Steps P (lone (Fr b tmps ds (.inRegion ops (match (Region.ready .any ops listed)[t % (Region.ready .any ops listed).length]? with
      | some i => Region.linearise.go .any ops fuel (t / (Region.ready .any ops listed).length) (listed.setIfInBounds i true) [i]
      | none => [].reverse) :: k)) cs w) _ ∧ _
    cases hi : (Region.ready .any ops listed)[t % (Region.ready .any ops listed).length]? with
    | none =>
      have hnil : Region.ready .any ops listed = [] := by
        cases hr : Region.ready .any ops listed with
        | nil => rfl
        | cons x xs =>
          rw [hr] at hi
          have hlt : t % (x :: xs).length < (x :: xs).length := Nat.mod_lt _ (by simp)
          rw [List.getElem?_eq_getElem hlt] at hi
          cases hi
      have hall : ∀ k, k < n → E k = true := by
        intro k
        induction k using Nat.strongRecOn with
        | _ k ihk =>
          intro hk
          cases hE : E k with
          | true => rfl
          | false =>
            exfalso
            obtain ⟨o, ho, hco⟩ := f.oper k hk
            obtain ⟨_, _, _, _, _, haft⟩ := cOper_parts hco
            have : k ∈ Region.ready .any ops listed := ready_spec.2 ⟨by rw [f.len]; exact hk, by rw [hL k hk, hE], o, ho, by
              intro e he hb
              have hm : e.on ∈ (O k).after := by
                rw [haft]
                exact List.mem_map.2 ⟨e, List.mem_filter.2 ⟨he, hb⟩, rfl⟩
              have hlt := f.aft k hk e.on hm
              rw [hL e.on (by omega)]
              exact ihk e.on hlt (by omega)⟩
            rw [hnil] at this
            cases this
      exact ⟨E, q, ts, tmps, ρ, w, .one step_region_end', v, hall⟩
    | some i =>
      simp only []
      rw [linearise_go_acc, List.reverse_singleton, List.singleton_append]
      obtain ⟨r1, r2, o, r3, r4⟩ := ready_spec.1 (List.mem_of_getElem? hi)
      rw [f.len] at r1
      have hE : E i = false := by rw [← hL i r1 true]; exact r2
      obtain ⟨o', ho', hco⟩ := f.oper i r1
      rw [r3] at ho'
      cases ho'
      obtain ⟨_, _, _, _, _, haft⟩ := cOper_parts hco
      have ha : ∀ d, d ∈ (O i).after → E d = true := by
        intro d hd
        have hdi := f.aft i r1 d hd
        rw [haft] at hd
        obtain ⟨e, he, rfl⟩ := List.mem_map.1 hd
        obtain ⟨he1, he2⟩ := List.mem_filter.1 he
        rw [← hL e.on (by omega) false]
        exact r4 e he1 he2
      obtain ⟨q1, ts1, tmps1, ρ1, w1, s1, v1⟩ := op_sound (b := b) (ds := ds) (k := k) (cs := cs) f hC hnt hb0 v r1 hE ha
        (Region.linearise.go .any ops fuel (t / (Region.ready .any ops listed).length) (listed.setIfInBounds i true) [])
      obtain ⟨E2, q2, ts2, tmps2, ρ2, w2, s2, v2, hall⟩ := ih (t / (Region.ready .any ops listed).length) (listed.setIfInBounds i true) (put1 E i) q1 ts1 tmps1 ρ1 w1 v1 (by simpa using hsz) (by
        intro k hk
        by_cases e : k = i
        · subst e
          rw [put1_self, Array.getD_eq_getD_getElem?, Array.getElem?_setIfInBounds_self_of_lt (by omega)]
          rfl
        · rw [put1_ne e, Array.getD_eq_getD_getElem?, Array.getElem?_setIfInBounds_ne (fun h => e h.symm), ← Array.getD_eq_getD_getElem?]
          exact hl k hk) (by
        have := unl_put (E := E) hE n
        have h1 : Nat.blt i n = true := by simpa [Nat.blt_eq] using r1
        rw [h1] at this
        simp only [cond_true] at this
        omega)
      exact ⟨E2, q2, ts2, tmps2, ρ2, w2, s1.trans s2, v2, hall⟩

end

section
variable {P : Program}

theorem itemsOf_len {l : List IOper} {its : List PIt} (h : itemsOf 0 l .nil = some its) : (its.map (·.i)).Nodup := by
  obtain ⟨h1, h2⟩ := items_spec l 0 .nil its h (fun d _ => Tr.get_nil d)
  have : its.map (·.i) = List.range its.length := by
    apply List.ext_getElem?
    intro k
    rw [List.getElem?_map]
    by_cases hk : k < its.length
    · rw [List.getElem?_eq_getElem hk, List.getElem?_range hk]
      have := (h2 k _ (List.getElem?_eq_getElem hk)).1
      simp only [Option.map_some]
      rw [this]; simp
    · rw [List.getElem?_eq_none (by omega), List.getElem?_eq_none (by simp; omega)]; rfl
  rw [this]
  exact List.nodup_range

theorem draw_sound (hm : P.follows .mixedOrders = true) (C : CB) (hC : CS P C) : DrawS P C := by
  intro b ds k cs nt ops l ins loose rest ρ ts ts' tmps h h' w t hl hc hv cx hnt
  obtain ⟨hlen, hget⟩ := mapM_some _ _ hl
  have hlen' : l.length = ops.size := by simpa using hlen
  unfold cDraw at hc
  split at hc
  · cases hc
  · rename_i its hits
    obtain ⟨hpairs, hc⟩ := cond_some hc
    injection hc with hc
    injection hc with hins hloose hrest _
    obtain ⟨i1, i2⟩ := items_spec l 0 .nil its hits (fun d _ => Tr.get_nil d)
    have hnd := itemsOf_len hits
    obtain ⟨j1, j2⟩ := insOf_spec its its 0
    obtain ⟨r1, r2⟩ := restOf_spec its its 0
    rw [hins] at j1 j2
    rw [hrest] at r1 r2
    unfold drawV at hv
    split at hv
    · cases hv
    · rename_i sts hsts
      obtain ⟨hlo, hv⟩ := cond_some hv
      simp only [nth_eq] at hv
      split at hv
      · rename_i sf hsf
        cases hv
        obtain ⟨d1, d2, d3⟩ := runD_spec C h.next l 0 ins _ sts hsts
        have hL := loose_spec loose hlo
        have its_at : ∀ k, k < l.length → ∃ x, its[k]? = some x ∧ x.i = k ∧ x.o = (l[k]?).getD default ∧ x.m = ((its[k]?).map (·.m)).getD 0 := by
          intro k hk
          have hk' : k < its.length := by omega
          obtain ⟨e1, e2, _⟩ := i2 k _ (List.getElem?_eq_getElem hk')
          exact ⟨its[k], List.getElem?_eq_getElem hk', by omega, by rw [e2]; rfl, by rw [List.getElem?_eq_getElem hk']; rfl⟩
        let s0 : DSt := { ts, h := { h with next := h.next + l.length }, mds := .nil, v := undefV, on := true }
        have st_at : ∀ k, k ≤ l.length → sts[k]? = some ((sts[k]?).getD s0) := by
          intro k hk
          rw [List.getElem?_eq_getElem (show k < sts.length by omega)]; rfl
        have s0eq : (sts[0]?).getD s0 = s0 := by rw [d2]; rfl
        have f : DF P C nt ops l.length h.next (fun k => (l[k]?).getD default) (fun k => ((its[k]?).map (·.m)).getD 0) (fun k => (ins[k]?).getD []) (fun k => (sts[k]?).getD s0) rest ts := {
          len := hlen'.symm
          oper := by
            intro k hk
            have h1 : k < ops.size := by omega
            refine ⟨ops[k], Array.getElem?_eq_getElem h1, ?_⟩
            have := hget k ops[k] l[k] (by simp [h1]) (List.getElem?_eq_getElem hk)
            simp only [List.getElem?_eq_getElem hk, Option.getD_some]
            exact this
          step := by
            intro k hk
            obtain ⟨ins', t1, t2, g1, g2, g3, g4⟩ := d3 k l[k] (List.getElem?_eq_getElem hk)
            simp only [List.getElem?_eq_getElem hk, Option.getD_some, g1, g2, g3]
            rw [Nat.zero_add] at g4
            exact g4
          ts := by simp only [s0eq]; rfl
          mds := by simp only [s0eq]; rfl
          aft := by
            intro k hk d hd
            obtain ⟨x, e1, e2, e3, e4⟩ := its_at k hk
            have := (i2 k x e1).2.2.1 d (by rw [e3]; exact hd)
            omega
          bits := by
            intro k hk bb hb
            obtain ⟨x, e1, e2, e3, e4⟩ := its_at k hk
            obtain ⟨_, _, g3, g4⟩ := i2 k x e1
            obtain ⟨d, hd, hh⟩ := g4 bb (by rw [e4]; exact hb)
            refine ⟨d, by rw [e3] at hd; exact hd, ?_⟩
            rcases hh with hh | ⟨md, m1, m2⟩
            · exact .inl hh
            · right
              simp only [mAt, Nat.not_lt_zero, if_false, Nat.sub_zero] at m1
              simp only [m1, Option.getD_some]
              exact m2
          pair := by
            intro a c hac hcn
            obtain ⟨x, e1, e2, e3, e4⟩ := its_at a (by omega)
            obtain ⟨y, f1, f2, f3, f4⟩ := its_at c hcn
            have := pairs_spec its hpairs a c x y hac e1 f1
            simp only [← e3, ← e4, ← f3, ← f4]
            have hx : x = ⟨a, x.o, x.m⟩ := by rw [← e2]
            have hy : y = ⟨c, y.o, y.m⟩ := by rw [← f2]
            rw [← hx, ← hy]
            exact this
          loose := by
            intro i e hi he hie hlk hef hb1 hb2 hon
            obtain ⟨x, e1, e2, e3, e4⟩ := its_at i hi
            obtain ⟨y, f1, f2, f3, f4⟩ := its_at e he
            have hmem : (i, e) ∈ loose := by
              rw [← hloose]
              rcases Nat.lt_trichotomy i e with h | h | h
              · refine looses_spec its i e x y h e1 f1 _ ?_
                unfold loosePair
                rw [e2, f2]
                have hb := hb1 h
                simp only [← f4] at hb
                simp only [← e3] at hlk
                simp only [← f3] at hef
                simp [hb, hlk, hef]
              · exact absurd h hie
              · refine looses_spec its e i y x h f1 e1 _ ?_
                unfold loosePair
                rw [e2, f2]
                have hb := hb2 h
                simp only [← e4] at hb
                simp only [← e3] at hlk
                simp only [← f3] at hef
                have hne : isEf x.o.op = false := by
                  cases hx : x.o.op <;> rw [hx] at hlk <;> first | rfl | cases hlk
                simp [hb, hlk, hef, hne]
            obtain ⟨o, t1, t2, t3, t4, g1, g2, g3, g4, g5, g6⟩ := hL i e hmem
            simp only [g1, g2, g3, g4, g5, Option.getD_some] at hon ⊢
            exact g6 hon
          ins0 := by
            intro k hk hef
            obtain ⟨x, e1, e2, e3, e4⟩ := its_at k hk
            obtain ⟨ins', g1, g2, _⟩ := j2 k x e1
            simp only [g1, Option.getD_some]
            exact g2 (by rw [e3]; exact hef)
          nodup := by
            intro k hk
            obtain ⟨x, e1, e2, e3, e4⟩ := its_at k hk
            obtain ⟨ins', g1, g2, g3, _⟩ := j2 k x e1
            simp only [g1, Option.getD_some]
            exact g3.resolve_right (fun hn => hn hnd)
          ins := by
            intro k hk a ha
            obtain ⟨x, e1, e2, e3, e4⟩ := its_at k hk
            obtain ⟨ins', g1, g2, g3, g4⟩ := j2 k x e1
            simp only [g1, Option.getD_some] at ha
            obtain ⟨⟨y, y1, y2, y3⟩, k1, k2, k3⟩ := g4 a ha
            refine ⟨?_, by rw [← e4]; exact k1, ?_⟩
            · obtain ⟨m, hm', hy⟩ := List.getElem_of_mem y1
              have := (i2 m y (by rw [List.getElem?_eq_getElem hm', hy])).1
              omega
            · intro e hek hef
              obtain ⟨z, f1, f2, f3, f4⟩ := its_at e (by omega)
              rw [← f4]
              exact k3 e z hek f1 (by rw [f3]; exact hef)
          rnodup := r1.resolve_right (fun hn => hn hnd)
          rest := by
            intro a ha
            obtain ⟨⟨y, y1, y2, y3⟩, k2, k3⟩ := r2 a ha
            refine ⟨?_, ?_⟩
            · obtain ⟨m, hm', hy⟩ := List.getElem_of_mem y1
              have := (i2 m y (by rw [List.getElem?_eq_getElem hm', hy])).1
              omega
            · intro e he hef
              obtain ⟨z, f1, f2, f3, f4⟩ := its_at e he
              rw [← f4]
              exact k3 z (List.mem_of_getElem? f1) (by rw [f3]; exact hef) }
        have hnone : ∀ x, h.next ≤ x → ρ x = none := by
          intro x hx
          cases hh : ρ x with
          | none => rfl
          | some y => have := (cx.hr.bnd x y hh).1; omega
        have v0 : Inv P l.length h.next (fun k => (l[k]?).getD default) (fun k => (ins[k]?).getD []) (fun k => (sts[k]?).getD s0) ts h ρ w tmps.size (fun _ => false) 0 ts tmps ρ w := {
          shut := by intro k hk hE; cases hE
          tsA := by intro j hj hE; cases hE
          tsB := fun _ _ => rfl
          tr := cx.tr
          size := rfl
          hr := by
            simp only [s0eq]
            exact ⟨cx.hr.obj, cx.hr.inj, fun b x hx => ⟨by have := (cx.hr.bnd b x hx).1; show b < h.next + l.length; omega, (cx.hr.bnd b x hx).2⟩, cx.hr.glob⟩
          qn := Nat.zero_le _
          qE := by intro e he _; simp
          stp := by
            simp only [s0eq]
            exact ⟨.refl ρ, fun b x hb hx => .inr ⟨b, x, hb, hx, rfl⟩, Nat.le_refl _, fun _ _ _ => rfl, rfl, rfl, rfl, Nat.le_add_right _ _, fun _ _ => rfl, fun _ => rfl⟩
          nx := by simp only [s0eq]; exact Nat.le_refl _
          pend := by intro a _ hE; cases hE
          fresh := fun a _ _ => hnone _ (by omega)
          inj := by
            intro a bb x y _ _ _ hx
            rw [hnone _ (by omega)] at hx; cases hx }
        obtain ⟨E, q, ts1, tmps1, ρ1, w1, st, v1, hall⟩ := go_sound (b := b) (ds := ds) (k := k) (cs := cs) f hC hnt rfl ops.size t (Array.replicate ops.size false) (fun _ => false) 0 ts tmps ρ w v0 (by simp [hlen']) (by
          intro k hk
          simp [Array.getD_eq_getD_getElem?, show k < ops.size by omega]) (by rw [unl_none]; exact hlen')
        have hq : ((sts[q]?).getD s0).h = ((sts[l.length]?).getD s0).h := f.heapEq v1.qn (Nat.le_refl _) (by
          intro e he hfe
          have := v1.qE e he hfe
          rw [hall e he] at this
          simp only [true_iff] at this
          omega)
        have hsf' : (sts[l.length]?).getD s0 = sf := by rw [hsf]; rfl
        rw [hsf'] at hq
        have hr1 := v1.hr
        have hs1 := v1.stp
        simp only [hq] at hr1 hs1
        obtain ⟨x1, x2, x3, x4⟩ := ins_sound (base := h.next) (n := l.length) (mds := sf.mds) v1.inj rest hr1 hs1 f.rnodup (fun a ha => (f.rest a ha).1) (by
          intro a ha ob hob
          obtain ⟨g1, g2⟩ := f.rest a ha
          have hmd := f.mdsAt l.length (Nat.le_refl _) a
          simp only [hsf'] at hmd
          rw [hmd, if_pos g1] at hob
          have := v1.pend a g1 (hall a g1) ob hob (by
            intro e he hfe _ hin
            have := g2 e he hfe
            rw [(f.ins e he a hin).2.1] at this; cases this)
          simp only [hq] at this
          exact this)
        refine ⟨ρ1, tmps1, w1, ?_, ⟨?_, x1⟩, x2, v1.size⟩
        · simp only [Region.schedule, hm, Bool.true_or, if_true, Region.linearise]
          exact st
        · have hts : ∀ t, sf.ts.get t = ts1.get t := by
            intro t
            obtain ⟨a1, a2⟩ := f.tsAt l.length (Nat.le_refl _)
            simp only [hsf'] at a1 a2
            by_cases hw : ∃ j, j < l.length ∧ ((l[j]?).getD default).dst = some t
            · obtain ⟨j, hj, hd⟩ := hw
              rw [a1 j hj t hd, v1.tsA j hj (hall j hj) t hd]
            · rw [a2 t (fun j hj hd => hw ⟨j, hj, hd⟩), v1.tsB t (fun j hj _ hd => hw ⟨j, hj, hd⟩)]
          intro t x hx
          rw [hts] at hx
          exact v1.tr t x hx
      · cases hv

/-- the executor is sound -/
theorem exec_sound (hm : P.follows .mixedOrders = true) {F : Nat → Option IFunc} (hF : ∀ f fn, F f = some fn → cFunc P f = some fn) {X : Nat → List Value → AHeap → Option (Value × AHeap)} (hX : XS P X) (lf n : Nat) :
    CS P (lvl F X lf n) := lvl_sound hF hX (draw_sound hm) lf n

end
end Go.Dv

/- The executor, dispatched by closed functions: the same, and faster to reckon. Printed by mkfast.py, but for its end. -/
namespace Go.Dv
set_option linter.unusedVariables false

noncomputable def rdV_mov (x : Opd) (h : AHeap) (ts : Tr Value) : Option Value := ev ts x
noncomputable def rdV_pick (c : Opd) (a : Opd) (b : Opd) (h : AHeap) (ts : Tr Value) : Option Value := match ev ts c with
    | some (.bool t) => cond t (ev ts a) (ev ts b)
    | _ => none
noncomputable def rdV_nilChk (x : Opd) (h : AHeap) (ts : Tr Value) : Option Value := match ev ts x with
    | some (.pointer (some a)) => some (.pointer (some a))
    | _ => none
noncomputable def rdV_bin (op : BinOp) (x : Opd) (y : Opd) (h : AHeap) (ts : Tr Value) : Option Value := match ev ts x, ev ts y with
    | some a, some b => binV op a b
    | _, _ => none
noncomputable def rdV_eq (neg : Bool) (d : EqD) (x : Opd) (y : Opd) (h : AHeap) (ts : Tr Value) : Option Value := match ev ts x, ev ts y with
    | some a, some b => match eqV h d a b with
      | some r => some (.bool (cond neg (!r) r))
      | none => none
    | _, _ => none
noncomputable def rdV_un (op : UnOp) (x : Opd) (h : AHeap) (ts : Tr Value) : Option Value := match ev ts x with
    | some a => unV op a
    | none => none
noncomputable def rdV_conv (k : IntKind) (x : Opd) (h : AHeap) (ts : Tr Value) : Option Value := match ev ts x with
    | some (.int _ n) => some (.int k (k.wrap n))
    | _ => none
noncomputable def rdV_convS (x : Opd) (h : AHeap) (ts : Tr Value) : Option Value := match ev ts x with
    | some (.string s) => some (.string s)
    | _ => none
noncomputable def rdV_mkIface (t : Nat) (x : Opd) (h : AHeap) (ts : Tr Value) : Option Value := match ev ts x with
    | some v => some (.iface t v)
    | none => none
noncomputable def rdV_mkFunc (fn : Fn) (first : List Opd) (cap : List Opd) (h : AHeap) (ts : Tr Value) : Option Value := match evs ts first, evs ts cap with
    | some a, some b => some (.func fn a.toArray b.toArray)
    | _, _ => none
noncomputable def rdV_build (z : List Value) (ps : List (Nat × Nat × Opd)) (h : AHeap) (ts : Tr Value) : Option Value := match fillL ts z ps with
    | some l => some (.agg l.toArray)
    | none => none
noncomputable def rdV_slice (k : SliceK) (x : Opd) (lo : Option Opd) (hi : Option Opd) (mx : Option Opd) (h : AHeap) (ts : Tr Value) : Option Value := match ev ts x, evo ts lo, evo ts hi, evo ts mx with
    | some v, some a, some b, some c => sliceV h k v a b c
    | _, _, _, _ => none
noncomputable def rdV_fieldAddr (off : Nat) (x : Opd) (h : AHeap) (ts : Tr Value) : Option Value := match ev ts x with
    | some (.pointer (some ⟨b, o, none⟩)) => some (.pointer (some ⟨b, o + off, none⟩))
    | _ => none
noncomputable def rdV_field (off : Nat) (n : Nat) (ag : Bool) (x : Opd) (h : AHeap) (ts : Tr Value) : Option Value := match ev ts x with
    | some (.agg cs) => partL cs.toList off n ag
    | _ => none
noncomputable def rdV_indexAddr (len : Option Nat) (es : Nat) (x : Opd) (i : Opd) (h : AHeap) (ts : Tr Value) : Option Value := match ev ts x, ev ts i with
    | some v, some j => match len, v with
      | some n, .pointer (some ⟨b, o, none⟩) => match idx j n with
        | some m => some (.pointer (some ⟨b, o + m * es, none⟩))
        | none => none
      | none, .slice (some ⟨b, o, none⟩) n _ => match idx j n with
        | some m => some (.pointer (some ⟨b, o + m * es, none⟩))
        | none => none
      | _, _ => none
    | _, _ => none
noncomputable def rdV_indexA (len : Nat) (es : Nat) (ag : Bool) (x : Opd) (i : Opd) (h : AHeap) (ts : Tr Value) : Option Value := match ev ts x, ev ts i with
    | some (.agg cs), some j => match idx j len with
      | some m => partL cs.toList (m * es) es ag
      | none => none
    | _, _ => none
noncomputable def rdV_indexS (x : Opd) (i : Opd) (h : AHeap) (ts : Tr Value) : Option Value := match ev ts x, ev ts i with
    | some (.string s), some j => match idx j s.size with
      | some m => match nth s.data.toList m with
        | some b => some (.int .u8 (b.toNat : Nat))
        | none => none
      | none => none
    | _, _ => none
noncomputable def rdV_extract (i : Nat) (x : Opd) (h : AHeap) (ts : Tr Value) : Option Value := match ev ts x with
    | some (.tuple vs) => nth vs.toList i
    | _ => none
noncomputable def rdV_load (n : Nat) (ag : Bool) (a : Opd) (h : AHeap) (ts : Tr Value) : Option Value := match ev ts a with
    | some (.pointer (some ⟨b, o, none⟩)) => match h.row b with
      | some c => match c.loads o n with
        | some l => aggOr ag l
        | none => none
      | none => none
    | _ => none
noncomputable def rdV_lookup (keys : Nat) (z : Value) (ok : Bool) (m : Opd) (k : Opd) (h : AHeap) (ts : Tr Value) : Option Value := match ev ts m, ev ts k with
    | some (.map r), some kv =>
      match (match r with
        | none => some []
        | some r => match h.get r with
          | some (.map es _) => some es
          | _ => none) with
      | none => none
      | some es => match cond (isKey keys kv) (findK keys kv es 0) none with
        | some (some (_, v)) => some (cond ok (.tuple #[v, .bool true]) v)
        | some none => some (cond ok (.tuple #[z, .bool false]) z)
        | none => none
    | _, _ => none
noncomputable def rdV_len (k : Nat) (x : Opd) (h : AHeap) (ts : Tr Value) : Option Value := match k, ev ts x with
    | 0, some (.string s) => some (.int .i64 s.size)
    | 1, some (.slice _ n _) => some (.int .i64 n)
    | 2, some (.map none) => some (.int .i64 0)
    | 2, some (.map (some r)) => match h.get r with
      | some (.map es _) => some (.int .i64 es.length)
      | _ => none
    | _, _ => none
noncomputable def rdV_lenA (n : Nat) (h : AHeap) (ts : Tr Value) : Option Value := some (.int .i64 n)
noncomputable def rdV_minmax (mn : Bool) (x : Opd) (y : Opd) (h : AHeap) (ts : Tr Value) : Option Value := match ev ts x, ev ts y with
    | some (.int k a), some (.int k' b) => if k = k' then some (.int k (cond mn (if b < a then b else a) (if b > a then b else a))) else none
    | _, _ => none
noncomputable def rdV_b2s (x : Opd) (h : AHeap) (ts : Tr Value) : Option Value := match ev ts x with
    | some (.slice none _ _) => some (.string .empty)
    | some (.slice (some ⟨b, o, none⟩) n _) => match h.row b with
      | some c => match c.loads o n with
        | some l => match l.mapM (fun v => match v with | .int .u8 m => some (UInt8.ofNat m.toNat) | _ => none) with
          | some bs => some (.string ⟨bs.toArray⟩)
          | none => none
        | none => none
      | none => none
    | _ => none
noncomputable def rdV_entry (x : Opd) (h : AHeap) (ts : Tr Value) : Option Value := match ev ts x with
    | some (.pointer (some ⟨r, 0, none⟩)) => match h.get r with
      | some (.mIter (some m) _ seen stepped) => match h.get m, seen.getLast? with
        | some (.map es clock), some stamp => cond (Nat.beq clock stepped) (match es.find? (fun e => Nat.beq e.2.2 stamp) with
          | some (k, v, _) => some (.tuple #[k, v])
          | none => none) none
        | _, _ => none
      | _ => none
    | _ => none
noncomputable def rdV_no (_ : AHeap) (_ : Tr Value) : Option Value := none
noncomputable def rdF (h : AHeap) (ts : Tr Value) (o : IOp) : Option Value :=
  IOp.rec (motive := fun _ => AHeap → Tr Value → Option Value)
    rdV_mov
    rdV_pick
    rdV_nilChk
    rdV_bin
    rdV_eq
    rdV_un
    rdV_conv
    rdV_convS
    rdV_b2s
    rdV_mkIface
    rdV_mkFunc
    rdV_build
    rdV_slice
    rdV_fieldAddr
    rdV_field
    rdV_indexAddr
    rdV_indexA
    rdV_indexS
    rdV_extract
    rdV_load
    rdV_lookup
    rdV_entry
    rdV_len
    rdV_lenA
    rdV_minmax
    (fun _ _ _ => rdV_no)
    (fun _ _ _ => rdV_no)
    (fun _ _ _ _ _ => rdV_no)
    rdV_no
    (fun _ _ _ _ _ _ => rdV_no)
    (fun _ _ => rdV_no)
    (fun _ _ _ => rdV_no)
    (fun _ _ _ _ => rdV_no)
    (fun _ _ _ => rdV_no)
    (fun _ _ => rdV_no)
    (fun _ _ => rdV_no)
    (fun _ _ _ _ _ => rdV_no)
    (fun _ _ _ => rdV_no)
    (fun _ _ _ => rdV_no)
    (fun _ => rdV_no)
    (fun _ _ => rdV_no) o h ts
theorem rdF_eq (h : AHeap) (ts : Tr Value) (o : IOp) : rdF h ts o = rdV h ts o := by cases o <;> rfl

noncomputable def mkV_new (n : Nat) (et : Nat) (z : List Value) (ts : Tr Value) : Option (AObj × Made) := some (.row { n, ex := true, es := n, et, fz := none, z, t := .nil }, .ptr)
noncomputable def mkV_box (n : Nat) (et : Nat) (x : Opd) (ts : Tr Value) : Option (AObj × Made) := match ev ts x with
    | some v => cond (Nat.beq (cellsL v).length n) (some (.row (rowOf true n et (cellsL v)), .ptr)) none
    | none => none
noncomputable def mkV_buildSlice (len : Nat) (es : Nat) (et : Nat) (z : List Value) (ps : List (Nat × Nat × Opd)) (ts : Tr Value) : Option (AObj × Made) := match fillL ts (reps z len) ps with
    | some l => some (.row (rowOf true es et l), .sl len len)
    | none => none
noncomputable def mkV_mkMap  (ts : Tr Value) : Option (AObj × Made) := some (.map [] 0, .map)
noncomputable def mkV_mkSlice (es : Nat) (et : Nat) (bytes : Nat) (z : List Value) (l : Opd) (c : Opd) (ts : Tr Value) : Option (AObj × Made) := match ev ts l, ev ts c with
    | some (.int _ (.ofNat l)), some (.int _ (.ofNat c)) =>
      cond (Nat.ble l c && Nat.ble (bytes * c) 281474976710656 && Nat.ble c 9223372036854775807)
        (some (.row { n := c * es, ex := true, es, et, fz := none, z, t := .nil }, .sl l c)) none
    | _, _ => none
noncomputable def mkV_s2b (et : Nat) (x : Opd) (ts : Tr Value) : Option (AObj × Made) := match ev ts x with
    | some (.string s) => some (.row { rowOf false 1 et (s.data.toList.map fun b => .int .u8 (b.toNat : Nat)) with fz := some 0 }, .sl s.size s.size)
    | _ => none
noncomputable def mkV_no (_ : Tr Value) : Option (AObj × Made) := none
noncomputable def mkF (ts : Tr Value) (o : IOp) : Option (AObj × Made) :=
  IOp.rec (motive := fun _ => Tr Value → Option (AObj × Made))
    (fun _ => mkV_no)
    (fun _ _ _ => mkV_no)
    (fun _ => mkV_no)
    (fun _ _ _ => mkV_no)
    (fun _ _ _ _ => mkV_no)
    (fun _ _ => mkV_no)
    (fun _ _ => mkV_no)
    (fun _ => mkV_no)
    (fun _ => mkV_no)
    (fun _ _ => mkV_no)
    (fun _ _ _ => mkV_no)
    (fun _ _ => mkV_no)
    (fun _ _ _ _ _ => mkV_no)
    (fun _ _ => mkV_no)
    (fun _ _ _ _ => mkV_no)
    (fun _ _ _ _ => mkV_no)
    (fun _ _ _ _ _ => mkV_no)
    (fun _ _ => mkV_no)
    (fun _ _ => mkV_no)
    (fun _ _ _ => mkV_no)
    (fun _ _ _ _ _ => mkV_no)
    (fun _ => mkV_no)
    (fun _ _ => mkV_no)
    (fun _ => mkV_no)
    (fun _ _ _ => mkV_no)
    mkV_new
    mkV_box
    mkV_buildSlice
    mkV_mkMap
    mkV_mkSlice
    mkV_s2b
    (fun _ _ _ => mkV_no)
    (fun _ _ _ _ => mkV_no)
    (fun _ _ _ => mkV_no)
    (fun _ _ => mkV_no)
    (fun _ _ => mkV_no)
    (fun _ _ _ _ _ => mkV_no)
    (fun _ _ _ => mkV_no)
    (fun _ _ _ => mkV_no)
    (fun _ => mkV_no)
    (fun _ _ => mkV_no) o ts
theorem mkF_eq (ts : Tr Value) (o : IOp) : mkF ts o = mkV ts o := by cases o <;> rfl

noncomputable def efV_store (n : Nat) (a : Opd) (x : Opd) (C : CB) (ts : Tr Value) (h : AHeap) : Option (Value × AHeap) := match ev ts a, ev ts x with
    | some (.pointer (some ⟨b, o, none⟩)), some v => cond (Nat.beq (cellsL v).length n) (match storeAtH h b o (cellsL v) with
      | some h' => some (undefV, h')
      | none => none) none
    | _, _ => none
noncomputable def efV_mapUpd (keys : Nat) (m : Opd) (k : Opd) (v : Opd) (C : CB) (ts : Tr Value) (h : AHeap) : Option (Value × AHeap) := match ev ts m, ev ts k, ev ts v with
    | some (.map (some r)), some kv, some x => match h.get r with
      | some (.map es clock) => match cond (isKey keys kv) (findK keys kv es 0) none with
        | some (some (i, _)) => some (undefV, h.put r (.map (es.modify i fun e => (kv, x, e.2.2)) clock))
        | some none => some (undefV, h.put r (.map (es ++ [(kv, x, clock)]) (clock + 1)))
        | none => none
      | _ => none
    | _, _, _ => none
noncomputable def efV_delete (keys : Nat) (m : Opd) (k : Opd) (C : CB) (ts : Tr Value) (h : AHeap) : Option (Value × AHeap) := match ev ts m, ev ts k with
    | some (.map none), some kv => cond (isKey keys kv) (some (.tuple #[], h)) none
    | some (.map (some r)), some kv => match h.get r with
      | some (.map es clock) => match cond (isKey keys kv) (findK keys kv es 0) none with
        | some (some (i, _)) => some (.tuple #[], h.put r (.map (es.eraseIdx i) clock))
        | some none => some (.tuple #[], h.put r (.map es clock))
        | none => none
      | _ => none
    | _, _ => none
noncomputable def efV_range (str : Bool) (x : Opd) (C : CB) (ts : Tr Value) (h : AHeap) : Option (Value × AHeap) := match str, ev ts x with
    | true, some (.string s) => some (.pointer (some ⟨h.next, 0, none⟩), h.new (.sIter s 0))
    | false, some (.map none) => some (.pointer (some ⟨h.next, 0, none⟩), h.new (.mIter none 0 [] 0))
    | false, some (.map (some m)) => match h.get m with
      | some (.map _ clock) => some (.pointer (some ⟨h.next, 0, none⟩), h.new (.mIter (some m) clock [] clock))
      | _ => none
    | _, _ => none
noncomputable def efV_next (str : Bool) (x : Opd) (C : CB) (ts : Tr Value) (h : AHeap) : Option (Value × AHeap) := match ev ts x with
    | some (.pointer (some ⟨r, 0, none⟩)) => match str, h.get r with
      | true, some (.sIter s pos) =>
        cond (Nat.blt pos s.size)
          (match Utf8.decode s pos with
           | (c, width) => some (.tuple #[.bool true, .int .i64 pos, .int .i32 c], h.put r (.sIter s (pos + width))))
          (some (.tuple #[.bool false], h))
      | false, some (.mIter none _ _ _) => some (.tuple #[.bool false], h)
      | false, some (.mIter (some m) since seen last) => match h.get m with
        | some (.map es clock) =>
          cond (!seen.isEmpty && !es.isEmpty && es.all (fun e => Nat.ble last e.2.2)) none
          (match es.filter (fun e => !seen.contains e.2.2) with
           | [] => some (.tuple #[.bool false], h)
           | [(k, v, born)] => cond (Nat.blt born since) (some (.tuple #[.bool true, k, v], h.put r (.mIter (some m) since (seen ++ [born]) clock))) none
           | _ => none)
        | _ => none
      | _, _ => none
    | _ => none
noncomputable def efV_append (es : Nat) (et : Nat) (bytes : Nat) (s : Opd) (x : Opd) (C : CB) (ts : Tr Value) (h : AHeap) : Option (Value × AHeap) := match ev ts s, ev ts x with
    | some a, some b => appendV h es et bytes a b
    | _, _ => none
noncomputable def efV_copy (es : Nat) (d : Opd) (s : Opd) (C : CB) (ts : Tr Value) (h : AHeap) : Option (Value × AHeap) := match ev ts d, ev ts s with
    | some (.slice base dl _), some x => match lenV x with
      | some sl => match srcL h es (Nat.min sl dl) x with
        | some [] => some (.int .i64 (Nat.min sl dl : Nat), h)
        | some (v :: l) => match base with
          | some ⟨b, o, none⟩ => match storeAtH h b o (v :: l) with
            | some h' => some (.int .i64 (Nat.min sl dl : Nat), h')
            | none => none
          | _ => none
        | none => none
      | none => none
    | _, _ => none
noncomputable def efV_clear (es : Nat) (z : List Value) (x : Opd) (C : CB) (ts : Tr Value) (h : AHeap) : Option (Value × AHeap) := match ev ts x with
    | some (.slice none _ _) => some (.tuple #[], h)
    | some (.slice (some ⟨b, o, none⟩) n _) => cond (Nat.beq n 0) (some (.tuple #[], h)) (match storeAtH h b o (reps z n) with
      | some h' => some (.tuple #[], h')
      | none => none)
    | _ => none
noncomputable def efV_clearM (x : Opd) (C : CB) (ts : Tr Value) (h : AHeap) : Option (Value × AHeap) := match ev ts x with
    | some (.map none) => some (.tuple #[], h)
    | some (.map (some r)) => match h.get r with
      | some (.map _ clock) => some (.tuple #[], h.put r (.map [] clock))
      | _ => none
    | _ => none
noncomputable def efV_call (f : Opd) (args : List Opd) (C : CB) (ts : Tr Value) (h : AHeap) : Option (Value × AHeap) := match ev ts f, evs ts args with
    | some g, some as => callV C g as h
    | _, _ => none
noncomputable def efV_no (_ : CB) (_ : Tr Value) (_ : AHeap) : Option (Value × AHeap) := none
noncomputable def efF (C : CB) (ts : Tr Value) (h : AHeap) (o : IOp) : Option (Value × AHeap) :=
  IOp.rec (motive := fun _ => CB → Tr Value → AHeap → Option (Value × AHeap))
    (fun _ => efV_no)
    (fun _ _ _ => efV_no)
    (fun _ => efV_no)
    (fun _ _ _ => efV_no)
    (fun _ _ _ _ => efV_no)
    (fun _ _ => efV_no)
    (fun _ _ => efV_no)
    (fun _ => efV_no)
    (fun _ => efV_no)
    (fun _ _ => efV_no)
    (fun _ _ _ => efV_no)
    (fun _ _ => efV_no)
    (fun _ _ _ _ _ => efV_no)
    (fun _ _ => efV_no)
    (fun _ _ _ _ => efV_no)
    (fun _ _ _ _ => efV_no)
    (fun _ _ _ _ _ => efV_no)
    (fun _ _ => efV_no)
    (fun _ _ => efV_no)
    (fun _ _ _ => efV_no)
    (fun _ _ _ _ _ => efV_no)
    (fun _ => efV_no)
    (fun _ _ => efV_no)
    (fun _ => efV_no)
    (fun _ _ _ => efV_no)
    (fun _ _ _ => efV_no)
    (fun _ _ _ => efV_no)
    (fun _ _ _ _ _ => efV_no)
    efV_no
    (fun _ _ _ _ _ _ => efV_no)
    (fun _ _ => efV_no)
    efV_store
    efV_mapUpd
    efV_delete
    efV_range
    efV_next
    efV_append
    efV_copy
    efV_clear
    efV_clearM
    efV_call o C ts h
theorem efF_eq (C : CB) (ts : Tr Value) (h : AHeap) (o : IOp) : efF C ts h o = efV C ts h o := by cases o <;> rfl

noncomputable def opF (C : CB) (ts : Tr Value) (h : AHeap) (o : IOp) : Option (Value × AHeap) :=
  cond (isEf o) (efF C ts h o)
    (cond (isMk o) (match mkF ts o with
      | some (ob, m) => some (m.val h.next, h.new ob)
      | none => none)
      (match rdF h ts o with
       | some v => some (v, h)
       | none => none))
theorem opF_eq (C : CB) (ts : Tr Value) (h : AHeap) (o : IOp) : opF C ts h o = opV C ts h o := by
  unfold opF opV; rw [efF_eq, mkF_eq, rdF_eq]; all_goals rfl

noncomputable def opsF_cons (C : CB) (o : IOper) (go : Tr Value → AHeap → Option (Tr Value × AHeap)) (ts : Tr Value) (h : AHeap) : Option (Tr Value × AHeap) :=
  match wantedV ts o.guard with
    | none => none
    | some false => go (setD ts o.dst undefV) h
    | some true => match opF C ts h o.op with
      | some (v, h') => go (setD ts o.dst v) h'
      | none => none
noncomputable def opsF (C : CB) (l : List IOper) (ts : Tr Value) (h : AHeap) : Option (Tr Value × AHeap) :=
  List.rec (motive := fun _ => Tr Value → AHeap → Option (Tr Value × AHeap)) (fun ts h => some (ts, h)) (fun o _ go => opsF_cons C o go) l ts h
theorem opsF_eq (C : CB) (l : List IOper) : ∀ (ts : Tr Value) (h : AHeap), opsF C l ts h = opsV C l ts h := by
  induction l with
  | nil => intro ts h; all_goals rfl
  | cons o l ih =>
    intro ts h
    show opsF_cons C o (opsF C l) ts h = _
    unfold opsF_cons
    simp only [opsV, opF_eq, ih]; all_goals rfl

noncomputable def stepF (C : CB) (base i : Nat) (o : IOper) (ins : List Nat) (s : DSt) : Option DSt :=
  match wantedV s.ts o.guard with
  | none => none
  | some false => some { ts := setD s.ts o.dst undefV, h := insL base s.mds ins s.h, mds := s.mds, v := undefV, on := false }
  | some true =>
    cond (isEf o.op) (match efF C s.ts (insL base s.mds ins s.h) o.op with
      | some (v, h') => some { ts := setD s.ts o.dst v, h := h', mds := s.mds, v, on := true }
      | none => none)
      (cond (isMk o.op) (match mkF s.ts o.op with
        | some (ob, m) => some { ts := setD s.ts o.dst (m.val (base + i)), h := s.h, mds := s.mds.set i (some ob), v := m.val (base + i), on := true }
        | none => none)
        (match rdF s.h s.ts o.op with
        | some v => some { ts := setD s.ts o.dst v, h := s.h, mds := s.mds, v, on := true }
        | none => none))
theorem stepF_eq (C : CB) (base i : Nat) (o : IOper) (ins : List Nat) (s : DSt) : stepF C base i o ins s = stepD C base i o ins s := by
  unfold stepF stepD; rw [efF_eq, mkF_eq, rdF_eq]; all_goals rfl

noncomputable def runDF_cons (C : CB) (base : Nat) (o : IOper) (go : Nat → List (List Nat) → DSt → Option (List DSt)) (i : Nat) (as : List (List Nat)) (s : DSt) : Option (List DSt) :=
  match as with
  | [] => none
  | ins :: as => match stepF C base i o ins s with
    | some s' => match go (i + 1) as s' with
      | some ss => some (s :: ss)
      | none => none
    | none => none
noncomputable def runDF (C : CB) (base : Nat) (i : Nat) (l : List IOper) (as : List (List Nat)) (s : DSt) : Option (List DSt) :=
  List.rec (motive := fun _ => Nat → List (List Nat) → DSt → Option (List DSt)) (fun _ _ s => some [s]) (fun o _ go => runDF_cons C base o go) l i as s
theorem runDF_eq (C : CB) (base : Nat) (l : List IOper) : ∀ (i : Nat) (as : List (List Nat)) (s : DSt), runDF C base i l as s = runD C base i l as s := by
  induction l with
  | nil => intro i as s; all_goals rfl
  | cons o l ih =>
    intro i as s
    show runDF_cons C base o (fun i as s => runDF C base i l as s) i as s = _
    unfold runDF_cons
    cases as with
    | nil => rfl
    | cons ins as => simp only [runD, stepF_eq, ih]; all_goals rfl

noncomputable def drawF (C : CB) (ins : List (List Nat)) (loose : List (Nat × Nat)) (rest : List Nat) (ops : List IOper) (ts : Tr Value) (h : AHeap) : Option (Tr Value × AHeap) :=
  match runDF C h.next 0 ops ins { ts, h := { h with next := h.next + ops.length }, mds := .nil, v := undefV, on := true } with
  | none => none
  | some sts => cond (looseOk ops sts loose) (match nth sts ops.length with
    | some s => some (s.ts, insL h.next s.mds rest s.h)
    | none => none) none
theorem drawF_eq (C : CB) (ins : List (List Nat)) (loose : List (Nat × Nat)) (rest : List Nat) (ops : List IOper) (ts : Tr Value) (h : AHeap) : drawF C ins loose rest ops ts h = drawV C ins loose rest ops ts h := by
  unfold drawF drawV; rw [runDF_eq]; all_goals rfl

abbrev RunT := CB → Nat → Nat → Nat → Option Nat → St → Option (Ex × St)
noncomputable def runF_skip : RunT := fun _ _ _ _ _ s => some (.norm, s)
noncomputable def runF_region (ops : List IOper) : RunT := fun C _ _ _ _ s => match opsF C ops s.ts s.h with
    | some (ts, h) => some (.norm, { s with ts, h })
    | none => none
noncomputable def runF_draw (ins : List (List Nat)) (loose : List (Nat × Nat)) (rest : List Nat) (ops : List IOper) : RunT := fun C _ _ _ _ s => match drawF C ins loose rest ops s.ts s.h with
    | some (ts, h) => some (.norm, { s with ts, h })
    | none => none
noncomputable def runF_seq (_ _ : ICode) (ra rb : RunT) : RunT := fun C fn nt lf ir s => match ra C fn nt lf ir s with
    | some (.norm, s') => rb C fn nt lf ir s'
    | r => r
noncomputable def runF_cond (c : Opd) (_ _ : ICode) (ra rb : RunT) : RunT := fun C fn nt lf ir s => match ev s.ts c with
    | some (.bool true) => ra C fn nt lf ir s
    | some (.bool false) => rb C fn nt lf ir s
    | _ => none
noncomputable def runF_block (id : Nat) (_ : ICode) (rc : RunT) : RunT := fun C fn nt lf ir s => match rc C fn nt lf ir s with
    | some (.exit id', s') => cond (Nat.beq id' id) (some (.norm, s')) (some (.exit id', s'))
    | r => r
noncomputable def runF_loop (_ : ICode) (rc : RunT) : RunT := fun C fn nt lf ir s => loopN (rc C fn nt lf ir) lf s
noncomputable def runF_rfunc (f : Opd) (ps : List Nat) (assign body : ICode) (_ _ : RunT) : RunT := fun C fn nt lf ir s => run C fn nt lf ir (.rfunc f ps assign body) s
noncomputable def runF_exit (id : Nat) : RunT := fun _ _ _ _ _ s => some (.exit id, s)
noncomputable def runF_ret : RunT := fun _ _ _ _ _ s => some (.ret, s)
noncomputable def runF (C : CB) (fn nt lf : Nat) (ir : Option Nat) (c : ICode) (s : St) : Option (Ex × St) :=
  ICode.rec (motive := fun _ => RunT) runF_skip runF_region runF_draw runF_seq runF_cond runF_block runF_loop runF_rfunc runF_exit runF_ret c C fn nt lf ir s
theorem runF_eq (C : CB) (fn nt lf : Nat) (ir : Option Nat) (c : ICode) : ∀ s, runF C fn nt lf ir c s = run C fn nt lf ir c s := by
  induction c with
  | skip => intro s; all_goals rfl
  | region ops => intro s; show (match opsF C ops s.ts s.h with | some (ts, h) => some (Ex.norm, { s with ts, h }) | none => none) = _; rw [opsF_eq]; all_goals rfl
  | draw ins loose rest ops => intro s; show (match drawF C ins loose rest ops s.ts s.h with | some (ts, h) => some (Ex.norm, { s with ts, h }) | none => none) = _; rw [drawF_eq]; all_goals rfl
  | seq a b iha ihb =>
    intro s
    show (match runF C fn nt lf ir a s with | some (.norm, s') => runF C fn nt lf ir b s' | r => r) = _
    rw [iha]
    simp only [run, ihb]
    all_goals rfl
  | cond c a b iha ihb =>
    intro s
    show (match ev s.ts c with | some (.bool true) => runF C fn nt lf ir a s | some (.bool false) => runF C fn nt lf ir b s | _ => none) = _
    simp only [run, iha, ihb]
    all_goals rfl
  | block id c ih =>
    intro s
    show (match runF C fn nt lf ir c s with | some (.exit id', s') => cond (Nat.beq id' id) (some (Ex.norm, s')) (some (.exit id', s')) | r => r) = _
    rw [ih]
    all_goals rfl
  | loop c ih =>
    intro s
    show loopN (runF C fn nt lf ir c) lf s = loopN (run C fn nt lf ir c) lf s
    rw [show runF C fn nt lf ir c = run C fn nt lf ir c from funext ih]
  | rfunc f ps a b _ _ => intro s; all_goals rfl
  | exit id => intro s; all_goals rfl
  | ret => intro s; all_goals rfl

noncomputable def callF (F : Nat → Option IFunc) (X : Nat → List Value → AHeap → Option (Value × AHeap)) (lf : Nat) (C : CB) (f : Nat) (args : List Value) (h : AHeap) : Option (Value × AHeap) :=
  match X f args h with
  | some r => some r
  | none => match F f with
    | none => none
    | some fn => match runF C f fn.ntmps lf none fn.body { ts := trOf 0 args .nil, ms := [], h } with
      | some (.norm, s) | some (.ret, s) => match killAll s.h s.ms with
        | none => none
        | some h' => match resV s.ts h' fn.results with
          | some vs => some (tupleOf vs, h')
          | none => none
      | _ => none
noncomputable def roundF (lf : Nat) (C : CB) (l : Nat) (args : List Value) (h : AHeap) : Option (Value × AHeap) := match h.get l with
  | some (.loop r) => cond (Nat.beq r.st 0) (match setAll r.tmps r.params args with
    | none => none
    | some ts => match runF C r.fn r.nt lf (some l) r.assign { ts, ms := [], h } with
      | some (.norm, s1) => match s1.h.get l with
        | some (.loop r1) => cond (Nat.beq r1.st 0) (match runF C r.fn r.nt lf (some l) r.body { s1 with h := s1.h.put l (.loop { r1 with st := 1 }) } with
          | some (e, s2) => match s2.h.get l with
            | some (.loop r2) => match Jump.of e with
              | none => some (.bool true, s2.h.put l (.loop { r2 with st := 0, pending := none }))
              | some j => some (.bool false, s2.h.put l (.loop { r2 with st := 2, pending := some j }))
            | _ => none
          | none => none) none
        | _ => none
      | _ => none) none
  | _ => none
noncomputable def lvlF (F : Nat → Option IFunc) (X : Nat → List Value → AHeap → Option (Value × AHeap)) (lf n : Nat) : CB :=
  Nat.rec (motive := fun _ => CB) { call := fun _ _ _ => none, round := fun _ _ _ => none } (fun _ C => { call := callF F X lf C, round := roundF lf C }) n
theorem lvlF_eq (F : Nat → Option IFunc) (X : Nat → List Value → AHeap → Option (Value × AHeap)) (lf : Nat) : ∀ n, lvlF F X lf n = lvl F X lf n := by
  intro n
  induction n with
  | zero => rfl
  | succ n ih =>
    show ({ call := callF F X lf (lvlF F X lf n), round := roundF lf (lvlF F X lf n) } : CB) = _
    rw [ih]
    have hr : ∀ f nt ir c s, runF (lvl F X lf n) f nt lf ir c s = run (lvl F X lf n) f nt lf ir c s := fun f nt ir c s => runF_eq _ f nt lf ir c s
    show CB.mk _ _ = CB.mk (fun f args h => match X f args h with | some r => some r | none => bodyV F (lvl F X lf n) lf f args h) (roundV (lvl F X lf n) lf)
    congr 1
    · funext f args h
      unfold callF bodyV
      simp only [hr]
      all_goals rfl
    · funext l args h
      unfold roundF roundV
      simp only [hr]
      all_goals rfl

end Go.Dv

/- A closed call, reckoned: what it answers, in every world. -/
namespace Go.Dv
open Go.RowKit

noncomputable def noX (_ : Nat) (_ : List Value) (_ : AHeap) : Option (Value × AHeap) := none
noncomputable def hNone : AHeap := { next := 0, lo := 0, t := .nil }

theorem noX_sound (P : Program) : XS P noX := by
  intro ρ h w f args args' v h' c cs hx
  cases hx

/-- does the call answer so? -/
noncomputable def chk (P : Program) (lf n f : Nat) (args : List Value) (b : Bool) : Bool :=
  match callF (cFunc P) noX lf (lvlF (cFunc P) noX lf n) f args hNone with
  | some (.bool x, _) => x == b
  | _ => false

theorem hr_none (P : Program) (w : World) : HR P (fun _ => none) hNone w where
  obj b o h := by rw [show hNone.get b = none from rfl] at h; cases h
  inj b c x y h := by rw [show hNone.get b = none from rfl] at h; cases h
  bnd b x h := by cases h
  glob g h := by cases h

theorem grown_of {ρ ρ' : Ren} {h' : AHeap} {w w' : World} (s : Stp hNone ρ w h' ρ' w') : Grown w w' := by
  refine ⟨⟨s.os, s.out, ?_⟩, s.froz, s.size⟩
  intro i hi
  rw [s.frame i hi (fun b x hb => by rw [show hNone.get b = none from rfl] at hb; cases hb)]
  exact (World.keptBut_refl w (fun _ => False)).2.2 i hi

theorem calls_of_chk {P : Program} (hm : P.follows .mixedOrders = true) {lf n f : Nat} {args : List Value} {b : Bool} (ha : args.all (closedV 9) = true) (he : chk P lf n f args b = true) (w : World) :
    Calls P f args.toArray w fun e w' => e = .returned (.bool b) ∧ Grown w w' := by
  unfold chk at he
  split at he
  · rename_i x h' hx
    have hxb : x = b := by simpa using he
    subst hxb
    rw [lvlF_eq] at hx
    have hb : bodyV (cFunc P) (lvl (cFunc P) noX lf n) lf f args hNone = some (.bool x, h') := by
      rw [← hx]
      unfold callF bodyV
      simp only [noX, runF_eq]
      all_goals rfl
    have hC := exec_sound (P := P) hm (F := cFunc P) (fun _ _ h => h) (noX_sound P) lf n
    intro cs
    obtain ⟨ρ', w', v', fr, _, q2, q3, q4, q5, q6, q7⟩ := body_sound (F := cFunc P) (fun _ _ h => h) hC (draw_sound hm _ hC) hb (LR.closed (ρ := fun _ => none) 9 args ha) (hr_none P w) cs
    rw [q5.inv_bool] at q4
    exact ⟨_, w', fr, ⟨rfl, grown_of q7⟩, q2, q3, q4⟩
  · cases he

end Go.Dv

