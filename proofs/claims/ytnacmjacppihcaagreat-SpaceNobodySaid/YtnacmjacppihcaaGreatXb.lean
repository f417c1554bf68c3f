/- A deterministic executor for the model, and that it is sound (part 2 of 3): no condition. -/
import Derived.Test.YtnacmjacppihcaaGreatXa
import Derived.RangeFuncNested
/- Strings of bytes, entries; what makes memory. -/
namespace Go.Dv
section
variable {P : Program} {ρ : Ren} {ts : Tr Value} {tmps : Array Value} {h : AHeap} {w : World}

theorem bytes_of {l : List Value} {bs : List UInt8} (hm : l.mapM (fun v => match v with | .int .u8 m => some (UInt8.ofNat m.toNat) | _ => none) = some bs) :
    ∃ ns : List Int, l = ns.map (Value.int .u8) ∧ bs = ns.map fun n => UInt8.ofNat n.toNat := by
  induction l generalizing bs with
  | nil => simp at hm; subst hm; exact ⟨[], rfl, rfl⟩
  | cons v l ih =>
    rw [List.mapM_cons] at hm
    split at hm
    · rename_i m
      cases hl : l.mapM (fun v => match v with | .int .u8 m => some (UInt8.ofNat m.toNat) | _ => none) with
      | none => rw [hl] at hm; simp at hm
      | some bs' =>
        rw [hl] at hm
        simp at hm
        subst hm
        obtain ⟨ns, h1, h2⟩ := ih hl
        exact ⟨m :: ns, by simp [h1], by simp [h2]⟩
    · simp at hm

theorem foldl_push (ns : List Int) : ∀ (s : ByteArray), ns.foldl (fun r n => r.push (UInt8.ofNat n.toNat)) s = ⟨(s.data.toList ++ ns.map fun n => UInt8.ofNat n.toNat).toArray⟩ := by
  induction ns with
  | nil => intro s; simp
  | cons n ns ih => intro s; rw [List.foldl_cons, ih]; simp [ByteArray.push]

theorem LR.ints {k : IntKind} {ns : List Int} {l' : List Value} (hl : LR ρ (ns.map (Value.int k)) l') : l' = ns.map (Value.int k) := by
  induction ns generalizing l' with
  | nil => exact hl.inv_nil
  | cons n ns ih =>
    obtain ⟨v', m, rfl, hv, ht⟩ := hl.inv_cons
    rw [hv.inv_int, ih ht]; rfl

theorem rd_b2s (cx : Cx P ρ ts tmps h w) {o : Oper} {s d e : TypeId} {x : Operand} (hop : o.op = .convert s d x) (hx : okOpd P x = true)
    (hs : P.underlying s = some (.slice e)) (he : P.underlying e = some (.int .u8)) (hd : P.underlying d = some .string) {v : Value}
    (hv : rdV h ts (.b2s (cOpd x)) = some v) : RdOk P ρ tmps w o v := by
  simp only [rdV] at hv
  split at hv
  · rename_i l c ha
    cases hv
    have h1 := (ev_sound cx hx ha).inv_nilSl
    refine ⟨.string .empty, ?_, .string _⟩
    simp [execOp, hop, h1, run_convert_bytes_string w s d e none l c hs he hd, Conv.bytesToString]
  · rename_i b off n c ha
    split at hv
    · rename_i cc hc
      split at hv
      · rename_i l hl
        split at hv
        · rename_i bs hbs
          cases hv
          obtain ⟨ns, rfl, rfl⟩ := bytes_of hbs
          rcases (ev_sound cx hx ha).inv_sl with ⟨_, bi, c', f1, f2, _⟩ | ⟨rfl, rfl, a', f2⟩
          · obtain ⟨bi', l', e1, e2, e3, _⟩ := row_load_sound cx.hr hc hl
            rw [f1] at e1; cases e1
            have e4 := e2.ints
            subst e4
            have := run_bytesToString (P := P) w ⟨bi.blk, off + bi.sh, none⟩ n c' ns e3
            refine ⟨_, ?_, .string _⟩
            simp only [execOp, hop, f2, Sem.run_bind, run_convert_bytes_string w s d e _ n c' hs he hd, this, foldl_push]
            rfl
          · have hnil : ns = [] := by
              cases ns with
              | nil => rfl
              | cons a b => simp [Row.loads] at hl
            subst hnil
            have := run_bytesToString (P := P) w a' 0 0 [] (by simp [loadCells, loadCellsFrom])
            refine ⟨_, ?_, .string _⟩
            simp only [execOp, hop, f2, Sem.run_bind, run_convert_bytes_string w s d e _ 0 0 hs he hd, this, foldl_push]
            rfl
        · cases hv
      · cases hv
    · cases hv
  · cases hv

theorem rd_entry (cx : Cx P ρ ts tmps h w) {o : Oper} {x : Operand} (hop : o.op = .entry x) (hx : okOpd P x = true) {v : Value}
    (hv : rdV h ts (.entry (cOpd x)) = some v) : RdOk P ρ tmps w o v := by
  simp only [rdV] at hv
  split at hv
  · rename_i r ha
    obtain ⟨_, bi, f1, f2⟩ := (ev_sound cx hx ha).inv_ptr
    split at hv
    · rename_i m since seen stepped hg
      split at hv
      · rename_i es clock stamp hm hs
        cases hb : Nat.beq clock stepped with
        | false => rw [hb] at hv; cases hv
        | true =>
          rw [hb] at hv
          simp only [cond_true] at hv
          have hcs := Nat.eq_of_beq_eq_true hb
          subst hcs
          split at hv
          · rename_i k x2 bn hfind
            cases hv
            obtain ⟨bi', o', e1, e2, e3⟩ := cx.hr.obj _ _ hg
            rw [f1] at e1; cases e1
            cases e3 with
            | mIter since seen' stepped hs0 hmm hms =>
              rename_i bm
              obtain ⟨bi2, o2, g1, g2, g3⟩ := cx.hr.obj _ _ hm
              rw [hmm] at g1; cases g1
              cases g3 with
              | map clock _ hE =>
                rename_i es' _
                have hback : seen'.back? = some stamp := by
                  have : seen'.toList.getLast? = some stamp := hs
                  simpa [Array.getLast?_toList] using this
                -- the entry
                obtain ⟨i, hi⟩ := List.getElem?_of_mem (List.mem_of_find?_eq_some hfind)
                have key : ∀ (l : List (Value × Value × Nat)) (l' : List MapEntry), EsR ρ l l' → ∀ e, l.find? (fun e => Nat.beq e.2.2 stamp) = some e → ∃ e', l'.find? (fun e => e.born == stamp) = some e' ∧ ER ρ e e' := by
                  intro l
                  induction l with
                  | nil => intro l' _ e he; simp at he
                  | cons a l ih =>
                    intro l' hl e he
                    obtain ⟨a', l', rfl⟩ : ∃ x y, l' = x :: y := by
                      cases l' with
                      | nil => have := hl.1; simp at this
                      | cons x y => exact ⟨x, y, rfl⟩
                    obtain ⟨p1, p2⟩ := hl.tail
                    rw [List.find?_cons] at he ⊢
                    have hbn : (a'.born == stamp) = Nat.beq a.2.2 stamp := by
                      rw [p1.2.2]
                      by_cases e : a'.born = stamp
                      · rw [beq_true e]; simpa using e
                      · rw [beq_false e]; simpa using e
                    rw [hbn]
                    cases hq : Nat.beq a.2.2 stamp with
                    | true => simp only [hq, Option.some.injEq] at he; subst he; exact ⟨a', rfl, p1⟩
                    | false => simp only [hq] at he; exact ih l' p2 e he
                obtain ⟨e', q1, q2⟩ := key _ _ hE _ hfind
                refine ⟨.tuple #[e'.key, e'.val], ?_, .tuple_of (.cons q2.1 (.cons q2.2.1 (.nil ρ)))⟩
                have r1 := run_getObj (P := P) e2 (by simp)
                have r2 := run_getObj (P := P) g2 (by simp)
                have hz : 0 + bi.sh = 0 := by rw [hs0]
                have q1' : es'.find? (fun e => e.born == stamp) = some e' := by
                  rw [← Array.find?_toList]; exact q1
                simp only [execOp, hop, Instr.entry, f2, hz, Sem.run_bind, r1, r2, Result.andThen_ok, hback]
                simp only [bne_self_eq_false, Bool.false_eq_true, if_false, q1']
                rfl
          · cases hv
      · cases hv
    · cases hv
  · cases hv

/-! ## what makes memory -/
def MkOk (P : Program) (ρ : Ren) (tmps : Array Value) (w : World) (o : Oper) (ob : AObj) (m : Made) : Prop :=
  ∃ (w1 : World) (ob' : Obj) (bi : BI) (v' : Value), (execOp (cev tmps) o).run P w = .ok (.value v') w1 ∧ w1.heap = w.heap.push ob' ∧ w1.tape = w.tape ∧ w1.os = w.os ∧ w1.output = w.output ∧
    bi.blk = w.heap.size ∧ OR P ρ bi ob ob' ∧ ∀ ρ' b, ρ' b = some bi → VR ρ' (m.val b) v'

theorem rowOf_get (ex : Bool) (es et : Nat) (l : List Value) (i : Nat) : (rowOf ex es et l).get i = l[i]? := by
  unfold Row.get rowOf
  simp only [get_trOf]
  by_cases hi : i < l.length
  · have : Nat.blt i l.length = true := by simpa [Nat.blt_eq] using hi
    rw [this]
    simp [hi]
  · have : Nat.blt i l.length = false := by
      cases hb : Nat.blt i l.length with
      | false => rfl
      | true => exact absurd (by simpa [Nat.blt_eq] using hb) hi
    rw [this]
    exact (List.getElem?_eq_none (by omega)).symm

theorem rowOf_R {l : List Value} {arr : Array Value} (hl : LR ρ l arr.toList) (blk : Nat) (ex : Bool) (es et : Nat) : RowR ρ ⟨blk, 0, l.length, ex, es⟩ (rowOf ex es et l) arr (0, 0) where
  sz := by have := hl.1; simp at this; simp [this]
  ex := rfl
  es := rfl
  exact := fun _ => ⟨rfl, rfl⟩
  fit := Nat.le_refl _
  cells i v hv := by
    rw [rowOf_get] at hv
    obtain ⟨v', h1, h2⟩ := hl.get hv
    exact ⟨v', by simpa using h1, h2⟩
  plain _ := rfl
  nofz := rfl
  free k hk := by cases hk

/-- cells never written -/
theorem rowZ_get {n : Nat} {ex : Bool} {es et : Nat} {fz : Option Nat} {z : List Value} {i : Nat} (hi : i < n) : (Row.get { n, ex, es, et, fz, z, t := .nil } i) = z[i % z.length]? := by
  have : Nat.blt i n = true := by simpa [Nat.blt_eq] using hi
  simp [Row.get, this, Tr.get_nil, nth_eq]

theorem rowZ_R {n : Nat} {z : List Value} {arr : Array Value} (blk : Nat) (es et : Nat) (hs : arr.size = n) (hc : ∀ i v, i < n → z[i % z.length]? = some v → ∃ v', arr[i]? = some v' ∧ VR ρ v v') :
    RowR ρ ⟨blk, 0, n, true, es⟩ { n, ex := true, es, et, fz := none, z, t := .nil } arr (0, 0) where
  sz := hs
  ex := rfl
  es := rfl
  exact := fun _ => ⟨rfl, rfl⟩
  fit := Nat.le_refl _
  cells i v hv := by
    have hi : i < n := by
      rcases Nat.lt_or_ge i n with h | h
      · exact h
      · have : Nat.blt i n = false := by
          cases hb : Nat.blt i n with
          | false => rfl
          | true => exact absurd (by simpa [Nat.blt_eq] using hb) (by omega)
        simp [Row.get, this] at hv
    rw [rowZ_get hi] at hv
    exact hc i v hi hv
  plain _ := rfl
  nofz := rfl
  free k hk := by cases hk

theorem ptr_made {ρ' : Ren} {b : Nat} {bi : BI} (hb : ρ' b = some bi) (hs : bi.sh = 0) : VR ρ' (Made.ptr.val b) (.pointer (some ⟨bi.blk, 0, none⟩)) := by
  have := VR.ptr 0 hb
  rw [hs] at this
  exact this

theorem sl_made {ρ' : Ren} {b : Nat} {bi : BI} (hb : ρ' b = some bi) (hs : bi.sh = 0) (l c : Nat) : VR ρ' ((Made.sl l c).val b) (.slice (some ⟨bi.blk, 0, none⟩) l c) := by
  have := VR.sl 0 l c c hb (.inl rfl)
  rw [hs] at this
  exact this

theorem mk_new {o : Oper} {e n : Nat} {z : List Value} (hop : o.op = .alloc e) (hn : szOf P e = some n) (hz : zeroL P e = some z) {ob : AObj} {m : Made} (hv : mkV ts (.new n e z) = some (ob, m)) : MkOk P ρ tmps w o ob m := by
  simp only [mkV, Option.some.injEq, Prod.mk.injEq] at hv
  obtain ⟨rfl, rfl⟩ := hv
  obtain ⟨i, zv, z1, z2, z3, z4, z5⟩ := zeroL_info hz
  have hni : n = i.size := by unfold szOf at hn; rw [z1] at hn; cases hn; rfl
  refine ⟨{ w with heap := w.heap.push (.cells zv.cells e) }, .cells zv.cells e, ⟨w.heap.size, 0, n, true, n⟩, .pointer (some ⟨w.heap.size, 0, none⟩), ?_, rfl, rfl, rfl, rfl, rfl, ?_, fun ρ' b hb => ptr_made hb rfl⟩
  · simp [execOp, hop, Instr.alloc, run_zeroValue z1 z2, newVar, newRow]
  · refine .row (rowZ_R (arr := zv.cells) w.heap.size n e (by have := congrArg List.length z3; simp at this; omega) ?_)
    intro i v hi hv
    rw [Nat.mod_eq_of_lt (by omega)] at hv
    have hc := (LR.closed (ρ := ρ) 20 z z5).2 i v v hv hv
    exact ⟨v, by rw [← z3] at hv; simpa using hv, hc⟩

theorem mk_box (cx : Cx P ρ ts tmps h w) {o : Oper} {e n : Nat} {x : Operand} (hop : o.op = .box e x) (hx : okOpd P x = true) {ob : AObj} {m : Made} (hv : mkV ts (.box n e (cOpd x)) = some (ob, m)) : MkOk P ρ tmps w o ob m := by
  simp only [mkV] at hv
  split at hv
  · rename_i v hvv
    have hc := (ev_sound cx hx hvv).cells
    cases hb : Nat.beq (cellsL v).length n with
    | false => rw [hb] at hv; cases hv
    | true =>
      rw [hb] at hv
      simp only [cond_true, Option.some.injEq, Prod.mk.injEq] at hv
      obtain ⟨rfl, rfl⟩ := hv
      refine ⟨{ w with heap := w.heap.push (.cells (cev tmps x).cells e) }, .cells (cev tmps x).cells e, ⟨w.heap.size, 0, (cellsL v).length, true, n⟩, .pointer (some ⟨w.heap.size, 0, none⟩), ?_, rfl, rfl, rfl, rfl, rfl, ?_, fun ρ' b hb => ptr_made hb rfl⟩
      · simp [execOp, hop, Instr.box, newVar, newRow]
      · exact .row (rowOf_R (arr := (cev tmps x).cells) hc w.heap.size true n e)
  · cases hv

theorem mk_map {o : Oper} {t : TypeId} (hop : o.op = .makeMap t none) {ob : AObj} {m : Made} (hv : mkV ts .mkMap = some (ob, m)) : MkOk P ρ tmps w o ob m := by
  simp only [mkV, Option.some.injEq, Prod.mk.injEq] at hv
  obtain ⟨rfl, rfl⟩ := hv
  refine ⟨{ w with heap := w.heap.push (.map #[] 0) }, .map #[] 0, ⟨w.heap.size, 0, 0, true, 0⟩, .map (some w.heap.size), ?_, rfl, rfl, rfl, rfl, rfl, .map 0 rfl ⟨rfl, by simp⟩, fun ρ' b hb => .map hb rfl⟩
  simp [execOp, hop, Instr.makeMap]

theorem reps_get (z : List Value) : ∀ (n i : Nat), i < n * z.length → (reps z n)[i]? = z[i % z.length]? := by
  intro n
  induction n with
  | zero => intro i hi; omega
  | succ n ih =>
    intro i hi
    simp only [reps]
    by_cases h1 : i < z.length
    · rw [List.getElem?_append_left h1, Nat.mod_eq_of_lt h1]
    · have e1 : (n + 1) * z.length = n * z.length + z.length := Nat.succ_mul _ _
      have e2 : i % z.length = (i - z.length) % z.length := Nat.mod_eq_sub_mod (by omega)
      rw [List.getElem?_append_right (by omega), ih _ (by omega), e2]

theorem reps_length (z : List Value) (n : Nat) : (reps z n).length = n * z.length := by
  induction n with
  | zero => simp [reps]
  | succ n ih => simp [reps, ih, Nat.add_mul]; omega

theorem zeros_LR {z : List Value} {zv : Value} (hz : zv.cells.toList = z) (hc : z.all (closedV 20) = true) (len size : Nat) (hs : z.length = size) (zz : Array Value) (hzz : len * size ≠ 0 → zz = zv.cells) :
    LR ρ (reps z len) ((Array.range (len * size)).map (fun i => zz[i % zz.size]!)).toList := by
  subst hs
  refine ⟨by simp [reps_length], ?_⟩
  intro i v v' hv hv'
  have hi : i < len * z.length := by
    rcases Nat.lt_or_ge i (reps z len).length with h | h
    · rwa [reps_length] at h
    · rw [List.getElem?_eq_none h] at hv; cases hv
  rw [reps_get z len i hi] at hv
  have hne : len * z.length ≠ 0 := by omega
  have hzl : 0 < z.length := by
    rcases Nat.eq_zero_or_pos z.length with h | h
    · rw [h] at hne; simp at hne
    · exact h
  rw [hzz hne] at hv'
  have hsz : zv.cells.size = z.length := by rw [← hz]; simp
  rw [Array.getElem?_toList, Array.getElem?_map, Array.getElem?_range, if_pos hi] at hv'
  simp only [Option.map_some, Option.some.injEq] at hv'
  have hmod : i % zv.cells.size < zv.cells.size := by rw [hsz]; exact Nat.mod_lt _ hzl
  rw [getElem!_pos zv.cells _ hmod] at hv'
  have : z[i % z.length]? = some v' := by
    rw [← hv', ← hz]
    simp
  rw [this] at hv
  cases hv
  exact (LR.closed (ρ := ρ) 20 z hc).2 _ _ _ this this

theorem mk_buildSlice (cx : Cx P ρ ts tmps h w) {o : Oper} {t e len k : Nat} {ps : Array (Nat × Operand)} {z : List Value} {qs : List (Nat × Nat × Opd)} (hop : o.op = .buildSlice t len ps) (hok : ∀ p, p ∈ ps.toList → okOpd P p.2 = true)
    (ht : P.underlying t = some (.slice e)) (hk : szOf P e = some k) (hz : zeroL P e = some z) (hq : cParts P t ps = some qs) (hle : len * k ≤ 16777216)
    {ob : AObj} {m : Made} (hv : mkV ts (.buildSlice len k e z qs) = some (ob, m)) : MkOk P ρ tmps w o ob m := by
  simp only [mkV] at hv
  split at hv
  · rename_i l hl
    simp only [Option.some.injEq, Prod.mk.injEq] at hv
    obtain ⟨rfl, rfl⟩ := hv
    obtain ⟨i, zv, z1, z2, z3, z4, z5⟩ := zeroL_info hz
    have hki : i.size = k := by unfold szOf at hk; rw [z1] at hk; cases hk; rfl
    unfold cParts at hq
    rw [ht] at hq
    simp only at hq
    rw [hk] at hq
    simp only [Option.some.injEq] at hq
    subst hq
    have hzero := zeros_LR (ρ := ρ) z3 z5 len k (by omega) (if len * k = 0 then #[] else zv.cells) (fun hne => by rw [if_neg hne])
    obtain ⟨l', f1, f2⟩ := fill_sound cx (fun j => some (j * k, k)) ps.toList _ _ l _ hok (by simp) (by
      intro j p q hp hq'
      rw [List.getElem?_map, hp] at hq'
      cases hq'
      simp) hzero hl
    refine ⟨{ w with heap := w.heap.push (.cells l' e) }, .cells l' e, ⟨w.heap.size, 0, l.length, true, k⟩, .slice (some ⟨w.heap.size, 0, none⟩) len len, ?_, rfl, rfl, rfl, rfl, rfl, .row (rowOf_R f2 w.heap.size true k e), fun ρ' b hb => sl_made hb rfl _ _⟩
    have hbig : ¬ (len * k > 2 ^ 24) := by omega
    simp only [execOp, hop, Instr.buildSlice, Sem.run_bind, run_under ht, Result.andThen_ok, run_sizeOf hk]
    rw [if_neg hbig]
    by_cases h0 : len * k = 0
    · simp only [h0, if_true] at f1
      have er : Array.range 0 = #[] := rfl
      rw [er] at f1
      simp only [List.map_toArray, List.map_nil] at f1
      simp [h0, er, f1, newRow]
    · simp only [h0, if_false] at f1
      simp [h0, f1, newRow, run_zeroValue z1 z2]
  · cases hv

theorem mk_mkSlice (cx : Cx P ρ ts tmps h w) {o : Oper} {t e : Nat} {l c : Operand} {z : List Value} {i : TypeInfo} (hop : o.op = .makeSlice t l c) (hl : okOpd P l = true) (hc : okOpd P c = true)
    (ht : P.underlying t = some (.slice e)) (hi : P.info? e = some i) (hz : zeroL P e = some z) {ob : AObj} {m : Made} (hv : mkV ts (.mkSlice i.size e i.bytes z (cOpd l) (cOpd c)) = some (ob, m)) : MkOk P ρ tmps w o ob m := by
  simp only [mkV] at hv
  split at hv
  · rename_i k1 ln k2 cp h1 h2
    have g1 := (ev_sound cx hl h1).inv_int
    have g2 := (ev_sound cx hc h2).inv_int
    cases hb : (Nat.ble ln cp && Nat.ble (i.bytes * cp) 281474976710656 && Nat.ble cp 9223372036854775807) with
    | false => rw [hb] at hv; cases hv
    | true =>
      rw [hb] at hv
      simp only [cond_true, Option.some.injEq, Prod.mk.injEq] at hv
      obtain ⟨rfl, rfl⟩ := hv
      simp only [Bool.and_eq_true] at hb
      have b1 := Nat.le_of_ble_eq_true hb.1.1
      have b2 := Nat.le_of_ble_eq_true hb.1.2
      have b3 := Nat.le_of_ble_eq_true hb.2
      obtain ⟨i', zv, z1, z2, z3, z4, z5⟩ := zeroL_info hz
      rw [hi] at z1; cases z1
      have hk : szOf P e = some i.size := by simp [szOf, hi]
      have w1 : IntKind.i64.wrap (cp : Int) = cp := by unfold IntKind.wrap; simp [IntKind.bits, IntKind.signed]; omega
      have w2 : IntKind.i64.wrap (ln : Int) = ln := by unfold IntKind.wrap; simp [IntKind.bits, IntKind.signed]; omega
      have hzero := zeros_LR (ρ := ρ) z3 z5 cp i.size z4 (if cp * i.size = 0 then #[] else zv.cells) (fun hne => by rw [if_neg hne])
      have q1 : ¬ (281474976710656 < (i.bytes : Int) * (cp : Int)) := by
        have : ((i.bytes * cp : Nat) : Int) ≤ 281474976710656 := by omega
        rw [Int.natCast_mul] at this
        omega
      have q2 : ¬ ((ln : Int) > (cp : Int)) := by omega
      have q3 : ¬ ((cp : Int) < 0) := by omega
      have q4 : ¬ ((ln : Int) < 0) := by omega
      by_cases h0 : cp * i.size = 0
      · refine ⟨{ w with heap := w.heap.push (.cells #[] e) }, .cells #[] e, ⟨w.heap.size, 0, cp * i.size, true, i.size⟩, .slice (some ⟨w.heap.size, 0, none⟩) ln cp, ?_, rfl, rfl, rfl, rfl, rfl, .row (rowZ_R w.heap.size i.size e (by simp [h0]) (by intro j v hj; omega)), fun ρ' b hb => sl_made hb rfl _ _⟩
        have er : Array.range 0 = #[] := rfl
        simp [execOp, hop, Instr.makeSlice, run_under ht, g1, g2, asInt, asIntOf, run_info hi, w1, w2, q1, q2, q3, q4, run_sizeOf hk, h0, newRow, er]
      · refine ⟨{ w with heap := w.heap.push (.cells ((Array.range (cp * i.size)).map (fun j => zv.cells[j % zv.cells.size]!)) e) }, .cells ((Array.range (cp * i.size)).map (fun j => zv.cells[j % zv.cells.size]!)) e, ⟨w.heap.size, 0, cp * i.size, true, i.size⟩, .slice (some ⟨w.heap.size, 0, none⟩) ln cp, ?_, rfl, rfl, rfl, rfl, rfl, .row (rowZ_R w.heap.size i.size e (by simp) ?_), fun ρ' b hb => sl_made hb rfl _ _⟩
        · simp [execOp, hop, Instr.makeSlice, run_under ht, g1, g2, asInt, asIntOf, run_info hi, w1, w2, q1, q2, q3, q4, run_sizeOf hk, h0, newRow, run_zeroValue hi z2]
        · intro j v hj hv
          simp only [h0, if_false] at hzero
          have hj' : (reps z cp)[j]? = some v := by rw [reps_get z cp j (by rw [z4]; exact hj)]; exact hv
          obtain ⟨v', e1, e2⟩ := hzero.get hj'
          exact ⟨v', by rw [← Array.getElem?_toList]; exact e1, e2⟩
  · cases hv

end
end Go.Dv

/- What changes the heap. -/
namespace Go.Dv
section
variable {P : Program} {ρ : Ren} {ts : Tr Value} {tmps : Array Value} {h : AHeap} {w : World}

theorem get_put (h : AHeap) (b : Nat) (o : AObj) (c : Nat) : (h.put b o).get c = if c = b then some o else h.get c := Tr.get_set _ _ _ _
theorem get_kill (h : AHeap) (b : Nat) (c : Nat) : (h.kill b).get c = if c = b then none else h.get c := Tr.get_set _ _ _ _
theorem get_new (h : AHeap) (o : AObj) (c : Nat) : (h.new o).get c = if c = h.next then some o else h.get c := Tr.get_set _ _ _ _

theorem frozen_live (hr : HR P ρ h w) {b : Nat} {bi : BI} (hl : (h.get b).isSome = true) (hb : ρ b = some bi) : ∃ o, w.heap[bi.blk]? = some o ∧ Loose o := by
  obtain ⟨o, ho⟩ := Option.isSome_iff_exists.1 hl
  obtain ⟨bj, o', e1, e2, e3⟩ := hr.obj b o ho
  rw [hb] at e1
  cases e1
  exact ⟨o', e2, e3.nofz⟩

theorem frozen_put (hr : HR P ρ h w) {b : Nat} {ob : AObj} {bi : BI} {ob' : Obj} (hl : (h.get b).isSome = true) (hb : ρ b = some bi) (ho : OR P ρ bi ob ob') {w' : World} (hw : w'.heap = w.heap.setIfInBounds bi.blk ob') (a : Addr) : w'.frozen? a = w.frozen? a := by
  obtain ⟨o, h1, h2⟩ := frozen_live hr hl hb
  exact frozen_set h1 h2 ho.nofz hw a

theorem put_sound (hr : HR P ρ h w) {b : Nat} {ob : AObj} {bi : BI} {ob' : Obj} (hl : (h.get b).isSome = true) (hb : ρ b = some bi) (ho : OR P ρ bi ob ob') {w' : World}
    (hw : w'.heap = w.heap.setIfInBounds bi.blk ob') (ht : w'.tape = w.tape) (hos : w'.os = w.os) (hout : w'.output = w.output) : HR P ρ (h.put b ob) w' ∧ Stp h ρ w (h.put b ob) ρ w' := by
  have hlt : bi.blk < w.heap.size := (hr.bnd b bi hb).2
  have live : ∀ c, ((h.put b ob).get c).isSome = true → (h.get c).isSome = true := by
    intro c hc
    rw [get_put] at hc
    split at hc
    · rename_i e; rw [e]; exact hl
    · exact hc
  refine ⟨⟨?_, ?_, ?_, hr.glob⟩, ⟨.refl ρ, ?_, ?_, ?_, ht, hos, hout, Nat.le_refl _, fun _ _ => rfl, frozen_put hr hl hb ho hw⟩⟩
  · intro c o hc
    rw [get_put] at hc
    split at hc
    · rename_i e
      cases hc
      subst e
      exact ⟨bi, ob', hb, by rw [hw]; simp [hlt], ho⟩
    · rename_i e
      obtain ⟨bc, oc, h1, h2, h3⟩ := hr.obj c o hc
      refine ⟨bc, oc, h1, ?_, h3⟩
      have hne : bi.blk ≠ bc.blk := fun k => e (hr.inj c b bc bi (by simp [hc]) hl h1 hb k.symm)
      rw [hw, Array.getElem?_setIfInBounds_ne hne]
      exact h2
  · intro c d x y hc hd hx hy e
    exact hr.inj c d x y (live c hc) (live d hd) hx hy e
  · intro c x hx
    refine ⟨(hr.bnd c x hx).1, ?_⟩
    rw [hw]; simpa using (hr.bnd c x hx).2
  · intro c x hc hx
    exact .inr ⟨c, x, live c hc, hx, rfl⟩
  · rw [hw]; simp
  · intro c hc hn
    rw [hw, Array.getElem?_setIfInBounds_ne (hn b bi hl hb)]

theorem kill_sound (hr : HR P ρ h w) (b : Nat) : HR P ρ (h.kill b) w ∧ Stp h ρ w (h.kill b) ρ w := by
  have live : ∀ c, ((h.kill b).get c).isSome = true → (h.get c).isSome = true ∧ c ≠ b := by
    intro c hc
    rw [get_kill] at hc
    split at hc
    · cases hc
    · exact ⟨hc, by assumption⟩
  refine ⟨⟨?_, ?_, ?_, hr.glob⟩, ⟨.refl ρ, ?_, Nat.le_refl _, fun _ _ _ => rfl, rfl, rfl, rfl, Nat.le_refl _, fun _ _ => rfl, fun _ => rfl⟩⟩
  · intro c o hc
    rw [get_kill] at hc
    split at hc
    · cases hc
    · exact hr.obj c o hc
  · intro c d x y hc hd hx hy e
    exact hr.inj c d x y (live c hc).1 (live d hd).1 hx hy e
  · exact hr.bnd
  · intro c x hc hx
    exact .inr ⟨c, x, (live c hc).1, hx, rfl⟩

theorem new_sound (hr : HR P ρ h w) {ob : AObj} {bi : BI} {ob' : Obj} (hblk : bi.blk = w.heap.size) (ho : OR P ρ bi ob ob') {w' : World}
    (hw : w'.heap = w.heap.push ob') (ht : w'.tape = w.tape) (hos : w'.os = w.os) (hout : w'.output = w.output) :
    ∃ ρ', ρ' h.next = some bi ∧ HR P ρ' (h.new ob) w' ∧ Stp h ρ w (h.new ob) ρ' w' := by
  have hfresh : ρ h.next = none := by
    cases hh : ρ h.next with
    | none => rfl
    | some x => exact absurd (hr.bnd _ x hh).1 (Nat.lt_irrefl _)
  have hext : Ext ρ (fun b => if b = h.next then some bi else ρ b) := by
    intro b x hb
    have : b ≠ h.next := by intro e; rw [e, hfresh] at hb; cases hb
    simp [this, hb]
  have hlive : ∀ c, (h.get c).isSome = true → c < h.next := by
    intro c hc
    obtain ⟨o, ho⟩ := Option.isSome_iff_exists.1 hc
    obtain ⟨x, _, hx, _⟩ := hr.obj c o ho
    exact (hr.bnd c x hx).1
  refine ⟨fun b => if b = h.next then some bi else ρ b, by simp, ⟨?_, ?_, ?_, ?_⟩, ⟨hext, ?_, ?_, ?_, ht, hos, hout, Nat.le_succ _, fun c hc => by simp [Nat.ne_of_lt hc], frozen_push ho.nofz hw⟩⟩
  · intro c o hc
    rw [get_new] at hc
    split at hc
    · rename_i e
      cases hc
      exact ⟨bi, ob', by simp [e], by rw [hw, hblk]; simp, ho.mono hext⟩
    · rename_i e
      obtain ⟨bc, oc, h1, h2, h3⟩ := hr.obj c o hc
      refine ⟨bc, oc, by simp [e, h1], ?_, h3.mono hext⟩
      rw [hw, Array.getElem?_push_lt (hr.bnd c bc h1).2]
      rw [Array.getElem?_eq_getElem (hr.bnd c bc h1).2] at h2
      exact h2
  · intro c d x y hc hd hx hy e
    rw [get_new] at hc hd
    by_cases ec : c = h.next
    · by_cases ed : d = h.next
      · rw [ec, ed]
      · simp only [ec, if_true, Option.some.injEq] at hx
        simp only [ed, if_false] at hy hd
        have := (hr.bnd d y hy).2
        rw [← hx, hblk] at e
        omega
    · simp only [ec, if_false] at hx hc
      by_cases ed : d = h.next
      · simp only [ed, if_true, Option.some.injEq] at hy
        have := (hr.bnd c x hx).2
        rw [← hy, hblk] at e
        omega
      · simp only [ed, if_false] at hy hd
        exact hr.inj c d x y hc hd hx hy e
  · intro c x hx
    show c < h.next + 1 ∧ _
    rw [hw, Array.size_push]
    by_cases ec : c = h.next
    · simp only [ec, if_true, Option.some.injEq] at hx
      rw [← hx, hblk]
      omega
    · simp only [ec, if_false] at hx
      have := hr.bnd c x hx
      omega
  · intro g hg
    obtain ⟨x, h1, h2, h3⟩ := hr.glob g hg
    exact ⟨x, hext _ _ h1, h2, h3⟩
  · intro c x hc hx
    rw [get_new] at hc
    by_cases ec : c = h.next
    · simp only [ec, if_true, Option.some.injEq] at hx
      exact .inl (by rw [← hx, hblk]; exact Nat.le_refl _)
    · simp only [ec, if_false] at hx hc
      exact .inr ⟨c, x, hc, hx, rfl⟩
  · rw [hw]; simp
  · intro c hc _
    rw [hw, Array.getElem?_push_lt hc, Array.getElem?_eq_getElem hc]

/-! ## stores -/
theorem run_storeCells {b o : Nat} {t : TypeId} {fr : Nat × Nat} : ∀ (vs : List Value) (i : Nat) (arr : Array Value) (w : World), w.heap[b]? = some (.cells arr t fr) →
    (∀ j v, vs[j]? = some v → o + i + j < arr.size ∧ ¬ (fr.1 ≤ o + i + j ∧ o + i + j < fr.2) ∧ oneCell v = true) →
    ∃ arr', (storeCells ⟨b, o, none⟩ vs i).run P w = .ok () { w with heap := w.heap.setIfInBounds b (.cells arr' t fr) } ∧ arr'.size = arr.size ∧
      ∀ j, arr'[j]? = if o + i ≤ j ∧ j < o + i + vs.length then vs[j - (o + i)]? else arr[j]? := by
  intro vs
  induction vs with
  | nil =>
    intro i arr w hh _
    refine ⟨arr, ?_, rfl, ?_⟩
    · have : w.heap.setIfInBounds b (.cells arr t fr) = w.heap := by
        apply Array.ext_getElem?
        intro j
        by_cases e : b = j
        · subst e; rw [hh]; simp [(Array.getElem?_eq_some_iff.1 hh).1]
        · rw [Array.getElem?_setIfInBounds_ne e]
      rw [this]
      rfl
    · intro j
      rw [if_neg (by simp)]
  | cons v vs ih =>
    intro i arr w hh hv
    obtain ⟨h1, h2, h3⟩ := hv 0 v rfl
    have hcell : w.cell? ⟨b, o + i, none⟩ = some arr[o + i] := by rw [cell_of hh]; simp at h1; simp [h1]
    have hfro : w.frozen? ⟨b, o + i, none⟩ = false := by
      simp only [World.frozen?, hh]
      simp only [Nat.add_zero] at h2
      simpa using h2
    have hset : w.setCell ⟨b, o + i, none⟩ v = { w with heap := w.heap.setIfInBounds b (.cells (arr.setIfInBounds (o + i) v) t fr) } := by
      unfold World.setCell
      congr 1
      apply Array.ext_getElem?
      intro j
      by_cases e : b = j
      · subst e
        have hb := (Array.getElem?_eq_some_iff.1 hh).1
        have hv' := (Array.getElem?_eq_some_iff.1 hh).2
        simp [hb, Array.getElem_modify, hv']
      · rw [Array.getElem?_setIfInBounds_ne e]
        simp [Array.getElem?_modify, e]
    have hstore : (store ((Addr.mk b o none).add i) v).run P w = .ok () { w with heap := w.heap.setIfInBounds b (.cells (arr.setIfInBounds (o + i) v) t fr) } := by
      rw [Addr.add_none, run_store P w _ v _ (by cases v <;> simp_all [oneCell, Value.oneCell']), hcell]
      simp only [hfro, Bool.false_eq_true, if_false, hset]
    obtain ⟨arr', g1, g2, g3⟩ := ih (i + 1) (arr.setIfInBounds (o + i) v) { w with heap := w.heap.setIfInBounds b (.cells (arr.setIfInBounds (o + i) v) t fr) }
      (by simp [(Array.getElem?_eq_some_iff.1 hh).1]) (by
        intro j x hx
        have := hv (j + 1) x (by simpa using hx)
        rw [Array.size_setIfInBounds, show o + (i + 1) + j = o + i + (j + 1) by omega]
        exact this)
    refine ⟨arr', ?_, by rw [g2]; simp, ?_⟩
    · simp only [storeCells, Sem.run_bind, hstore, Result.andThen_ok, g1]
      congr 2
      apply Array.ext_getElem?
      intro j
      by_cases e : b = j
      · subst e; simp
      · rw [Array.getElem?_setIfInBounds_ne e, Array.getElem?_setIfInBounds_ne e, Array.getElem?_setIfInBounds_ne e]
    · intro j
      rw [g3 j]
      by_cases e1 : o + (i + 1) ≤ j ∧ j < o + (i + 1) + vs.length
      · rw [if_pos e1, if_pos (by simp; omega), show j - (o + i) = (j - (o + (i + 1))) + 1 by omega]
        simp
      · rw [if_neg e1]
        by_cases e2 : j = o + i
        · subst e2
          rw [if_pos (by simp), Nat.sub_self]
          simp at h1
          simp [h1]
        · rw [if_neg (by simp; omega), Array.getElem?_setIfInBounds_ne (fun k => e2 k.symm)]

theorem stores_spec : ∀ (l : List Value) (c c' : Row) (o : Nat), c.stores o l = some c' →
    (c'.n = c.n ∧ c'.ex = c.ex ∧ c'.es = c.es ∧ c'.et = c.et ∧ c'.fz = c.fz) ∧ (∀ j v, l[j]? = some v → o + j < c.n ∧ c.fz.getD 0 ≤ o + j ∧ oneCell v = true) ∧
    ∀ i, c'.get i = if o ≤ i ∧ i < o + l.length then l[i - o]? else c.get i := by
  intro l
  induction l with
  | nil =>
    intro c c' o hs
    simp [Row.stores] at hs
    subst hs
    exact ⟨⟨rfl, rfl, rfl, rfl, rfl⟩, by simp, fun i => by rw [if_neg (by simp)]⟩
  | cons v l ih =>
    intro c c' o hs
    simp only [Row.stores] at hs
    cases hb : (c.free o && oneCell v) with
    | false => rw [hb] at hs; cases hs
    | true =>
      rw [hb] at hs
      simp only [cond_true] at hs
      simp only [Bool.and_eq_true, Row.free] at hb
      obtain ⟨⟨b1, b2⟩, b3⟩ := hb
      have c1 : o < c.n := by simpa [Nat.blt_eq] using b1
      have c2 := Nat.le_of_ble_eq_true b2
      obtain ⟨e1, e2, e3⟩ := ih _ _ _ hs
      refine ⟨e1, ?_, ?_⟩
      · intro j x hx
        cases j with
        | zero => simp at hx; subst hx; exact ⟨c1, c2, b3⟩
        | succ j =>
          have := e2 j x (by simpa using hx)
          rw [show o + (j + 1) = o + 1 + j by omega]
          exact this
      · intro i
        rw [e3 i]
        by_cases k1 : o + 1 ≤ i ∧ i < o + 1 + l.length
        · rw [if_pos k1, if_pos (by simp; omega), show i - o = (i - (o + 1)) + 1 by omega]
          simp
        · rw [if_neg k1]
          by_cases k2 : i = o
          · subst k2
            rw [if_pos (by simp), Nat.sub_self]
            simp [Row.get, Tr.get_set, show Nat.blt i c.n = true from b1]
          · rw [if_neg (by simp; omega)]
            simp [Row.get, Tr.get_set, k2]

theorem storeAt_sound (hr : HR P ρ h w) {b o : Nat} {l l' : List Value} {h' : AHeap} (hs : storeAtH h b o l = some h') (hl : LR ρ l l') :
    ∃ bi w', ρ b = some bi ∧ (storeCells ⟨bi.blk, o + bi.sh, none⟩ l').run P w = .ok () w' ∧ HR P ρ h' w' ∧ Stp h ρ w h' ρ w' := by
  unfold storeAtH at hs
  split at hs
  · rename_i c hc
    split at hs
    · rename_i c' hc'
      cases hs
      obtain ⟨bi, arr, fr, r1, r2, r3⟩ := row_sound hr hc
      obtain ⟨⟨s1, s2, s3, s4, s5⟩, s6, s7⟩ := stores_spec l c c' o hc'
      obtain ⟨arr', g1, g2, g3⟩ := run_storeCells (P := P) (o := o + bi.sh) l' 0 arr w r2 (by
        intro j v hv
        have hj : j < l.length := by
          rw [hl.1]
          rcases Nat.lt_or_ge j l'.length with h | h
          · exact h
          · rw [List.getElem?_eq_none h] at hv; cases hv
        obtain ⟨k1, k2, k3⟩ := s6 j l[j] (List.getElem?_eq_getElem hj)
        have hfit := r3.fit
        have hsz := r3.sz
        refine ⟨by omega, ?_, ?_⟩
        · cases hfz : c.fz with
          | none => rw [r3.plain hfz]; simp
          | some k =>
            rw [hfz] at k2
            simp at k2
            exact r3.free k hfz _ (by omega) (by omega)
        · have := hl.2 j _ _ (List.getElem?_eq_getElem hj) hv
          rw [← this.oneCell]; exact k3)
      have hrow : RowR ρ bi c' arr' fr := {
        sz := by rw [g2]; exact r3.sz
        ex := by rw [s2]; exact r3.ex
        es := by rw [s3]; exact r3.es
        exact := by rw [s1]; exact r3.exact
        fit := by rw [s1]; exact r3.fit
        cells := by
          intro i v hv
          rw [s7 i] at hv
          by_cases k : o ≤ i ∧ i < o + l.length
          · rw [if_pos k] at hv
            obtain ⟨v', p1, p2⟩ := hl.get hv
            refine ⟨v', ?_, p2⟩
            rw [g3, if_pos (by have := hl.1; omega), show i + bi.sh - (o + bi.sh + 0) = i - o by omega]
            exact p1
          · rw [if_neg k] at hv
            obtain ⟨v', p1, p2⟩ := r3.cells i v hv
            refine ⟨v', ?_, p2⟩
            rw [g3, if_neg (by have := hl.1; omega)]
            exact p1
        plain := by rw [s5]; exact r3.plain
        nofz := r3.nofz
        free := by rw [s5]; exact r3.free }
      have := put_sound hr (by simp [row_get hc]) r1 (.row hrow) (w' := { w with heap := w.heap.setIfInBounds bi.blk (.cells arr' c'.et fr) }) rfl rfl rfl rfl
      exact ⟨bi, _, r1, by rw [g1, s4], this.1, this.2⟩
    · cases hs
  · cases hs

end
end Go.Dv

/- Effects: stores, maps, iterators. -/
namespace Go.Dv
section
variable {P : Program} {ρ : Ren} {ts : Tr Value} {tmps : Array Value} {h : AHeap} {w : World}

/-- what an operation of the model comes to, with the heap -/
def EfOk (P : Program) (ρ : Ren) (tmps : Array Value) (h : AHeap) (w : World) (o : Oper) (v : Value) (h' : AHeap) : Prop :=
  ∃ ρ' w' v', ((execOp (cev tmps) o).run P w = .ok (.value v') w' ∨ ((execOp (cev tmps) o).run P w = .ok .skip w' ∧ v' = Go.undef)) ∧ VR ρ' v v' ∧ HR P ρ' h' w' ∧ Stp h ρ w h' ρ' w'

theorem ef_store (cx : Cx P ρ ts tmps h w) {C : CB} {o : Oper} {t n : Nat} {a x : Operand} (hop : o.op = .store t a x) (ha : okOpd P a = true) (hx : okOpd P x = true) (hn : szOf P t = some n) {v : Value} {h' : AHeap}
    (hv : efV C ts h (.store n (cOpd a) (cOpd x)) = some (v, h')) : EfOk P ρ tmps h w o v h' := by
  simp only [efV] at hv
  split at hv
  · rename_i b off vx hva hvx
    cases hb : Nat.beq (cellsL vx).length n with
    | false => rw [hb] at hv; cases hv
    | true =>
      rw [hb] at hv
      simp only [cond_true] at hv
      split at hv
      · rename_i h2 hs
        cases hv
        obtain ⟨_, bi, f1, f2⟩ := (ev_sound cx ha hva).inv_ptr
        have hc := (ev_sound cx hx hvx).cells
        obtain ⟨bi', w', g1, g2, g3, g4⟩ := storeAt_sound cx.hr hs hc
        rw [f1] at g1; cases g1
        have hsz : (cev tmps x).cells.size = n := by
          have := hc.1
          have h2 := Nat.eq_of_beq_eq_true hb
          simp [cellsL] at this h2
          omega
        refine ⟨ρ, w', Go.undef, .inr ⟨?_, rfl⟩, .undef ρ, g3, g4⟩
        simp only [execOp, hop, Instr.storeAt, f2, Instr.sureAddr, Sem.run_bind, Sem.run_pure, Result.andThen_ok, storeVar, run_sizeOf hn]
        rw [if_neg (by simp [hsz])]
        simp only [cellsL] at g2
        simp [g2]
      · cases hv
  · cases hv

/-! ## maps -/
theorem sameBits_ints (d : Nat) : ∀ (l : List Value) (r : Bool), intsEq l l = some r → (l.zip l).all (fun (x : Value × Value) => Instr.sameBits (d + 1) x.1 x.2) = true := by
  intro l
  induction l with
  | nil => intro _ _; rfl
  | cons x l ih =>
    intro r hr
    unfold intsEq at hr
    split at hr
    · rename_i h1 h2; cases h1
    · rename_i k a l2 k' b m2 h1 h2
      cases h1; cases h2
      split at hr
      · split at hr
        · rename_i r' hr'
          have := ih r' hr'
          simp [Instr.sameBits, this]
        · cases hr
      · cases hr
    · cases hr

theorem key_stays {t : TypeId} {n : Nat} (_ht : KeyT P t n) {k : Value} (hk : isKey n k = true) : (Instr.keyThatStays k k).run P w = .ok k w := by
  have : Instr.sameBits 10000 k k = true := by
    obtain ⟨r, hr⟩ := isKey_some hk
    cases _ht with
    | int ht => obtain ⟨_, _, _, rfl, _⟩ := keyEq_int hr; simp [Instr.sameBits]
    | str ht => obtain ⟨a, _, rfl, _⟩ := keyEq_str hr; simp [Instr.sameBits, bytes_beq]
    | bool ht => obtain ⟨_, _, rfl, _⟩ := keyEq_bool hr; simp [Instr.sameBits]
    | struct ht =>
      obtain ⟨a, b, rfl, e0, hn, hi⟩ := keyEq_struct hr
      cases e0
      have := sameBits_ints 9998 _ _ hi
      simp only [Instr.sameBits, beq_self_eq_true, Bool.true_and]
      exact this
  simp [Instr.keyThatStays, this]

theorem EsR.push {l : List (Value × Value × Nat)} {l' : List MapEntry} (hl : EsR ρ l l') {e : Value × Value × Nat} {e' : MapEntry} (he : ER ρ e e') : EsR ρ (l ++ [e]) (l' ++ [e']) := by
  refine ⟨by simp [hl.1], ?_⟩
  intro i a b ha hb
  by_cases hi : i < l.length
  · rw [List.getElem?_append_left hi] at ha
    rw [List.getElem?_append_left (hl.1 ▸ hi)] at hb
    exact hl.2 i a b ha hb
  · rw [List.getElem?_append_right (by omega)] at ha
    rw [List.getElem?_append_right (by have := hl.1; omega), ← hl.1] at hb
    cases hj : i - l.length with
    | zero => rw [hj] at ha hb; simp at ha hb; subst ha; subst hb; exact he
    | succ j => rw [hj] at ha; simp at ha

theorem EsR.modify {l : List (Value × Value × Nat)} {l' : List MapEntry} (hl : EsR ρ l l') (i : Nat) {f : Value × Value × Nat → Value × Value × Nat} {f' : MapEntry → MapEntry}
    (hf : ∀ e e', ER ρ e e' → ER ρ (f e) (f' e')) : EsR ρ (l.modify i f) (l'.modify i f') := by
  refine ⟨by simp [hl.1], ?_⟩
  intro j a b ha hb
  rw [List.getElem?_modify] at ha hb
  by_cases e : i = j
  · subst e
    simp only [if_true] at ha hb
    cases hx : l[i]? with
    | none => rw [hx] at ha; simp at ha
    | some x =>
      cases hy : l'[i]? with
      | none => rw [hy] at hb; simp at hb
      | some y =>
        rw [hx] at ha; rw [hy] at hb
        simp at ha hb
        subst ha; subst hb
        exact hf x y (hl.2 i x y hx hy)
  · simp only [e, if_false] at ha hb
    exact hl.2 j a b (by simpa using ha) (by simpa using hb)

theorem EsR.erase {l : List (Value × Value × Nat)} {l' : List MapEntry} (hl : EsR ρ l l') (i : Nat) : EsR ρ (l.eraseIdx i) (l'.eraseIdx i) := by
  refine ⟨by simp [List.length_eraseIdx, hl.1], ?_⟩
  intro j a b ha hb
  rw [List.getElem?_eraseIdx] at ha hb
  split at ha
  · rename_i h; rw [if_pos h] at hb; exact hl.2 j a b ha hb
  · rename_i h; rw [if_neg h] at hb; exact hl.2 (j + 1) a b ha hb

theorem map_of (hr : HR P ρ h w) {r : Nat} {es : List (Value × Value × Nat)} {clock : Nat} {bi : BI} (hb : ρ r = some bi) (hg : h.get r = some (.map es clock)) :
    ∃ es', EsR ρ es es'.toList ∧ (getObj bi.blk).run P w = .ok (.map es' clock) w ∧ w.heap[bi.blk]? = some (.map es' clock) := by
  obtain ⟨bi', o', f1, f2, f3⟩ := hr.obj _ _ hg
  rw [hb] at f1; cases f1
  cases f3 with
  | map clock hs hE => exact ⟨_, hE, run_getObj f2 (by simp), f2⟩

theorem run_setObj {r : Nat} {o o' : Obj} (hh : w.heap[r]? = some o) (hn : ∀ a b c, o ≠ .cells a b c) : (setObj r o').run P w = .ok () { w with heap := w.heap.setIfInBounds r o' } := by
  cases o <;> simp only [setObj, Sem.run, hh]
  exact absurd rfl (hn _ _ _)

theorem ef_mapUpd (cx : Cx P ρ ts tmps h w) {C : CB} {o : Oper} {t kt e n : Nat} {m k x : Operand} (hop : o.op = .mapUpdate t m k x ∨ o.op = .insert t m k x) (hm : okOpd P m = true) (hk : okOpd P k = true) (hx : okOpd P x = true)
    (ht : P.underlying t = some (.map kt e)) (hkt : keyK P kt = some n) {v : Value} {h' : AHeap}
    (hv : efV C ts h (.mapUpd n (cOpd m) (cOpd k) (cOpd x)) = some (v, h')) : EfOk P ρ tmps h w o v h' := by
  have hK := keyK_sound hkt
  have hexec : (execOp (cev tmps) o) = (do Instr.mapUpdate t (cev tmps m) (cev tmps k) (cev tmps x); pure .skip) := by
    rcases hop with e | e <;> simp [execOp, e]
  simp only [efV] at hv
  split at hv
  · rename_i r kv xv hr hkv hxv
    obtain ⟨bi, f1, f2, f3⟩ := (ev_sound cx hm hr).inv_map
    have h2 := ev_sound cx hk hkv
    have h3 := ev_sound cx hx hxv
    split at hv
    · rename_i es clock hg
      obtain ⟨es', hE, g1, g2⟩ := map_of cx.hr f1 hg
      cases hkey : isKey n kv with
      | false => rw [hkey] at hv; simp at hv
      | true =>
        rw [hkey] at hv
        simp only [cond_true] at hv
        have hsame := key_same hK hkey h2
        have hck := run_checkKey (P := P) (w := w) hK hkey false 9999 (by omega)
        rw [← hsame] at hck
        split at hv
        · rename_i i x0 hfind
          cases hv
          obtain ⟨r', p1, p2⟩ := findKey_sound (P := P) (w := w) hK hkey hE hfind
          rw [← hsame] at p1
          cases p2 with
          | some hxv' hkk =>
            have hks := key_stays (P := P) (w := w) hK hkey
            have hkk' : ((es'[i]?).map (·.key)).getD kv = kv := by
              have : (es'[i]?).map (·.key) = some kv := by simpa using hkk
              rw [this]; rfl
            obtain ⟨q1, q2⟩ := put_sound cx.hr (b := r) (ob := .map (es.modify i fun e => (kv, xv, e.2.2)) clock) (by simp [hg]) f1
              (ob' := .map (es'.modify i fun e => { e with key := kv, val := cev tmps x }) clock) (.map clock f2 (by
                rw [Array.toList_modify]
                exact hE.modify i fun a b hab => ⟨hsame ▸ h2, h3, hab.2.2⟩))
              (w' := { w with heap := w.heap.setIfInBounds bi.blk (.map (es'.modify i fun e => { e with key := kv, val := cev tmps x }) clock) }) rfl rfl rfl rfl
            refine ⟨ρ, _, Go.undef, .inr ⟨?_, rfl⟩, .undef ρ, q1, q2⟩
            rw [hexec]
            simp only [Instr.mapUpdate, Sem.run_bind, run_under ht, Result.andThen_ok, f3, g1, hck, p1]
            rw [hsame, hkk']
            simp only [hks, Result.andThen_ok, run_setObj g2 (by simp), Sem.run_pure]
        · rename_i hfind
          cases hv
          obtain ⟨r', p1, p2⟩ := findKey_sound (P := P) (w := w) hK hkey hE hfind
          rw [← hsame] at p1
          cases p2 with
          | none =>
            obtain ⟨q1, q2⟩ := put_sound cx.hr (b := r) (ob := .map (es ++ [(kv, xv, clock)]) (clock + 1)) (by simp [hg]) f1
              (ob' := .map (es'.push { key := kv, val := cev tmps x, born := clock }) (clock + 1)) (.map (clock + 1) f2 (by
                rw [Array.toList_push]
                exact hE.push ⟨hsame ▸ h2, h3, rfl⟩))
              (w' := { w with heap := w.heap.setIfInBounds bi.blk (.map (es'.push { key := kv, val := cev tmps x, born := clock }) (clock + 1)) }) rfl rfl rfl rfl
            refine ⟨ρ, _, Go.undef, .inr ⟨?_, rfl⟩, .undef ρ, q1, q2⟩
            rw [hexec]
            simp only [Instr.mapUpdate, Sem.run_bind, run_under ht, Result.andThen_ok, f3, g1, hck, p1]
            rw [hsame]
            simp only [run_setObj g2 (by simp), Result.andThen_ok, Sem.run_pure]
        · cases hv
    · cases hv
  · cases hv

theorem ef_delete (cx : Cx P ρ ts tmps h w) {C : CB} {o : Oper} {t kt e n : Nat} {m k : Operand} {tys : Array TypeId} (hop : o.op = .call { callee := .builtin .delete, args := #[m, k], argTypes := tys }) (ht0 : tys[0]? = some t)
    (hm : okOpd P m = true) (hk : okOpd P k = true) (ht : P.underlying t = some (.map kt e)) (hkt : keyK P kt = some n) {v : Value} {h' : AHeap}
    (hv : efV C ts h (.delete n (cOpd m) (cOpd k)) = some (v, h')) : EfOk P ρ tmps h w o v h' := by
  have hK := keyK_sound hkt
  have hexec : (execOp (cev tmps) o).run P w = ((Builtin.delete_ tys o.type #[cev tmps m, cev tmps k]).run P w).andThen fun a w' => .ok (.value a) w' := by
    simp [execOp, hop, resolve, invoke, builtin]
  simp only [efV] at hv
  split at hv
  · rename_i kv hr hkv
    cases hkey : isKey n kv with
    | false => rw [hkey] at hv; cases hv
    | true =>
      rw [hkey] at hv
      cases hv
      have h2 := ev_sound cx hk hkv
      have hsame := key_same hK hkey h2
      have hck := run_checkKey (P := P) (w := w) hK hkey true 9999 (by omega)
      rw [← hsame] at hck
      refine ⟨ρ, w, .tuple #[], .inl ?_, .tuple_of (.nil ρ), cx.hr, .refl _ _ _⟩
      rw [hexec]
      simp [Builtin.delete_, ht0, run_under ht, (ev_sound cx hm hr).inv_nilMap, hck]
  · rename_i r kv hr hkv
    obtain ⟨bi, f1, f2, f3⟩ := (ev_sound cx hm hr).inv_map
    have h2 := ev_sound cx hk hkv
    split at hv
    · rename_i es clock hg
      obtain ⟨es', hE, g1, g2⟩ := map_of cx.hr f1 hg
      cases hkey : isKey n kv with
      | false => rw [hkey] at hv; simp at hv
      | true =>
        rw [hkey] at hv
        simp only [cond_true] at hv
        have hsame := key_same hK hkey h2
        have hck := run_checkKey (P := P) (w := w) hK hkey es'.isEmpty 9999 (by omega)
        rw [← hsame] at hck
        split at hv
        · rename_i i x0 hfind
          cases hv
          obtain ⟨r', p1, p2⟩ := findKey_sound (P := P) (w := w) hK hkey hE hfind
          rw [← hsame] at p1
          cases p2 with
          | some hxv' hkk =>
            obtain ⟨q1, q2⟩ := put_sound cx.hr (b := r) (ob := .map (es.eraseIdx i) clock) (by simp [hg]) f1
              (ob' := .map (es'.eraseIdxIfInBounds i) clock) (.map clock f2 (by
                rw [Array.toList_eraseIdxIfInBounds]
                exact hE.erase i))
              (w' := { w with heap := w.heap.setIfInBounds bi.blk (.map (es'.eraseIdxIfInBounds i) clock) }) rfl rfl rfl rfl
            refine ⟨ρ, _, .tuple #[], .inl ?_, .tuple_of (.nil ρ), q1, q2⟩
            rw [hexec]
            simp [Builtin.delete_, ht0, run_under ht, f3, g1, hck, p1, run_setObj g2 (by simp)]
        · rename_i hfind
          cases hv
          obtain ⟨r', p1, p2⟩ := findKey_sound (P := P) (w := w) hK hkey hE hfind
          rw [← hsame] at p1
          cases p2 with
          | none =>
            obtain ⟨q1, q2⟩ := put_sound cx.hr (b := r) (ob := .map es clock) (by simp [hg]) f1
              (ob' := .map es' clock) (.map clock f2 hE)
              (w' := { w with heap := w.heap.setIfInBounds bi.blk (.map es' clock) }) rfl rfl rfl rfl
            refine ⟨ρ, _, .tuple #[], .inl ?_, .tuple_of (.nil ρ), q1, q2⟩
            rw [hexec]
            simp [Builtin.delete_, ht0, run_under ht, f3, g1, hck, p1, run_setObj g2 (by simp)]
        · cases hv
    · cases hv
  · cases hv

end
end Go.Dv

/- Effects: iterators, slices. -/
namespace Go.Dv
section
variable {P : Program} {ρ : Ren} {ts : Tr Value} {tmps : Array Value} {h : AHeap} {w : World}

theorem ptr_zero {ρ' : Ren} {b : Nat} {bi : BI} (hb : ρ' b = some bi) (hs : bi.sh = 0) : VR ρ' (.pointer (some ⟨b, 0, none⟩)) (.pointer (some ⟨bi.blk, 0, none⟩)) := ptr_made hb hs

theorem ef_range (cx : Cx P ρ ts tmps h w) {C : CB} {o : Oper} {t : TypeId} {x : Operand} {str : Bool} (hop : o.op = .range t x) (hx : okOpd P x = true)
    (ht : match str with | true => P.underlying t = some .string | false => ∃ a b, P.underlying t = some (.map a b)) {v : Value} {h' : AHeap}
    (hv : efV C ts h (.range str (cOpd x)) = some (v, h')) : EfOk P ρ tmps h w o v h' := by
  have mk : ∀ (ob : AObj) (ob' : Obj), (∀ bi : BI, bi.sh = 0 → OR P ρ bi ob ob') → (execOp (cev tmps) o).run P w = .ok (.value (.pointer (some ⟨w.heap.size, 0, none⟩))) { w with heap := w.heap.push ob' } →
      EfOk P ρ tmps h w o (.pointer (some ⟨h.next, 0, none⟩)) (h.new ob) := by
    intro ob ob' ho hrun
    obtain ⟨ρ', h1, h2, h3⟩ := new_sound cx.hr (bi := ⟨w.heap.size, 0, 0, true, 0⟩) rfl (ho _ rfl) (w' := { w with heap := w.heap.push ob' }) rfl rfl rfl rfl
    exact ⟨ρ', _, _, .inl hrun, ptr_zero h1 rfl, h2, h3⟩
  simp only [efV] at hv
  split at hv
  · rename_i s hs
    cases hv
    simp only at ht
    refine mk _ (.stringIter s 0) (fun bi hb => .sIter s 0 hb) ?_
    simp [execOp, hop, Instr.range, run_under ht, (ev_sound cx hx hs).inv_string]
  · rename_i hs
    cases hv
    obtain ⟨a, b, ht⟩ := ht
    refine mk _ (.mapIter none 0 #[] 0) (fun bi hb => .mIterNil 0 #[] 0 hb) ?_
    simp [execOp, hop, Instr.range, run_under ht, (ev_sound cx hx hs).inv_nilMap]
  · rename_i m hs
    obtain ⟨a, b, ht⟩ := ht
    obtain ⟨bm, f1, f2, f3⟩ := (ev_sound cx hx hs).inv_map
    split at hv
    · rename_i es clock hg
      cases hv
      obtain ⟨es', hE, g1, g2⟩ := map_of cx.hr f1 hg
      refine mk _ (.mapIter (some bm.blk) clock #[] clock) (fun bi hb => .mIter clock #[] clock hb f1 f2) ?_
      simp [execOp, hop, Instr.range, run_under ht, f3, g1]
    · cases hv
  · cases hv

theorem EsR.filter {l : List (Value × Value × Nat)} {l' : List MapEntry} (hl : EsR ρ l l') {p : Nat → Bool} : EsR ρ (l.filter fun e => p e.2.2) (l'.filter fun e => p e.born) := by
  induction l generalizing l' with
  | nil =>
    have : l' = [] := by have := hl.1; simp at this; exact List.eq_nil_of_length_eq_zero this.symm
    subst this; exact ⟨rfl, by simp⟩
  | cons e l ih =>
    obtain ⟨e', l', rfl⟩ : ∃ a b, l' = a :: b := by
      cases l' with
      | nil => have := hl.1; simp at this
      | cons a b => exact ⟨a, b, rfl⟩
    obtain ⟨h1, h2⟩ := hl.tail
    rw [List.filter_cons, List.filter_cons, ← h1.2.2]
    split
    · have := ih h2
      refine ⟨by simp [this.1], ?_⟩
      intro i a b ha hb
      cases i with
      | zero => simp at ha hb; subst ha; subst hb; exact h1
      | succ i => simp at ha hb; exact this.2 i a b ha hb
    · exact ih h2

theorem EsR.all {l : List (Value × Value × Nat)} {l' : List MapEntry} (hl : EsR ρ l l') {p : Nat → Bool} : (l.all fun e => p e.2.2) = (l'.all fun e => p e.born) := by
  induction l generalizing l' with
  | nil =>
    have : l' = [] := by have := hl.1; simp at this; exact List.eq_nil_of_length_eq_zero this.symm
    subst this; rfl
  | cons e l ih =>
    obtain ⟨e', l', rfl⟩ : ∃ a b, l' = a :: b := by
      cases l' with
      | nil => have := hl.1; simp at this
      | cons a b => exact ⟨a, b, rfl⟩
    obtain ⟨h1, h2⟩ := hl.tail
    rw [List.all_cons, List.all_cons, h1.2.2, ih h2]

theorem ef_next (cx : Cx P ρ ts tmps h w) {C : CB} {o : Oper} {x : Operand} {str : Bool} (hop : o.op = .next x str) (hx : okOpd P x = true) {v : Value} {h' : AHeap}
    (hv : efV C ts h (.next str (cOpd x)) = some (v, h')) : EfOk P ρ tmps h w o v h' := by
  simp only [efV] at hv
  split at hv
  · rename_i r hs
    obtain ⟨_, bi, f1, f2⟩ := (ev_sound cx hx hs).inv_ptr
    split at hv
    · -- a string
      rename_i s pos hg
      obtain ⟨bi', o', e1, e2, e3⟩ := cx.hr.obj _ _ hg
      rw [f1] at e1; cases e1
      cases e3 with
      | sIter s pos hs0 =>
        have hz : 0 + bi.sh = 0 := by rw [hs0]
        have r1 := run_getObj (P := P) e2 (by simp)
        cases hb : Nat.blt pos s.size with
        | false =>
          rw [hb] at hv
          cases hv
          have hlt : ¬ pos < s.size := by intro k; rw [show Nat.blt pos s.size = true by simpa [Nat.blt_eq] using k] at hb; cases hb
          refine ⟨ρ, w, .tuple #[.bool false], .inl ?_, .tuple_of (.cons (.bool false) (.nil ρ)), cx.hr, .refl _ _ _⟩
          simp [execOp, hop, Instr.next, f2, hz, r1, hlt]
        | true =>
          rw [hb] at hv
          simp only [cond_true, Option.some.injEq, Prod.mk.injEq] at hv
          obtain ⟨rfl, rfl⟩ := hv
          have hlt : pos < s.size := by simpa [Nat.blt_eq] using hb
          obtain ⟨q1, q2⟩ := put_sound cx.hr (b := r) (ob := .sIter s (pos + (Utf8.decode s pos).2)) (by simp [hg]) f1 (ob' := .stringIter s (pos + (Utf8.decode s pos).2)) (.sIter _ _ hs0)
            (w' := { w with heap := w.heap.setIfInBounds bi.blk (.stringIter s (pos + (Utf8.decode s pos).2)) }) rfl rfl rfl rfl
          refine ⟨ρ, _, .tuple #[.bool true, .int .i64 pos, .int .i32 (Utf8.decode s pos).1], .inl ?_, .tuple_of (.cons (.bool true) (.cons (.int _ _) (.cons (.int _ _) (.nil ρ)))), q1, q2⟩
          simp [execOp, hop, Instr.next, f2, hz, r1, hlt, run_setObj e2 (by simp), goInt]
    · -- no map
      rename_i since seen last hg
      cases hv
      obtain ⟨bi', o', e1, e2, e3⟩ := cx.hr.obj _ _ hg
      rw [f1] at e1; cases e1
      cases e3 with
      | mIterNil since seen stepped hs0 =>
        have hz : 0 + bi.sh = 0 := by rw [hs0]
        have r1 := run_getObj (P := P) e2 (by simp)
        refine ⟨ρ, w, .tuple #[.bool false], .inl ?_, .tuple_of (.cons (.bool false) (.nil ρ)), cx.hr, .refl _ _ _⟩
        simp [execOp, hop, Instr.next, f2, hz, r1]
    · -- a map
      rename_i m since seen last hg
      obtain ⟨bi', o', e1, e2, e3⟩ := cx.hr.obj _ _ hg
      rw [f1] at e1; cases e1
      cases e3 with
      | mIter since seen' last hs0 hmm hms =>
        rename_i bm
        have hz : 0 + bi.sh = 0 := by rw [hs0]
        have r1 := run_getObj (P := P) e2 (by simp)
        split at hv
        · rename_i es clock hgm
          obtain ⟨es', hE, g1, g2⟩ := map_of cx.hr hmm hgm
          cases hb : (!seen'.toList.isEmpty && !es.isEmpty && es.all (fun e => Nat.ble last e.2.2)) with
          | true => rw [hb] at hv; cases hv
          | false =>
            rw [hb] at hv
            simp only [cond_false] at hv
            have hb' : (!seen'.isEmpty && !es'.isEmpty && es'.all (fun e => decide (e.born ≥ last))) = false := by
              have h1 : es.isEmpty = es'.isEmpty := by
                have := hE.1
                cases es with
                | nil => simp at this; simp [Array.isEmpty, this.symm]
                | cons a b =>
                  simp at this
                  cases he : es'.isEmpty with
                  | false => rfl
                  | true => simp at he; subst he; simp at this
              have h2 : (es.all fun e => Nat.ble last e.2.2) = es'.all (fun e => decide (e.born ≥ last)) := by
                rw [hE.all (p := fun n => Nat.ble last n), ← Array.all_toList]
                congr 1
                funext e
                by_cases k : last ≤ e.born
                · simp [k, Nat.ble_eq_true_of_le k]
                · have : Nat.ble last e.born = false := by
                    cases hb : Nat.ble last e.born with
                    | false => rfl
                    | true => exact absurd (Nat.le_of_ble_eq_true hb) k
                  simp [k, this]
              have h3 : seen'.toList.isEmpty = seen'.isEmpty := by simp
              rw [← h1, ← h2, ← h3]; exact hb
            have hF := hE.filter (p := fun n => !seen'.toList.contains n)
            have hF' : (es'.filter fun e => !seen'.contains e.born).toList = es'.toList.filter (fun e => !seen'.toList.contains e.born) := by
              rw [Array.toList_filter]; simp
            split at hv
            · -- over
              rename_i hfil
              cases hv
              have hnil : es'.filter (fun e => !seen'.contains e.born) = #[] := by
                apply Array.ext'
                rw [hF']
                have := hF.1
                rw [hfil] at this
                simpa using List.eq_nil_of_length_eq_zero this.symm
              refine ⟨ρ, w, .tuple #[.bool false], .inl ?_, .tuple_of (.cons (.bool false) (.nil ρ)), cx.hr, .refl _ _ _⟩
              have hnil2 : es'.filter (fun e => !seen'.contains e.born) 0 es'.size = #[] := hnil
              simp only [execOp, hop, Instr.next, f2, hz, Sem.run_bind, r1, Result.andThen_ok, g1, hb', Bool.false_eq_true, if_false, hnil2]
              simp [Question.forced]
            · -- one more
              rename_i k v0 born hfil
              cases hlt : Nat.blt born since with
              | false => rw [hlt] at hv; cases hv
              | true =>
                rw [hlt] at hv
                simp only [cond_true, Option.some.injEq, Prod.mk.injEq] at hv
                obtain ⟨rfl, rfl⟩ := hv
                have hlt' : born < since := by simpa [Nat.blt_eq] using hlt
                obtain ⟨e', hone, hER⟩ : ∃ e', es'.toList.filter (fun e => !seen'.toList.contains e.born) = [e'] ∧ ER ρ (k, v0, born) e' := by
                  rw [hfil] at hF
                  have hl := hF.1
                  simp at hl
                  generalize hq : (es'.toList.filter fun e => !seen'.toList.contains e.born) = q at *
                  match q, hl with
                  | [e'], _ => exact ⟨e', rfl, hF.2 0 _ _ rfl rfl⟩
                have hone' : es'.filter (fun e => !seen'.contains e.born) 0 es'.size = #[e'] := by
                  apply Array.ext'
                  have := hF'
                  rw [hone] at this
                  exact this
                have hbn : e'.born = born := hER.2.2.symm
                obtain ⟨q1, q2⟩ := put_sound cx.hr (b := r) (ob := .mIter (some m) since (seen'.toList ++ [born]) clock) (by simp [hg]) f1 (ob' := .mapIter (some bm.blk) since (seen'.push born) clock)
                  (by rw [← Array.toList_push]; exact .mIter since (seen'.push born) clock hs0 hmm hms)
                  (w' := { w with heap := w.heap.setIfInBounds bi.blk (.mapIter (some bm.blk) since (seen'.push born) clock) }) rfl rfl rfl rfl
                refine ⟨ρ, _, .tuple #[.bool true, e'.key, e'.val], .inl ?_, .tuple_of (.cons (.bool true) (.cons hER.1 (.cons hER.2.1 (.nil ρ)))), q1, q2⟩
                simp only [execOp, hop, Instr.next, f2, hz, Sem.run_bind, r1, Result.andThen_ok, g1, hb', Bool.false_eq_true, if_false, hone']
                have o1 : #[e'].filter (fun e => decide (e.born < since)) = #[e'] := by simp [hbn, hlt']
                have o2 : #[e'].filter (fun e => decide (e.born ≥ since)) = #[] := by simp [hbn]; omega
                simp [hbn, hlt', Question.forced, run_setObj e2 (by simp)]
            · cases hv
        · cases hv
    · cases hv
  · cases hv

theorem ef_clearM (cx : Cx P ρ ts tmps h w) {C : CB} {o : Oper} {t a b : TypeId} {x : Operand} (hop : o.op = .call { callee := .builtin .clear, args := #[x], argTypes := #[t] }) (hx : okOpd P x = true)
    (ht : P.underlying t = some (.map a b)) {v : Value} {h' : AHeap} (hv : efV C ts h (.clearM (cOpd x)) = some (v, h')) : EfOk P ρ tmps h w o v h' := by
  simp only [efV] at hv
  split at hv
  · rename_i hs
    cases hv
    refine ⟨ρ, w, .tuple #[], .inl ?_, .tuple_of (.nil ρ), cx.hr, .refl _ _ _⟩
    simp [execOp, hop, resolve, invoke, builtin, Builtin.clear_, run_under ht, (ev_sound cx hx hs).inv_nilMap]
  · rename_i r hs
    obtain ⟨bi, f1, f2, f3⟩ := (ev_sound cx hx hs).inv_map
    split at hv
    · rename_i es clock hg
      cases hv
      obtain ⟨es', hE, g1, g2⟩ := map_of cx.hr f1 hg
      obtain ⟨q1, q2⟩ := put_sound cx.hr (b := r) (ob := .map [] clock) (by simp [hg]) f1 (ob' := .map #[] clock) (.map clock f2 ⟨rfl, by simp⟩)
        (w' := { w with heap := w.heap.setIfInBounds bi.blk (.map #[] clock) }) rfl rfl rfl rfl
      refine ⟨ρ, _, .tuple #[], .inl ?_, .tuple_of (.nil ρ), q1, q2⟩
      simp [execOp, hop, resolve, invoke, builtin, Builtin.clear_, run_under ht, f3, g1, run_setObj g2 (by simp)]
    · cases hv
  · cases hv

end
end Go.Dv

/- Effects: append, copy, clear. -/
namespace Go.Dv
section
variable {P : Program} {ρ : Ren} {ts : Tr Value} {tmps : Array Value} {h : AHeap} {w : World}

theorem loads_length (c : Row) : ∀ (n i : Nat) (l : List Value), c.loads i n = some l → l.length = n := by
  intro n
  induction n with
  | zero => intro i l h; simp [Row.loads] at h; subst h; rfl
  | succ n ih =>
    intro i l h
    simp only [Row.loads] at h
    split at h
    · split at h
      · rename_i l2 hl2
        cases h
        simp [ih _ _ hl2]
      · cases h
    · cases h

theorem row_load_all (hr : HR P ρ h w) {b o n : Nat} {c : Row} {l : List Value} (hh : h.row b = some c) (hl : c.loads o n = some l) :
    ∃ bi l', ρ b = some bi ∧ LR ρ l l' ∧ ∀ w', w'.heap = w.heap → (loadCells ⟨bi.blk, o + bi.sh, none⟩ n).run P w' = .ok l'.toArray w' := by
  obtain ⟨bi, arr, fr, h1, h2, h3⟩ := row_sound hr hh
  obtain ⟨a, e⟩ := loads_sound h3 n o l hl
  have hlen : ((arr.toList.drop (o + bi.sh)).take n).length = n := by rw [← a.1, e]
  have hle : o + bi.sh + n ≤ arr.size ∨ n = 0 := by
    simp at hlen; omega
  refine ⟨bi, _, h1, a, ?_⟩
  intro w' hw'
  rcases hle with hle | hle
  · exact run_loadCells_of (by rw [hw']; exact h2) hle
  · subst hle; simp [loadCells, loadCellsFrom]

theorem src_sound (hr : HR P ρ h w) {es n : Nat} {x x' : Value} {l : List Value} (hs : srcL h es n x = some l) (hx : VR ρ x x') (hn : ∀ m, lenV x = some m → n ≤ m) :
    ∃ l', (∀ w', w'.heap = w.heap → (Builtin.firstCells es n x').run P w' = .ok l'.toArray w') ∧ LR ρ l l' ∧ l.length = n * es := by
  unfold srcL at hs
  split at hs
  · rename_i b off len cap
    split at hs
    · rename_i c hc
      have hlen := loads_length c _ _ _ hs
      rcases hx.inv_sl with ⟨_, bi, c', f1, f2, _⟩ | ⟨rfl, rfl, a', f2⟩
      · obtain ⟨bi', l', e1, e2, e3⟩ := row_load_all hr hc hs
        rw [f1] at e1; cases e1
        exact ⟨l', fun w' hw' => by rw [f2]; simp only [Builtin.firstCells]; exact e3 w' hw', e2, hlen⟩
      · have hn0 : n = 0 := by have := hn 0 rfl; omega
        subst hn0
        have : l = [] := List.eq_nil_of_length_eq_zero (by omega)
        subst this
        exact ⟨[], fun w' _ => by rw [f2]; simp [Builtin.firstCells, loadCells, loadCellsFrom], .nil ρ, by simp⟩
    · cases hs
  · cases hs
    have hn0 : n ≤ 0 := hn 0 rfl
    rw [hx.inv_nilSl]
    refine ⟨[], fun w' _ => by simp [Builtin.firstCells], .nil ρ, ?_⟩
    have : n = 0 := by omega
    subst this
    simp
  · rename_i s
    cases hb : Nat.beq es 1 with
    | false => rw [hb] at hs; cases hs
    | true =>
      rw [hb] at hs
      cases hs
      have := Nat.eq_of_beq_eq_true hb
      subst this
      have hn0 : n ≤ s.size := hn s.size rfl
      rw [hx.inv_string]
      refine ⟨(s.data.toList.take n).map fun b => .int .u8 (b.toNat : Nat), ?_, ?_, ?_⟩
      · intro w' _
        simp only [Builtin.firstCells, Sem.run_pure]
        congr 1
        apply Array.ext'
        rw [ByteArray.data_extract]
        simp [List.extract_eq_take_drop]
      · refine ⟨rfl, ?_⟩
        intro i v v' hv hv'
        rw [hv] at hv'
        cases hv'
        rw [List.getElem?_map] at hv
        cases hq : (s.data.toList.take n)[i]? with
        | none => rw [hq] at hv; cases hv
        | some b => rw [hq] at hv; cases hv; exact .int _ _
      · simp at hn0 ⊢; omega
  · cases hs

theorem lenV_sound {x x' : Value} {n : Nat} (hn : lenV x = some n) (hx : VR ρ x x') : (Builtin.lenOf x').run P w = .ok n w := by
  unfold lenV at hn
  split at hn
  · cases hn
    obtain ⟨a', c', e⟩ := hx.inv_slen
    rw [e]; rfl
  · cases hn
    rw [hx.inv_string]; rfl
  · cases hn

/-- the old row goes, a new one takes its place -/
theorem move_sound (hr : HR P ρ h w) {b : Nat} {bi bi2 : BI} {ob : AObj} {ob' : Obj} (hl : (h.get b).isSome = true) (hb : ρ b = some bi) (hblk : bi2.blk = bi.blk) (ho : OR P ρ bi2 ob ob') {w' : World}
    (hw : w'.heap = w.heap.setIfInBounds bi.blk ob') (ht : w'.tape = w.tape) (hos : w'.os = w.os) (hout : w'.output = w.output) :
    ∃ ρ', ρ' h.next = some bi2 ∧ HR P ρ' ((h.kill b).new ob) w' ∧ Stp h ρ w ((h.kill b).new ob) ρ' w' := by
  have hlt : bi.blk < w.heap.size := (hr.bnd b bi hb).2
  have hfresh : ρ h.next = none := by
    cases hh : ρ h.next with
    | none => rfl
    | some x => exact absurd (hr.bnd _ x hh).1 (Nat.lt_irrefl _)
  have hext : Ext ρ (fun c => if c = h.next then some bi2 else ρ c) := by
    intro c x hc
    have : c ≠ h.next := by intro e; rw [e, hfresh] at hc; cases hc
    simp [this, hc]
  have hget : ∀ c, ((h.kill b).new ob).get c = if c = h.next then some ob else if c = b then none else h.get c := by
    intro c; rw [get_new, get_kill]; rfl
  have live : ∀ c, (((h.kill b).new ob).get c).isSome = true → c = h.next ∨ (c ≠ h.next ∧ c ≠ b ∧ (h.get c).isSome = true) := by
    intro c hc
    rw [hget] at hc
    split at hc
    · exact .inl (by assumption)
    · split at hc
      · cases hc
      · exact .inr ⟨by assumption, by assumption, hc⟩
  refine ⟨fun c => if c = h.next then some bi2 else ρ c, by simp, ⟨?_, ?_, ?_, ?_⟩, ⟨hext, ?_, ?_, ?_, ht, hos, hout, Nat.le_succ _, fun c hc => by simp [Nat.ne_of_lt hc], fun a => let ⟨_, h1, h2⟩ := frozen_live hr hl hb; frozen_set h1 h2 ho.nofz hw a⟩⟩
  · intro c o hc
    rw [hget] at hc
    split at hc
    · rename_i e
      cases hc
      exact ⟨bi2, ob', by simp [e], by rw [hw, hblk]; simp [hlt], ho.mono hext⟩
    · split at hc
      · cases hc
      · rename_i e1 e2
        obtain ⟨bc, oc, h1, h2, h3⟩ := hr.obj c o hc
        refine ⟨bc, oc, by simp [e1, h1], ?_, h3.mono hext⟩
        have hne : bi.blk ≠ bc.blk := fun k => e2 (hr.inj c b bc bi (by simp [hc]) hl h1 hb k.symm)
        rw [hw, Array.getElem?_setIfInBounds_ne hne]
        exact h2
  · intro c d x y hc hd hx hy e
    rcases live c hc with rfl | ⟨n1, n2, lc⟩
    · rcases live d hd with rfl | ⟨m1, m2, ld⟩
      · rfl
      · simp only [if_true, Option.some.injEq] at hx
        simp only [m1, if_false] at hy
        rw [← hx, hblk] at e
        exact absurd (hr.inj d b y bi ld hl hy hb e.symm) m2
    · simp only [n1, if_false] at hx
      rcases live d hd with rfl | ⟨m1, m2, ld⟩
      · simp only [if_true, Option.some.injEq] at hy
        rw [← hy, hblk] at e
        exact absurd (hr.inj c b x bi lc hl hx hb e) n2
      · simp only [m1, if_false] at hy
        exact hr.inj c d x y lc ld hx hy e
  · intro c x hx
    show c < h.next + 1 ∧ _
    rw [hw, Array.size_setIfInBounds]
    by_cases ec : c = h.next
    · simp only [ec, if_true, Option.some.injEq] at hx
      rw [← hx, hblk]
      omega
    · simp only [ec, if_false] at hx
      have := hr.bnd c x hx
      omega
  · intro g hg
    obtain ⟨x, h1, h2, h3⟩ := hr.glob g hg
    exact ⟨x, hext _ _ h1, h2, h3⟩
  · intro c x hc hx
    rcases live c hc with rfl | ⟨n1, n2, lc⟩
    · simp only [if_true, Option.some.injEq] at hx
      exact .inr ⟨b, bi, hl, hb, by rw [← hx, hblk]⟩
    · simp only [n1, if_false] at hx
      exact .inr ⟨c, x, lc, hx, rfl⟩
  · rw [hw]; simp
  · intro c hc hn
    rw [hw, Array.getElem?_setIfInBounds_ne (hn b bi hl hb)]

theorem zeroCells_size (z : Array Value) (n : Nat) : (Builtin.zeroCells z n).size = n * z.size := by simp [Builtin.zeroCells]

theorem growBy_le (newLen : Nat) (hn : 256 ≤ newLen) : ∀ (r c : Nat), c ≤ 2 * newLen → Builtin.growBy newLen r c ≤ 2 * newLen := by
  intro r
  induction r with
  | zero => intro c hc; exact hc
  | succ r ih =>
    intro c hc
    simp only [Builtin.growBy]
    split
    · exact hc
    · exact ih _ (by omega)

theorem nextslicecap_le {need cap : Nat} (hlt : cap < need) : Builtin.nextslicecap need cap ≤ 2 * need := by
  unfold Builtin.nextslicecap
  split
  · omega
  · split
    · omega
    · exact growBy_le need (by omega) 4 cap (by omega)

/-- the run of an append that makes a new row -/
theorem run_append_new {t u e : Nat} {ty : TypeId} {i : TypeInfo} {d : TypeDesc} {z : Value} {s x : Value} {base : Option Addr} {len cap n : Nat} {old new : Array Value}
    (ht : P.underlying t = some (.slice e)) (hu : P.underlying u = some d) (hd : ∀ k, d ≠ .int k) (hi : P.info? e = some i) (hz : i.zero = some z) (hs : s = .slice base len cap)
    (hn : ∀ w, (Builtin.lenOf x).run P w = .ok n w) (hlt : cap < len + n) (hb : 2 * (len + n) * i.bytes ≤ 281474976710656) (hsm : len + n < 4611686018427387904)
    (hold : ∀ w', w'.heap = w.heap → (Builtin.firstCells i.size len s).run P w' = .ok old w') (hnew : ∀ w', w'.heap = w.heap → (Builtin.firstCells i.size n x).run P w' = .ok new w') :
    ∃ nc w1, len + n ≤ nc ∧ (Builtin.append_ #[t, u] ty #[s, x]).run P w = .ok (.slice (some ⟨w.heap.size, 0, none⟩) (len + n) nc) w1 ∧
      w1.heap = w.heap.push (.cells (old ++ new ++ Builtin.zeroCells z.cells (nc - (len + n))) e) ∧ w1.tape = w.tape ∧ w1.os = w.os ∧ w1.output = w.output := by
  subst hs
  have hk : szOf P e = some i.size := by simp [szOf, hi]
  have h1 : ¬ (len + n ≤ cap) := by omega
  have h2 : ¬ (((len + n : Nat) : Int) > IntKind.i64.max) := by
    have : IntKind.i64.max = 9223372036854775807 := by decide
    rw [this]; omega
  have h3 : ¬ (Builtin.nextslicecap (len + n) cap * i.bytes > 2 ^ 48) := by
    have := Nat.mul_le_mul_right i.bytes (nextslicecap_le (need := len + n) (cap := cap) (by omega))
    omega
  have hd' : (d matches .int _) = false := by cases d <;> first | rfl | exact absurd rfl (hd _)
  have h2' : ¬ (9223372036854775807 < (len : Int) + (n : Int)) := by omega
  have h3' : ¬ (281474976710656 < Builtin.nextslicecap (len + n) cap * i.bytes) := by simpa using h3
  have hf : (Question.appendCap (len + n) cap e).forced = false := rfl
  have ho := hold w.drew rfl
  have hnw := hnew w.drew rfl
  refine ⟨(Question.appendCap (len + n) cap e).cut (w.tape w.drawn (Question.appendCap (len + n) cap e)), { w.drew with heap := w.heap.push (.cells (old ++ new ++ Builtin.zeroCells z.cells ((Question.appendCap (len + n) cap e).cut (w.tape w.drawn (Question.appendCap (len + n) cap e)) - (len + n))) e) }, by simp only [Question.cut]; omega, ?_, rfl, rfl, rfl, rfl⟩
  unfold Builtin.append_
  simp [run_under ht, run_under hu, run_sizeOf hk, hn, h1, run_info hi, h2', h3', hf, ho, hnw, run_zeroValue hi hz, newRow]
  rfl

theorem run_append_room {t u e : Nat} {ty : TypeId} {i : TypeInfo} {d : TypeDesc} {s x : Value} {base : Option Addr} {len cap n : Nat} {new : Array Value} {w' : World}
    (ht : P.underlying t = some (.slice e)) (hu : P.underlying u = some d) (hd : ∀ k, d ≠ .int k) (hi : P.info? e = some i) (hs : s = .slice base len cap)
    (hn : (Builtin.lenOf x).run P w = .ok n w) (hle : len + n ≤ cap) (hnew : (Builtin.firstCells i.size n x).run P w = .ok new w)
    (hst : match base with | none => w' = w | some a => (storeCells (a.add (len * i.size)) new.toList).run P w = .ok () w') :
    (Builtin.append_ #[t, u] ty #[s, x]).run P w = .ok (.slice base (len + n) cap) w' := by
  subst hs
  have hk : szOf P e = some i.size := by simp [szOf, hi]
  have hd' : (d matches .int _) = false := by cases d <;> first | rfl | exact absurd rfl (hd _)
  unfold Builtin.append_
  cases base with
  | none => subst hst; simp [run_under ht, run_under hu, run_sizeOf hk, hn, hle, hnew]
  | some a => simp only at hst; simp [run_under ht, run_under hu, run_sizeOf hk, hn, hle, hnew, hst]

/-- a row that an append made -/
theorem fresh_row {old new : List Value} {old' new' rest : Array Value} (h1 : LR ρ old old'.toList) (h2 : LR ρ new new'.toList) (blk es et : Nat) (fz : Option Nat) :
    RowR ρ ⟨blk, 0, (old' ++ new' ++ rest).size, false, es⟩ { rowOf false es et (old ++ new) with fz } (old' ++ new' ++ rest) (0, 0) where
  sz := rfl
  ex := rfl
  es := rfl
  exact := by intro h; cases h
  fit := by
    have a := h1.1; have b := h2.1
    simp at a b
    simp [rowOf]; omega
  cells i v hv := by
    have hv : (rowOf false es et (old ++ new)).get i = some v := hv
    rw [rowOf_get] at hv
    obtain ⟨v', p1, p2⟩ := (h1.append h2).get hv
    refine ⟨v', ?_, p2⟩
    have hi : i < (old' ++ new').size := by
      have := (List.getElem?_eq_some_iff.1 p1).1
      simpa using this
    rw [Nat.add_zero, Array.getElem?_append_left hi, ← Array.getElem?_toList]
    simpa using p1
  plain _ := rfl
  nofz := rfl
  free k hk i _ _ := by simp

theorem loads_get (c : Row) : ∀ (n i : Nat) (l : List Value), c.loads i n = some l → ∀ (j : Nat) v, l[j]? = some v → c.get (i + j) = some v := by
  intro n
  induction n with
  | zero => intro i l h j v hv; simp [Row.loads] at h; subst h; simp at hv
  | succ n ih =>
    intro i l h j v hv
    simp only [Row.loads] at h
    split at h
    · rename_i x hx
      split at h
      · rename_i l2 hl2
        cases h
        cases j with
        | zero => simp at hv; subst hv; exact hx
        | succ j =>
          simp at hv
          have := ih _ _ hl2 j v hv
          rw [show i + (j + 1) = i + 1 + j by omega]
          exact this
      · cases h
    · cases h

theorem row_cell_old {bi : BI} {c : Row} {arr : Array Value} {fr : Nat × Nat} (hr : RowR ρ bi c arr fr) {off n j : Nat} {old : List Value} {v : Value} (ho : c.loads off n = some old) (hv : old[j]? = some v) :
    ∃ v', arr[off + j + bi.sh]? = some v' ∧ VR ρ v v' := hr.cells _ _ (loads_get c _ _ _ ho j v hv)

theorem ef_append (cx : Cx P ρ ts tmps h w) {C : CB} {o : Oper} {t u e : Nat} {i : TypeInfo} {d : TypeDesc} {z : List Value} {s x : Operand} (hop : o.op = .call { callee := .builtin .append, args := #[s, x], argTypes := #[t, u] })
    (hs : okOpd P s = true) (hx : okOpd P x = true) (ht : P.underlying t = some (.slice e)) (hu : P.underlying u = some d) (hd : ∀ k, d ≠ .int k) (hi : P.info? e = some i) (hz : zeroL P e = some z)
    {v : Value} {h' : AHeap} (hv : efV C ts h (.append i.size e i.bytes (cOpd s) (cOpd x)) = some (v, h')) : EfOk P ρ tmps h w o v h' := by
  have hexec : (execOp (cev tmps) o).run P w = ((Builtin.append_ #[t, u] o.type #[cev tmps s, cev tmps x]).run P w).andThen fun a w' => .ok (.value a) w' := by
    simp [execOp, hop, resolve, invoke, builtin]
  obtain ⟨i', zv, z1, z2, z3, z4, z5⟩ := zeroL_info hz
  rw [hi] at z1; cases z1
  simp only [efV] at hv
  split at hv
  · rename_i sv xv hsv hxv
    have hS := ev_sound cx hs hsv
    have hX := ev_sound cx hx hxv
    unfold appendV at hv
    split at hv
    · rename_i base len cap n hn
      split at hv
      · cases hv
      · rename_i new hnew
        obtain ⟨new', n1, n2, n3⟩ := src_sound cx.hr hnew hX (fun m hm => by rw [hn] at hm; cases hm; exact Nat.le_refl _)
        have hlen := fun w => lenV_sound (P := P) (w := w) hn hX
        cases hroom : Nat.ble (len + n) cap with
        | true =>
          rw [hroom] at hv
          simp only [cond_true] at hv
          have hle := Nat.le_of_ble_eq_true hroom
          split at hv
          · -- nothing is added
            cases hv
            have hnil : new' = [] := n2.inv_nil
            subst hnil
            cases base with
            | none =>
              have e := hS.inv_nilSl
              have := run_append_room (P := P) (w := w) (w' := w) (ty := o.type) ht hu hd hi e (hlen w) hle (n1 w rfl) rfl
              exact ⟨ρ, w, _, .inl (by rw [hexec, this]; rfl), .nilSl _ _, cx.hr, .refl _ _ _⟩
            | some a =>
              obtain ⟨b, off, sp⟩ := a
              rcases hS.inv_sl with ⟨rfl, bi, c', f1, f2, f3⟩ | ⟨rfl, rfl, a', f2⟩
              · have hle' : len + n ≤ c' := by rcases f3 with rfl | ⟨_, k, _⟩ <;> omega
                have := run_append_room (P := P) (w := w) (w' := w) (ty := o.type) ht hu hd hi f2 (hlen w) hle' (n1 w rfl) (by simp [storeCells])
                exact ⟨ρ, w, _, .inl (by rw [hexec, this]; rfl), .sl _ _ _ _ f1 f3, cx.hr, .refl _ _ _⟩
              · have hn0 : n = 0 := by omega
                subst hn0
                have := run_append_room (P := P) (w := w) (w' := w) (ty := o.type) ht hu hd hi f2 (hlen w) hle (n1 w rfl) (by simp [storeCells])
                exact ⟨ρ, w, _, .inl (by rw [hexec, this]; rfl), .sl0 _ _, cx.hr, .refl _ _ _⟩
          · rename_i nv nl
            split at hv
            · rename_i b off
              split at hv
              · rename_i h2 hst
                cases hv
                rcases hS.inv_sl with ⟨_, bi, c', f1, f2, f3⟩ | ⟨rfl, rfl, a', f2⟩
                · have hle' : len + n ≤ c' := by rcases f3 with rfl | ⟨_, k, _⟩ <;> omega
                  obtain ⟨bi', w', g1, g2, g3, g4⟩ := storeAt_sound cx.hr hst n2
                  rw [f1] at g1; cases g1
                  have := run_append_room (P := P) (w := w) (w' := w') (ty := o.type) ht hu hd hi f2 (hlen w) hle' (n1 w rfl) (by
                    simp only [Addr.add_none]
                    rw [show off + bi.sh + len * i.size = off + len * i.size + bi.sh by omega]
                    exact g2)
                  exact ⟨ρ, w', _, .inl (by rw [hexec, this]; rfl), .sl _ _ _ _ f1 f3, g3, g4⟩
                · have hn0 : n = 0 := by omega
                  subst hn0
                  simp at n3
              · cases hv
            · cases hv
        | false =>
          rw [hroom] at hv
          simp only [cond_false] at hv
          have hgt : cap < len + n := by
            rcases Nat.lt_or_ge cap (len + n) with k | k
            · exact k
            · rw [Nat.ble_eq_true_of_le k] at hroom; cases hroom
          cases hb : (Nat.ble (2 * (len + n) * i.bytes) 281474976710656 && Nat.blt 0 i.size && Nat.blt (len + n) 4611686018427387904) with
          | false => rw [hb] at hv; cases hv
          | true =>
            rw [hb] at hv
            simp only [cond_true] at hv
            simp only [Bool.and_eq_true] at hb
            have b1 := Nat.le_of_ble_eq_true hb.1.1
            have b2 : 0 < i.size := by simpa [Nat.blt_eq] using hb.1.2
            have b3 : len + n < 4611686018427387904 := by simpa [Nat.blt_eq] using hb.2
            -- a new row, in the model
            have fresh : ∀ (h2 : AHeap) (fz : Option Nat) (base' : Option Addr) (cap' : Nat) (old old' : List Value), HR P ρ h2 w → Stp h ρ w h2 ρ w → h2.next = h.next → cev tmps s = .slice base' len cap' → cap' < len + n → LR ρ old old' → old.length = len * i.size →
                (∀ w', w'.heap = w.heap → (Builtin.firstCells i.size len (.slice base' len cap')).run P w' = .ok old'.toArray w') →
                EfOk P ρ tmps h w o (.slice (some ⟨h.next, 0, none⟩) (len + n) (len + n)) (h2.new (.row { rowOf false i.size e (old ++ new) with fz })) := by
              intro h2 fz base' cap' old old' hr2 st2 hnx e1 e2 e3 e5 e4
              obtain ⟨nc, w1, q1, q2, q3, q4, q5, q6⟩ := run_append_new (P := P) (w := w) (ty := o.type) ht hu hd hi z2 e1 hlen e2 b1 b3 (by rw [e1]; exact e4) n1
              obtain ⟨ρ', r1, r2, r3⟩ := new_sound hr2 (bi := ⟨w.heap.size, 0, (old'.toArray ++ new'.toArray ++ Builtin.zeroCells zv.cells (nc - (len + n))).size, false, i.size⟩) rfl
                (.row (fresh_row (old' := old'.toArray) (new' := new'.toArray) e3 n2 w.heap.size i.size e fz)) q3 q4 q5 q6
              refine ⟨ρ', w1, _, .inl (by rw [hexec, q2]; rfl), ?_, r2, st2.trans r3⟩
              rw [hnx] at r1
              have := VR.sl (ρ := ρ') 0 (len + n) (len + n) nc r1 (.inr ⟨rfl, q1, by
                have l1 := e3.1; have l2 := n2.1
                have zs : zv.cells.size = i.size := by have := congrArg List.length z3; simp at this; omega
                simp only [Array.size_append, List.size_toArray, zeroCells_size, zs, ← l1, ← l2, e5, n3]
                have k : nc = len + n + (nc - (len + n)) := by omega
                have k2 : nc * i.size = len * i.size + n * i.size + (nc - (len + n)) * i.size := by
                  rw [← Nat.add_mul, ← Nat.add_mul, ← k]
                omega⟩)
              exact this
            split at hv
            · -- nil
              rename_i hbase
              cases hl0 : Nat.beq len 0 with
              | false => rw [hl0] at hv; cases hv
              | true =>
                rw [hl0] at hv
                simp only [cond_true, Option.some.injEq, Prod.mk.injEq] at hv
                obtain ⟨rfl, rfl⟩ := hv
                have hl00 := Nat.eq_of_beq_eq_true hl0
                have := fresh h none none cap [] [] cx.hr (.refl _ _ _) rfl hS.inv_nilSl hgt (.nil ρ) (by rw [hl00]; simp) (by intro w' _; simp [Builtin.firstCells])
                rw [List.nil_append] at this
                exact this
            · rename_i b off
              split at hv
              · cases hv
              · rename_i c hc
                split at hv
                · cases hv
                · rename_i old hold
                  have holdlen := loads_length c _ _ _ hold
                  obtain ⟨bi, old', l1, l2, l3⟩ := row_load_all cx.hr hc hold
                  obtain ⟨bi2, arr, fr, r1, r2, r3⟩ := row_sound cx.hr hc
                  rw [l1] at r1; cases r1
                  cases hex : c.ex with
                  | true =>
                    rw [hex] at hv
                    simp only [cond_true, Option.some.injEq, Prod.mk.injEq] at hv
                    obtain ⟨rfl, rfl⟩ := hv
                    rcases hS.inv_sl with ⟨_, bi', c', f1, f2, f3⟩ | ⟨rfl, rfl, a', f2⟩
                    · rw [l1] at f1; cases f1
                      have hcc : cap = c' := by
                        rcases f3 with k | ⟨k, _⟩
                        · exact k
                        · rw [← r3.ex, hex] at k; cases k
                      subst hcc
                      exact fresh h none _ cap old old' cx.hr (.refl _ _ _) rfl f2 hgt l2 holdlen (fun w' hw' => by simp only [Builtin.firstCells]; exact l3 w' hw')
                    · have : old = [] := List.eq_nil_of_length_eq_zero (by omega)
                      subst this
                      exact fresh h none _ 0 [] [] cx.hr (.refl _ _ _) rfl f2 hgt (.nil ρ) (by simp) (by intro w' _; simp [Builtin.firstCells, loadCells, loadCellsFrom])
                  | false =>
                    rw [hex] at hv
                    simp only [cond_false] at hv
                    cases hq : (Nat.beq c.es i.size && Nat.beq c.et e && fzOk (off + len * i.size) c.fz && new.all oneCell) with
                    | false => rw [hq] at hv; cases hv
                    | true =>
                      rw [hq] at hv
                      simp only [cond_true, Option.some.injEq, Prod.mk.injEq] at hv
                      obtain ⟨rfl, rfl⟩ := hv
                      simp only [Bool.and_eq_true] at hq
                      obtain ⟨⟨⟨m1, m2⟩, m3⟩, m4⟩ := hq
                      have m1 := Nat.eq_of_beq_eq_true m1
                      have m2 := Nat.eq_of_beq_eq_true m2
                      obtain ⟨k1, k2⟩ := kill_sound cx.hr b
                      rcases hS.inv_sl with ⟨_, bi', c', f1, f2, f3⟩ | ⟨rfl, rfl, a', f2⟩
                      · rw [l1] at f1; cases f1
                        by_cases hfit : len + n ≤ c'
                        · -- there is room
                          obtain ⟨x1, x2, x3⟩ : bi.ex = false ∧ cap ≤ c' ∧ off + bi.sh + c' * bi.es ≤ bi.n := by
                            rcases f3 with k | k
                            · omega
                            · exact k
                          have hes : bi.es = i.size := by rw [← r3.es, m1]
                          rw [hes] at x3
                          have hmul : len * i.size + n * i.size ≤ c' * i.size := by rw [← Nat.add_mul]; exact Nat.mul_le_mul_right _ hfit
                          have hsz := r3.sz
                          obtain ⟨arr', g1, g2, g3⟩ := run_storeCells (P := P) (o := off + bi.sh + len * i.size) new' 0 arr w r2 (by
                            intro j v hv
                            have hj : j < new'.length := by
                              rcases Nat.lt_or_ge j new'.length with h | h
                              · exact h
                              · rw [List.getElem?_eq_none h] at hv; cases hv
                            have hjn : j < n * i.size := by rw [← n3, n2.1]; exact hj
                            refine ⟨by omega, ?_, ?_⟩
                            · cases hfz : c.fz with
                              | none => rw [r3.plain hfz]; simp
                              | some k =>
                                rw [hfz] at m3
                                have := Nat.le_of_ble_eq_true m3
                                exact r3.free k hfz _ (by omega) (by omega)
                            · have hj' : j < new.length := by rw [n2.1]; exact hj
                              have := n2.2 j _ _ (List.getElem?_eq_getElem hj') hv
                              rw [← this.oneCell]
                              exact List.all_eq_true.1 m4 _ (List.getElem_mem hj'))
                          have hl2 := l2
                          have hrow2 : RowR ρ ⟨bi.blk, off + bi.sh, bi.n, false, i.size⟩ { rowOf false i.size e (old ++ new) with fz := fzMove off c.fz } arr' fr := {
                            sz := by rw [g2]; exact hsz
                            ex := rfl
                            es := rfl
                            exact := by intro h; cases h
                            fit := by simp [rowOf, holdlen, n3]; omega
                            cells := by
                              intro j v hv
                              have hv : (rowOf false i.size e (old ++ new)).get j = some v := hv
                              rw [rowOf_get] at hv
                              by_cases hjo : j < old.length
                              · rw [List.getElem?_append_left hjo] at hv
                                obtain ⟨v', p1, p2⟩ := row_cell_old r3 hold hv
                                refine ⟨v', ?_, p2⟩
                                show arr'[j + (off + bi.sh)]? = some v'
                                rw [g3, if_neg (by omega)]
                                rw [show j + (off + bi.sh) = off + j + bi.sh by omega]
                                exact p1
                              · rw [List.getElem?_append_right (by omega)] at hv
                                obtain ⟨v', p1, p2⟩ := n2.get hv
                                have hjl := (List.getElem?_eq_some_iff.1 p1).1
                                refine ⟨v', ?_, p2⟩
                                show arr'[j + (off + bi.sh)]? = some v'
                                rw [g3, if_pos (by omega), show j + (off + bi.sh) - (off + bi.sh + len * i.size + 0) = j - old.length by omega]
                                exact p1
                            plain := by
                              intro hp
                              cases hfz : c.fz with
                              | none => exact r3.plain hfz
                              | some k => rw [hfz] at hp; cases hp
                            nofz := r3.nofz
                            free := by
                              intro k hk j hj1 hj2
                              cases hfz : c.fz with
                              | none => rw [hfz] at hk; cases hk
                              | some k0 =>
                                rw [hfz] at hk
                                simp only [fzMove, Option.some.injEq] at hk
                                simp only at hj1 hj2
                                exact r3.free k0 hfz j (by omega) hj2 }
                          obtain ⟨ρ', q1, q2, q3⟩ := move_sound cx.hr (b := b) (by simp [row_get hc]) l1 (bi2 := ⟨bi.blk, off + bi.sh, bi.n, false, i.size⟩) rfl (.row hrow2)
                            (w' := { w with heap := w.heap.setIfInBounds bi.blk (.cells arr' e fr) }) rfl rfl rfl rfl
                          have := run_append_room (P := P) (w := w) (w' := { w with heap := w.heap.setIfInBounds bi.blk (.cells arr' c.et fr) }) (ty := o.type) ht hu hd hi f2 (hlen w) hfit (n1 w rfl) (by
                            simp only [Addr.add_none]
                            exact g1)
                          rw [m2] at this
                          refine ⟨ρ', _, _, .inl (by rw [hexec, this]; rfl), ?_, q2, q3⟩
                          have := VR.sl (ρ := ρ') 0 (len + n) (len + n) c' q1 (.inr ⟨rfl, hfit, by simp only; omega⟩)
                          simpa using this
                        · exact fresh (h.kill b) _ _ c' old old' k1 k2 rfl f2 (by omega) l2 holdlen (fun w' hw' => by simp only [Builtin.firstCells]; exact l3 w' hw')
                      · have : old = [] := List.eq_nil_of_length_eq_zero (by omega)
                        subst this
                        exact fresh (h.kill b) _ _ 0 [] [] k1 k2 rfl f2 hgt (.nil ρ) (by simp) (by intro w' _; simp [Builtin.firstCells, loadCells, loadCellsFrom])
            · cases hv
    · cases hv
  · cases hv

end
end Go.Dv

/- Effects: copy, clear; each operation at once. -/
namespace Go.Dv
section
variable {P : Program} {ρ : Ren} {ts : Tr Value} {tmps : Array Value} {h : AHeap} {w : World}

theorem ef_copy (cx : Cx P ρ ts tmps h w) {C : CB} {o : Oper} {t e k : Nat} {d s : Operand} {tys : Array TypeId} (hop : o.op = .call { callee := .builtin .copy, args := #[d, s], argTypes := tys }) (ht0 : tys[0]? = some t)
    (hd : okOpd P d = true) (hs : okOpd P s = true) (ht : P.underlying t = some (.slice e)) (hk : szOf P e = some k) {v : Value} {h' : AHeap}
    (hv : efV C ts h (.copy k (cOpd d) (cOpd s)) = some (v, h')) : EfOk P ρ tmps h w o v h' := by
  have hexec : (execOp (cev tmps) o).run P w = ((Builtin.copy_ tys o.type #[cev tmps d, cev tmps s]).run P w).andThen fun a w' => .ok (.value a) w' := by
    simp [execOp, hop, resolve, invoke, builtin]
  simp only [efV] at hv
  split at hv
  · rename_i base dl dc xv hdv hsv
    have hD := ev_sound cx hd hdv
    have hS := ev_sound cx hs hsv
    split at hv
    · rename_i sl hsl
      have hlen := lenV_sound (P := P) (w := w) hsl hS
      have hle : ∀ m, lenV xv = some m → Nat.min sl dl ≤ m := by
        intro m hm; rw [hsl] at hm; cases hm; exact Nat.min_le_left _ _
      obtain ⟨bD, cD, hDe⟩ : ∃ a c, cev tmps d = .slice a dl c := hD.inv_slen
      -- the run, given what is stored
      have hrun : ∀ (cells : List Value) (w' : World), (Builtin.firstCells k (Nat.min sl dl) (cev tmps s)).run P w = .ok cells.toArray w →
          (match bD with | none => w' = w | some a => (storeCells a cells).run P w = .ok () w') → (execOp (cev tmps) o).run P w = .ok (.value (.int .i64 (Nat.min sl dl : Nat))) w' := by
        intro cells w' h1 h2
        rw [hexec]
        unfold Builtin.copy_
        cases bD with
        | none => subst h2; simp [ht0, run_under ht, hDe, hlen, run_sizeOf hk, h1, goInt]
        | some a => simp only at h2; simp [ht0, run_under ht, hDe, hlen, run_sizeOf hk, h1, h2, goInt]
      split at hv
      · rename_i hsrc
        cases hv
        obtain ⟨l', n1, n2, n3⟩ := src_sound cx.hr hsrc hS hle
        have := n2.inv_nil
        subst this
        refine ⟨ρ, w, _, .inl (hrun [] w (n1 w rfl) ?_), .int _ _, cx.hr, .refl _ _ _⟩
        cases bD <;> simp [storeCells]
      · rename_i x l hsrc
        obtain ⟨l', n1, n2, n3⟩ := src_sound cx.hr hsrc hS hle
        split at hv
        · rename_i b off
          split at hv
          · rename_i h2 hst
            cases hv
            obtain ⟨bi, w', g1, g2, g3, g4⟩ := storeAt_sound cx.hr hst n2
            rcases hD.inv_sl with ⟨_, bi', c', f1, f2, _⟩ | ⟨rfl, rfl, a', f2⟩
            · rw [g1] at f1; cases f1
              rw [hDe] at f2; cases f2
              exact ⟨ρ, w', _, .inl (hrun l' w' (n1 w rfl) g2), .int _ _, g3, g4⟩
            · simp at n3
          · cases hv
        · cases hv
      · cases hv
    · cases hv
  · cases hv

theorem zeroCells_LR {z : List Value} {zv : Value} (hz : zv.cells.toList = z) (hc : z.all (closedV 20) = true) (n : Nat) : LR ρ (reps z n) (Builtin.zeroCells zv.cells n).toList := by
  have hs : zv.cells.size = z.length := by rw [← hz]; simp
  have := zeros_LR (ρ := ρ) hz hc n z.length rfl zv.cells (fun _ => rfl)
  unfold Builtin.zeroCells
  rw [hs] at this ⊢
  exact this

theorem ef_clear (cx : Cx P ρ ts tmps h w) {C : CB} {o : Oper} {t e k : Nat} {x : Operand} {z : List Value} (hop : o.op = .call { callee := .builtin .clear, args := #[x], argTypes := #[t] })
    (hx : okOpd P x = true) (ht : P.underlying t = some (.slice e)) (hz : zeroL P e = some z) {v : Value} {h' : AHeap}
    (hv : efV C ts h (.clear k z (cOpd x)) = some (v, h')) : EfOk P ρ tmps h w o v h' := by
  have hexec : (execOp (cev tmps) o).run P w = ((Builtin.clear_ #[t] o.type #[cev tmps x]).run P w).andThen fun a w' => .ok (.value a) w' := by
    simp [execOp, hop, resolve, invoke, builtin]
  obtain ⟨i, zv, z1, z2, z3, z4, z5⟩ := zeroL_info hz
  simp only [efV] at hv
  split at hv
  · rename_i l c hxv
    cases hv
    have := (ev_sound cx hx hxv).inv_nilSl
    exact ⟨ρ, w, _, .inl (by rw [hexec]; simp [Builtin.clear_, run_under ht, this]), .tuple_of (.nil ρ), cx.hr, .refl _ _ _⟩
  · rename_i b off n c hxv
    have hX := ev_sound cx hx hxv
    cases hn : Nat.beq n 0 with
    | true =>
      rw [hn] at hv
      cases hv
      have := Nat.eq_of_beq_eq_true hn
      subst this
      obtain ⟨a', c', e⟩ := hX.inv_slen
      refine ⟨ρ, w, _, .inl (by rw [hexec]; cases a' <;> simp [Builtin.clear_, run_under ht, e]), .tuple_of (.nil ρ), cx.hr, .refl _ _ _⟩
    | false =>
      rw [hn] at hv
      simp only [cond_false] at hv
      have hn0 : n ≠ 0 := by intro e; rw [e] at hn; cases hn
      split at hv
      · rename_i h2 hst
        cases hv
        obtain ⟨bi, w', g1, g2, g3, g4⟩ := storeAt_sound cx.hr hst (zeroCells_LR z3 z5 n)
        rcases hX.inv_sl with ⟨_, bi', c', f1, f2, _⟩ | ⟨rfl, _⟩
        · rw [g1] at f1; cases f1
          refine ⟨ρ, w', .tuple #[], .inl ?_, .tuple_of (.nil ρ), g3, g4⟩
          rw [hexec]
          obtain ⟨m, rfl⟩ : ∃ m, n = m + 1 := ⟨n - 1, by omega⟩
          simp [Builtin.clear_, run_under ht, f2, run_zeroValue z1 z2, g2]
        · exact absurd rfl hn0
      · cases hv
  · cases hv

theorem eqD_iface {n : Nat} {t : TypeId} (hd : eqD P n t = some .iface) : ∃ ms, P.underlying t = some (.interface ms) := by
  cases n with
  | zero => simp [eqD] at hd
  | succ n =>
    simp only [eqD] at hd
    split at hd
    all_goals first | (cases hd; done) | skip
    · split at hd
      · rename_i k _
        cases hb : Nat.beq k 0 <;> rw [hb] at hd <;> cases hd
      · cases hd
    · rename_i ms hms; exact ⟨ms, hms⟩
    · rename_i fs _
      cases hb : P.stoodInHeld t with
      | true => rw [hb] at hd; cases hd
      | false =>
        rw [hb] at hd
        simp only [cond_false] at hd
        change chain P n fs.toList = some .iface at hd
        have : ∀ l : List Field, chain P n l ≠ some .iface := by
          intro l
          induction l with
          | nil => simp [chain]
          | cons f l ih =>
            intro hc
            obtain ⟨r, h1, h2, h3⟩ := chain_some hc
            by_cases hn : f.name = "_"
            · rw [← h2 hn] at h1; exact ih h1
            · obtain ⟨_, _, _, _, _, _, _, h4⟩ := h3 hn; cases h4
        exact absurd hd (this _)
    · split at hd
      · rename_i d k ag _ _ _
        cases hb : (ag || Nat.beq k 1) with
        | false => rw [hb] at hd; cases hd
        | true =>
          rw [hb] at hd
          simp only [cond_true, Option.some.injEq] at hd
          generalize List.range _ = l at hd
          cases l <;> cases hd
      · cases hd

theorem all_ok {o : Oper} (hok : o.op.operands.toList.all (okOpd P) = true) (x : Operand) (hx : x ∈ o.op.operands.toList) : okOpd P x = true := List.all_eq_true.1 hok x hx

theorem or_of {ag : Bool} {k : Nat} (h : (ag || Nat.beq k 1) = true) : ag = true ∨ k = 1 := by
  rcases Bool.or_eq_true_iff.1 h with h | h
  · exact .inl h
  · exact .inr (Nat.eq_of_beq_eq_true h)

theorem cond_some {α : Type} {b : Bool} {x : Option α} {y : α} (h : cond b x none = some y) : b = true ∧ x = some y := by
  cases b
  · cases h
  · exact ⟨rfl, h⟩
theorem cond_none {α : Type} {b : Bool} {x : Option α} {y : α} (h : cond b none x = some y) : b = false ∧ x = some y := by
  cases b
  · exact ⟨rfl, h⟩
  · cases h

theorem map_one {α β : Type} {f : α → β} {l : List α} {y : β} (h : l.map f = [y]) : ∃ x, l = [x] ∧ f x = y := by
  cases l with
  | nil => cases h
  | cons x l => cases l with
    | nil => simp at h; exact ⟨x, rfl, h⟩
    | cons _ _ => simp at h
theorem map_two {α β : Type} {f : α → β} {l : List α} {y z : β} (h : l.map f = [y, z]) : ∃ a b, l = [a, b] ∧ f a = y ∧ f b = z := by
  cases l with
  | nil => cases h
  | cons x l => cases l with
    | nil => simp at h
    | cons a l => cases l with
      | nil => simp at h; exact ⟨x, a, rfl, h.1, h.2⟩
      | cons _ _ => simp at h
theorem arr_of {α : Type} {a : Array α} {l : List α} (h : a.toList = l) : a = l.toArray := by rw [← h]

theorem rd_all (cx : Cx P ρ ts tmps h w) {o : Oper} {io : IOp} (hc : cOp P o = some io) (hok : o.op.operands.toList.all (okOpd P) = true) (he : isEf io = false) (hm : isMk io = false) {v : Value}
    (hv : rdV h ts io = some v) : RdOk P ρ tmps w o v := by
  have hA := all_ok hok
  unfold cOp at hc
  split at hc
  · rename_i x hop; cases hc; exact rd_mov cx (.inl hop) (hA x (by simp [hop, Op.operands])) hv
  · rename_i x hop; cases hc; exact rd_mov cx (.inr hop) (hA x (by simp [hop, Op.operands])) hv
  · rename_i c a b hop; cases hc; exact rd_pick cx hop (hA c (by simp [hop, Op.operands])) (hA a (by simp [hop, Op.operands])) (hA b (by simp [hop, Op.operands])) hv
  · split at hc
    · cases hc; cases hm
    · cases hc
  · split at hc
    · cases hc; cases hm
    · cases hc
  · rename_i t ps hop
    split at hc
    · rename_i z l hb hz hl
      cases hc
      exact rd_build cx hop (fun p hp => hA p.2 (by simp [hop, Op.operands]; exact ⟨p.1, by simpa using hp⟩)) hb hz hl hv
    · cases hc
  · split at hc
    · split at hc
      · obtain ⟨_, hc⟩ := cond_some hc; cases hc; cases hm
      · cases hc
    · cases hc
  · rename_i t a hop
    split at hc
    · rename_i n ag hn ha
      obtain ⟨hb, hc⟩ := cond_some hc
      cases hc
      exact rd_load cx hop (hA a (by simp [hop, Op.operands])) hn ha (or_of hb) hv
    · cases hc
  · split at hc
    · cases hc; cases he
    · cases hc
  · rename_i x hop; cases hc; exact rd_nilChk cx hop (hA x (by simp [hop, Op.operands])) hv
  · rename_i op t x y yt hop
    have hx := hA x (by simp [hop, Op.operands])
    have hy := hA y (by simp [hop, Op.operands])
    have eqcase : ∀ (neg : Bool), op = cond neg .neq .eql → cEq P neg t x y = some io → RdOk P ρ tmps w o v := by
      intro neg hneg hq
      subst hneg
      unfold cEq at hq
      split at hq
      · cases hq; exact rd_bin cx hop hx hy hv
      · cases hq; exact rd_bin cx hop hx hy hv
      · rename_i ms ht
        have hD : eqD P 40 t = some .iface := by simp [eqD, ht]
        obtain ⟨hb, hq⟩ := cond_some hq
        cases hq
        have isn : ∀ z : Operand, isNilC z = true → z = .const .nilIface := by
          intro z hz
          unfold isNilC at hz
          split at hz
          · rfl
          · cases hz
        rcases Bool.or_eq_true_iff.1 hb with k | k
        · have e := isn x k
          exact rd_eq cx hop hx hy hD (fun xs ys e1 _ => by rw [e] at e1; simp [cev] at e1) (fun _ => .inl ⟨_, e⟩) hv
        · have e := isn y k
          exact rd_eq cx hop hx hy hD (fun xs ys _ e1 => by rw [e] at e1; simp [cev] at e1) (fun _ => .inr ⟨_, e⟩) hv
      · rename_i d hn1 hn2 hn3 ht
        obtain ⟨hg, hq⟩ := cond_none hq
        split at hq
        · rename_i d' hd'
          cases hq
          refine rd_eq cx hop hx hy hd' (fun _ _ _ _ => hg) (fun e => ?_) hv
          subst e
          obtain ⟨ms, hms⟩ := eqD_iface hd'
          rw [ht] at hms
          cases hms
          exact absurd rfl (hn3 ms)
        · cases hq
      · cases hq
    split at hc
    · exact eqcase false rfl hc
    · exact eqcase true rfl hc
    · cases hc; exact rd_bin cx hop hx hy hv
  · rename_i op t x hop; cases hc; exact rd_un cx hop (hA x (by simp [hop, Op.operands])) hv
  · rename_i s d x hop
    have hx := hA x (by simp [hop, Op.operands])
    split at hc
    · rename_i ds k hs hd
      cases hc
      exact rd_conv cx hop hx (by rw [hs]; rfl) hd hv
    · rename_i hs hd
      cases hc
      exact rd_convS cx hop hx hs hd hv
    · rename_i e hs hd
      split at hc
      · rename_i he'
        cases hc
        exact rd_b2s cx hop hx hs he' hd hv
      · cases hc
    · split at hc
      · cases hc
      · cases hc
    · cases hc
  · rename_i t x hop
    split at hc
    · rename_i ht
      cases hc
      exact rd_mkIface cx hop (hA x (by simp [hop, Op.operands])) ht hv
    · cases hc
  · rename_i fn f c hop
    obtain ⟨hfn, hc⟩ := cond_some hc
    cases hc
    exact rd_mkFunc cx hop (fun x hx => hA x (by simp [hop, Op.operands] at hx ⊢; exact .inl hx)) (fun x hx => hA x (by simp [hop, Op.operands] at hx ⊢; exact .inr hx)) (fun l e => by subst e; cases hfn) hv
  · cases hc; cases hm
  · split at hc
    · split at hc
      · obtain ⟨_, hc⟩ := cond_some hc; cases hc; cases hm
      · cases hc
    · cases hc
  · rename_i t x lo hi mx hop
    have hx := hA x (by simp [hop, Op.operands])
    have hlo : ∀ o', lo = some o' → okOpd P o' = true := fun o' e => hA o' (by simp [hop, Op.operands, e])
    have hhi : ∀ o', hi = some o' → okOpd P o' = true := fun o' e => hA o' (by simp [hop, Op.operands, e])
    have hmx : ∀ o', mx = some o' → okOpd P o' = true := fun o' e => hA o' (by simp [hop, Op.operands, e])
    split at hc
    · rename_i ht; cases hc; exact rd_slice cx hop hx hlo hhi hmx ht hv
    · rename_i e ht
      split at hc
      · rename_i k hk; cases hc; exact rd_slice cx hop hx hlo hhi hmx (k := .sl k) ⟨e, ht, hk⟩ hv
      · cases hc
    · rename_i n e ht
      split at hc
      · rename_i k hk; cases hc; exact rd_slice cx hop hx hlo hhi hmx (k := .arr n k) ⟨e, ht, hk⟩ hv
      · cases hc
    · cases hc
  · rename_i t x f hop
    split at hc
    · rename_i fs ht
      split at hc
      · rename_i g hg
        split at hc
        · rename_i k hk
          obtain ⟨hk0, hc⟩ := cond_none hc
          cases hc
          exact rd_fieldAddr cx hop (hA x (by simp [hop, Op.operands])) ht hg hk (by intro e; subst e; cases hk0) hv
        · cases hc
      · cases hc
    · cases hc
  · rename_i t x f hop
    split at hc
    · rename_i fs ht
      split at hc
      · rename_i g hg
        split at hc
        · rename_i k ag hk ha
          obtain ⟨hb, hc⟩ := cond_some hc
          cases hc
          exact rd_field cx hop (hA x (by simp [hop, Op.operands])) ht hg hk ha (or_of hb) hv
        · cases hc
      · cases hc
    · cases hc
  · rename_i t x i hop
    have hx := hA x (by simp [hop, Op.operands])
    have hi := hA i (by simp [hop, Op.operands])
    split at hc
    · rename_i n e ht
      split at hc
      · rename_i k hk; cases hc; exact rd_indexAddr cx hop hx hi (len := some n) ht hk hv
      · cases hc
    · rename_i e ht
      split at hc
      · rename_i k hk; cases hc; exact rd_indexAddr cx hop hx hi (len := none) ht hk hv
      · cases hc
    · cases hc
  · rename_i t x i hop
    have hx := hA x (by simp [hop, Op.operands])
    have hi := hA i (by simp [hop, Op.operands])
    split at hc
    · rename_i n e ht
      split at hc
      · rename_i k ag hk ha
        obtain ⟨hb, hc⟩ := cond_some hc
        cases hc
        exact rd_indexA cx hop hx hi ht hk ha (or_of hb) hv
      · cases hc
    · rename_i ht; cases hc; exact rd_indexS cx hop hx hi ht hv
    · cases hc
  · rename_i t m k ok hop
    split at hc
    · rename_i kt e ht
      split at hc
      · rename_i n i hkt hi
        split at hc
        · rename_i z hz
          obtain ⟨hzc, hc⟩ := cond_some hc
          cases hc
          exact rd_lookup cx hop (hA m (by simp [hop, Op.operands])) (hA k (by simp [hop, Op.operands])) ht hkt hi hz hzc hv
        · cases hc
      · cases hc
    · cases hc
  · split at hc
    · split at hc
      · cases hc; cases he
      · cases hc
    · cases hc
  · split at hc
    · split at hc
      · cases hc; cases he
      · cases hc
    · cases hc
  · split at hc
    · cases hc; cases he
    · cases hc; cases he
    · cases hc
  · cases hc; cases he
  · rename_i x hop; cases hc; exact rd_entry cx hop (hA x (by simp [hop, Op.operands])) hv
  · rename_i x i hop; cases hc; exact rd_extract cx hop (hA x (by simp [hop, Op.operands])) hv
  · rename_i c hop
    obtain ⟨callee, args, tys⟩ := c
    unfold cCall at hc
    simp only at hc
    split at hc
    · cases hc; cases he
    · cases hc
    · rename_i b
      have hAr : ∀ x, x ∈ args.toList → okOpd P x = true := fun x hx => hA x (by simp [hop, Op.operands, Call.operands]; simpa using hx)
      split at hc
      · -- len
        rename_i t x' h1 h2
        obtain ⟨x, e1, rfl⟩ := map_one h2
        have e1 := arr_of e1
        have e2 := arr_of h1
        subst e1; subst e2
        have hx := hAr x (by simp)
        split at hc
        · rename_i ht; cases hc; exact rd_len cx hop hx (k := 0) ht hv
        · rename_i e ht; cases hc; exact rd_len cx hop hx (k := 1) ⟨e, ht⟩ hv
        · rename_i a b ht; cases hc; exact rd_len cx hop hx (k := 2) ⟨a, b, ht⟩ hv
        · rename_i n e ht; cases hc; exact rd_lenA hop (.inl ht) hv
        · rename_i a ht
          split at hc
          · rename_i n e ha; cases hc; exact rd_lenA hop (.inr ⟨a, ht, ha⟩) hv
          · cases hc
        · cases hc
      · split at hc
        · split at hc
          · cases hc; cases he
          · cases hc
        · cases hc
      · split at hc
        · split at hc
          · cases hc; cases he
          · cases hc
        · cases hc
      · split at hc
        · split at hc
          · cases hc; cases he
          · cases hc
        · cases hc; cases he
        · cases hc
      · split at hc
        · split at hc
          · cases hc; cases he
          · cases hc
        · cases hc
      · rename_i x' y' h2
        cases hc
        obtain ⟨x, y, e1, rfl, rfl⟩ := map_two h2
        have e1 := arr_of e1
        subst e1
        exact rd_minmax cx (mn := true) hop (hAr x (by simp)) (hAr y (by simp)) hv
      · rename_i x' y' h2
        cases hc
        obtain ⟨x, y, e1, rfl, rfl⟩ := map_two h2
        have e1 := arr_of e1
        subst e1
        exact rd_minmax cx (mn := false) hop (hAr x (by simp)) (hAr y (by simp)) hv
      · cases hc
  · cases hc

end
end Go.Dv

/- All that makes memory, all effects. -/
namespace Go.Dv
section
variable {P : Program} {ρ : Ren} {ts : Tr Value} {tmps : Array Value} {h : AHeap} {w : World}

theorem modify_push {α : Type} (a : Array α) (x : α) (f : α → α) : (a.push x).modify a.size f = a.push (f x) := by
  apply Array.ext_getElem?
  intro i
  rw [Array.getElem?_modify, Array.getElem?_push, Array.getElem?_push]
  by_cases e : i = a.size
  · subst e; simp
  · have : ¬ a.size = i := fun k => e k.symm
    simp [e, this]

theorem run_stringToBytes (e : TypeId) (s : ByteArray) (w : World) : ∃ cap, s.size ≤ cap ∧ ∃ arr : Array Value, arr = s.data.map (fun b => Value.int .u8 b.toNat) ++ Array.replicate (cap - s.size) (.int .u8 0) ∧
    (Conv.stringToBytes e s).run P w = .ok (.slice (some ⟨w.heap.size, 0, none⟩) s.size cap) { w.drew with heap := w.heap.push (.cells arr e (arr.size, arr.size + 1)) } := by
  refine ⟨(Question.appendCap s.size 0 e).cut (w.tape w.drawn (Question.appendCap s.size 0 e)), by simp only [Question.cut]; omega, _, rfl, ?_⟩
  have hf : (Question.appendCap s.size 0 e).forced = false := rfl
  generalize hcap : (Question.appendCap s.size 0 e).cut (w.tape w.drawn (Question.appendCap s.size 0 e)) = cap
  generalize harr : s.data.map (fun b => Value.int .u8 b.toNat) ++ Array.replicate (cap - s.size) (.int .u8 0) = arr
  have hget : (w.heap.push (Obj.cells arr e (0, 0)))[w.heap.size]? = some (.cells arr e (0, 0)) := by simp
  have hsh : World.shape? { w.drew with heap := w.heap.push (.cells arr e (0, 0)) } w.heap.size = some (e, arr.size) := by
    simp only [World.shape?, hget]
  have hfz : World.freeze { w.drew with heap := w.heap.push (.cells arr e (0, 0)) } { block := w.heap.size, off := arr.size } 1 = { w.drew with heap := w.heap.push (.cells arr e (arr.size, arr.size + 1)) } := by
    unfold World.freeze
    rw [if_neg (by omega)]
    simp only
    rw [modify_push]
    simp
  unfold Conv.stringToBytes
  simp only [Sem.run_bind, run_choose, hf, Bool.false_eq_true, if_false, Result.andThen_ok, hcap, newRow, Sem.run_pure, run_newObj, markStringish, run_shape]
  simp only [harr]
  have hsh' : World.shape? { heap := w.heap.push (Obj.cells arr e), tape := w.tape, drawn := w.drawn + 1, os := w.os, output := w.output } w.heap.size = some (e, arr.size) := hsh
  rw [hsh']
  simp only [run_freeze, Result.andThen_ok]
  exact congrArg _ hfz

theorem mk_all (cx : Cx P ρ ts tmps h w) {o : Oper} {io : IOp} (hc : cOp P o = some io) (hok : o.op.operands.toList.all (okOpd P) = true) (hm : isMk io = true) {ob : AObj} {m : Made}
    (hv : mkV ts io = some (ob, m)) : MkOk P ρ tmps w o ob m := by
  have hA := all_ok hok
  unfold cOp at hc
  split at hc
  · cases hc; cases hm
  · cases hc; cases hm
  · cases hc; cases hm
  · rename_i e hop
    split at hc
    · rename_i n z hn hz; cases hc; exact mk_new hop hn hz hv
    · cases hc
  · rename_i e x hop
    split at hc
    · cases hc; exact mk_box cx hop (hA x (by simp [hop, Op.operands])) hv
    · cases hc
  · split at hc
    · cases hc; cases hm
    · cases hc
  · rename_i t len ps hop
    split at hc
    · rename_i e ht
      split at hc
      · rename_i k z l hk hz hl
        obtain ⟨hle, hc⟩ := cond_some hc
        cases hc
        exact mk_buildSlice cx hop (fun p hp => hA p.2 (by simp [hop, Op.operands]; exact ⟨p.1, by simpa using hp⟩)) ht hk hz hl (Nat.le_of_ble_eq_true hle) hv
      · cases hc
    · cases hc
  · split at hc
    · obtain ⟨_, hc⟩ := cond_some hc; cases hc; cases hm
    · cases hc
  · split at hc
    · cases hc; cases hm
    · cases hc
  · cases hc; cases hm
  · rename_i op t x y yt hop
    have no : ∀ neg, cEq P neg t x y = some io → False := by
      intro neg hq
      unfold cEq at hq
      split at hq
      · cases hq; cases hm
      · cases hq; cases hm
      · obtain ⟨_, hq⟩ := cond_some hq; cases hq; cases hm
      · obtain ⟨_, hq⟩ := cond_none hq
        split at hq
        · cases hq; cases hm
        · cases hq
      · cases hq
    split at hc
    · exact (no _ hc).elim
    · exact (no _ hc).elim
    · cases hc; cases hm
  · cases hc; cases hm
  · rename_i s d x hop
    have hx := hA x (by simp [hop, Op.operands])
    split at hc
    · cases hc; cases hm
    · cases hc; cases hm
    · split at hc
      · cases hc; cases hm
      · cases hc
    · rename_i e hs hd
      split at hc
      · cases hc
      · cases hc
    · cases hc
  · split at hc
    · cases hc; cases hm
    · cases hc
  · obtain ⟨_, hc⟩ := cond_some hc; cases hc; cases hm
  · rename_i t hop; cases hc; exact mk_map hop hv
  · rename_i t l c hop
    split at hc
    · rename_i e ht
      split at hc
      · rename_i i z hi hz
        obtain ⟨_, hc⟩ := cond_some hc
        cases hc
        exact mk_mkSlice cx hop (hA l (by simp [hop, Op.operands])) (hA c (by simp [hop, Op.operands])) ht hi hz hv
      · cases hc
    · cases hc
  · split at hc
    · cases hc; cases hm
    · split at hc
      · cases hc; cases hm
      · cases hc
    · split at hc
      · cases hc; cases hm
      · cases hc
    · cases hc
  · split at hc
    · split at hc
      · split at hc
        · obtain ⟨_, hc⟩ := cond_none hc; cases hc; cases hm
        · cases hc
      · cases hc
    · cases hc
  · split at hc
    · split at hc
      · split at hc
        · obtain ⟨_, hc⟩ := cond_some hc; cases hc; cases hm
        · cases hc
      · cases hc
    · cases hc
  · split at hc
    · split at hc
      · cases hc; cases hm
      · cases hc
    · split at hc
      · cases hc; cases hm
      · cases hc
    · cases hc
  · split at hc
    · split at hc
      · obtain ⟨_, hc⟩ := cond_some hc; cases hc; cases hm
      · cases hc
    · cases hc; cases hm
    · cases hc
  · split at hc
    · split at hc
      · split at hc
        · obtain ⟨_, hc⟩ := cond_some hc; cases hc; cases hm
        · cases hc
      · cases hc
    · cases hc
  · split at hc
    · split at hc
      · cases hc; cases hm
      · cases hc
    · cases hc
  · split at hc
    · split at hc
      · cases hc; cases hm
      · cases hc
    · cases hc
  · split at hc
    · cases hc; cases hm
    · cases hc; cases hm
    · cases hc
  · cases hc; cases hm
  · cases hc; cases hm
  · cases hc; cases hm
  · rename_i c hop
    unfold cCall at hc
    simp only at hc
    split at hc
    · cases hc; cases hm
    · cases hc
    · split at hc
      · split at hc
        · cases hc; cases hm
        · cases hc; cases hm
        · cases hc; cases hm
        · cases hc; cases hm
        · split at hc
          · cases hc; cases hm
          · cases hc
        · cases hc
      · split at hc
        · split at hc
          · cases hc; cases hm
          · cases hc
        · cases hc
      · split at hc
        · split at hc
          · cases hc; cases hm
          · cases hc
        · cases hc
      · split at hc
        · split at hc
          · cases hc; cases hm
          · cases hc
        · cases hc; cases hm
        · cases hc
      · split at hc
        · split at hc
          · cases hc; cases hm
          · cases hc
        · cases hc
      · cases hc; cases hm
      · cases hc; cases hm
      · cases hc
  · cases hc

/-! ## effects -/
/-- an operation has been done, in whatever frame -/
inductive Ends (P : Program) (ev : Operand → Value) (o : Oper) (w : World) (c : Frame) (cs : List Frame) (v : Value) (w' : World) : Prop where
  | value (h : (execOp ev o).run P w = .ok (.value v) w')
  | skip (h : (execOp ev o).run P w = .ok .skip w') (hv : v = Go.undef)
  | enter {f : FuncId} {args : Array Value} {w1 : World} (h : (execOp ev o).run P w = .ok (.enter f args) w1) (hs : Steps P (lone (Frame.enter P f args .normal) (c :: cs) w1) (lone (c.finish v) cs w'))
  | round {l : Nat} {f : FuncId} {tmps : Array Value} {a b : Code} {w1 : World} (h : (execOp ev o).run P w = .ok (.round l f tmps a b) w1) (hs : Steps P (lone (Frame.round l f tmps a b .normal) (c :: cs) w1) (lone (c.finish v) cs w'))

/-- what calls come to -/
structure CS (P : Program) (C : CB) : Prop where
  call : ∀ {ρ : Ren} {h : AHeap} {w : World} {f : Nat} {args args' : List Value} {v : Value} {h' : AHeap} (c : Frame) (cs : List Frame), C.call f args h = some (v, h') → LR ρ args args' → HR P ρ h w →
    ∃ ρ' w' v', (∃ fn, P.funcs[f]? = some fn ∧ fn.body.isSome = true ∧ fn.name ≠ "runtime.NumGoroutine") ∧ Steps P (lone (Frame.enter P f args'.toArray .normal) (c :: cs) w) (lone (c.finish v') cs w') ∧
      VR ρ' v v' ∧ HR P ρ' h' w' ∧ Stp h ρ w h' ρ' w'
  round : ∀ {ρ : Ren} {h : AHeap} {w : World} {l : Nat} {bl : BI} {args args' : List Value} {v : Value} {h' : AHeap} (c : Frame) (cs : List Frame), C.round l args h = some (v, h') → ρ l = some bl → bl.sh = 0 → LR ρ args args' → HR P ρ h w →
    ∃ ρ' w' v' f tmps a b w1, (Instr.yield bl.blk args'.toArray).run P w = .ok (.round bl.blk f tmps a b) w1 ∧ Steps P (lone (Frame.round bl.blk f tmps a b .normal) (c :: cs) w1) (lone (c.finish v') cs w') ∧
      VR ρ' v v' ∧ HR P ρ' h' w' ∧ Stp h ρ w h' ρ' w'

def EfEnds (P : Program) (ρ : Ren) (tmps : Array Value) (h : AHeap) (w : World) (o : Oper) (v : Value) (h' : AHeap) (c : Frame) (cs : List Frame) : Prop :=
  ∃ ρ' w' v', Ends P (cev tmps) o w c cs v' w' ∧ VR ρ' v v' ∧ HR P ρ' h' w' ∧ Stp h ρ w h' ρ' w'

theorem EfOk.ends {o : Oper} {v : Value} {h' : AHeap} (he : EfOk P ρ tmps h w o v h') (c : Frame) (cs : List Frame) : EfEnds P ρ tmps h w o v h' c cs := by
  obtain ⟨ρ', w', v', h1, h2, h3, h4⟩ := he
  rcases h1 with h1 | ⟨h1, rfl⟩
  · exact ⟨ρ', w', v', .value h1, h2, h3, h4⟩
  · exact ⟨ρ', w', _, .skip h1 rfl, h2, h3, h4⟩

theorem run_callFunc {f : Nat} {args : Array Value} {fn : Func} (hf : P.funcs[f]? = some fn) (hb : fn.body.isSome = true) (hn : fn.name ≠ "runtime.NumGoroutine") : (callFunc f args).run P w = .ok (.enter f args) w := by
  obtain ⟨b, hb'⟩ := Option.isSome_iff_exists.1 hb
  simp [callFunc, hf, hn, hb']

theorem ef_call (cx : Cx P ρ ts tmps h w) {C : CB} (hC : CS P C) {o : Oper} {f : Operand} {args : Array Operand} {tys : Array TypeId} (hop : o.op = .call { callee := .value f, args, argTypes := tys }) (hf : okOpd P f = true) (ha : ∀ x, x ∈ args.toList → okOpd P x = true)
    {v : Value} {h' : AHeap} (hv : efV C ts h (.call (cOpd f) (args.toList.map cOpd)) = some (v, h')) (c : Frame) (cs : List Frame) : EfEnds P ρ tmps h w o v h' c cs := by
  simp only [efV] at hv
  split at hv
  · rename_i g vs hg hvs
    have hG := ev_sound cx hf hg
    have hA := evs_sound cx _ _ ha hvs
    unfold callV at hv
    split at hv
    · rename_i fn first cap
      generalize hF : cev tmps f = F at hG
      cases hG with
      | func f1 f1' c1 c1' hfr s1 s2 r1 r2 =>
        cases hfr with
        | same _ _ =>
          have l1 : LR ρ first.toList f1'.toList := .of_arrays s1 r1
          have l2 : LR ρ cap.toList c1'.toList := .of_arrays s2 r2
          obtain ⟨ρ', w', v', ⟨fnn, q1, q2, q3⟩, q4, q5, q6, q7⟩ := hC.call c cs hv ((l1.append hA).append l2) cx.hr
          refine ⟨ρ', w', v', .enter (f := fn) (args := f1' ++ args.map (cev tmps) ++ c1') (w1 := w) ?_ ?_, q5, q6, q7⟩
          · simp only [execOp, hop, Sem.run_bind, resolve, hF, Deferred.ofValue, Sem.run_pure, Result.andThen_ok, invoke]
            exact run_callFunc q1 q2 q3
          · have : (f1'.toList ++ args.toList.map (cev tmps) ++ c1'.toList).toArray = f1' ++ args.map (cev tmps) ++ c1' := by
              apply Array.ext'; simp
            rw [← this]; exact q4
    · rename_i l first cap
      generalize hF : cev tmps f = F at hG
      cases hG with
      | func f1 f1' c1 c1' hfr s1 s2 r1 r2 =>
        cases hfr with
        | same _ hne => exact absurd rfl (hne l)
        | yield hb hs =>
          rename_i bl
          have l1 : LR ρ first.toList f1'.toList := .of_arrays s1 r1
          obtain ⟨ρ', w', v', ff, tt, a, b, w1, q1, q4, q5, q6, q7⟩ := hC.round c cs hv hb hs (l1.append hA) cx.hr
          refine ⟨ρ', w', v', .round (l := bl.blk) (f := ff) (tmps := tt) (a := a) (b := b) (w1 := w1) ?_ q4, q5, q6, q7⟩
          have e : (f1'.toList ++ args.toList.map (cev tmps)).toArray = f1' ++ args.map (cev tmps) := by
            apply Array.ext'; simp
          rw [e] at q1
          simp only [execOp, hop, Sem.run_bind, resolve, hF, Deferred.ofValue, Sem.run_pure, Result.andThen_ok, invoke]
          exact q1
    · cases hv
  · cases hv

theorem ef_all (cx : Cx P ρ ts tmps h w) {C : CB} (hC : CS P C) {o : Oper} {io : IOp} (hc : cOp P o = some io) (hok : o.op.operands.toList.all (okOpd P) = true) (he : isEf io = true)
    {v : Value} {h' : AHeap} (hv : efV C ts h io = some (v, h')) (c : Frame) (cs : List Frame) : EfEnds P ρ tmps h w o v h' c cs := by
  have hA := all_ok hok
  unfold cOp at hc
  split at hc
  · cases hc; cases he
  · cases hc; cases he
  · cases hc; cases he
  · split at hc
    · cases hc; cases he
    · cases hc
  · split at hc
    · cases hc; cases he
    · cases hc
  · split at hc
    · cases hc; cases he
    · cases hc
  · split at hc
    · split at hc
      · obtain ⟨_, hc⟩ := cond_some hc; cases hc; cases he
      · cases hc
    · cases hc
  · split at hc
    · obtain ⟨_, hc⟩ := cond_some hc; cases hc; cases he
    · cases hc
  · rename_i t a x hop
    split at hc
    · rename_i n hn; cases hc; exact (ef_store cx hop (hA a (by simp [hop, Op.operands])) (hA x (by simp [hop, Op.operands])) hn hv).ends c cs
    · cases hc
  · cases hc; cases he
  · rename_i op t x y yt hop
    have no : ∀ neg, cEq P neg t x y = some io → False := by
      intro neg hq
      unfold cEq at hq
      split at hq
      · cases hq; cases he
      · cases hq; cases he
      · obtain ⟨_, hq⟩ := cond_some hq; cases hq; cases he
      · obtain ⟨_, hq⟩ := cond_none hq
        split at hq
        · cases hq; cases he
        · cases hq
      · cases hq
    split at hc
    · exact (no _ hc).elim
    · exact (no _ hc).elim
    · cases hc; cases he
  · cases hc; cases he
  · split at hc
    · cases hc; cases he
    · cases hc; cases he
    · split at hc
      · cases hc; cases he
      · cases hc
    · split at hc
      · cases hc
      · cases hc
    · cases hc
  · split at hc
    · cases hc; cases he
    · cases hc
  · obtain ⟨_, hc⟩ := cond_some hc; cases hc; cases he
  · cases hc; cases he
  · split at hc
    · split at hc
      · obtain ⟨_, hc⟩ := cond_some hc; cases hc; cases he
      · cases hc
    · cases hc
  · split at hc
    · cases hc; cases he
    · split at hc
      · cases hc; cases he
      · cases hc
    · split at hc
      · cases hc; cases he
      · cases hc
    · cases hc
  · split at hc
    · split at hc
      · split at hc
        · obtain ⟨_, hc⟩ := cond_none hc; cases hc; cases he
        · cases hc
      · cases hc
    · cases hc
  · split at hc
    · split at hc
      · split at hc
        · obtain ⟨_, hc⟩ := cond_some hc; cases hc; cases he
        · cases hc
      · cases hc
    · cases hc
  · split at hc
    · split at hc
      · cases hc; cases he
      · cases hc
    · split at hc
      · cases hc; cases he
      · cases hc
    · cases hc
  · split at hc
    · split at hc
      · obtain ⟨_, hc⟩ := cond_some hc; cases hc; cases he
      · cases hc
    · cases hc; cases he
    · cases hc
  · split at hc
    · split at hc
      · split at hc
        · obtain ⟨_, hc⟩ := cond_some hc; cases hc; cases he
        · cases hc
      · cases hc
    · cases hc
  · rename_i t m k x hop
    split at hc
    · rename_i kt e ht
      split at hc
      · rename_i n hk; cases hc; exact (ef_mapUpd cx (.inl hop) (hA m (by simp [hop, Op.operands])) (hA k (by simp [hop, Op.operands])) (hA x (by simp [hop, Op.operands])) ht hk hv).ends c cs
      · cases hc
    · cases hc
  · rename_i t m k x hop
    split at hc
    · rename_i kt e ht
      split at hc
      · rename_i n hk; cases hc; exact (ef_mapUpd cx (.inr hop) (hA m (by simp [hop, Op.operands])) (hA k (by simp [hop, Op.operands])) (hA x (by simp [hop, Op.operands])) ht hk hv).ends c cs
      · cases hc
    · cases hc
  · rename_i t x hop
    have hx := hA x (by simp [hop, Op.operands])
    split at hc
    · rename_i ht; cases hc; exact (ef_range cx hop hx (str := true) ht hv).ends c cs
    · rename_i a b ht; cases hc; exact (ef_range cx hop hx (str := false) ⟨a, b, ht⟩ hv).ends c cs
    · cases hc
  · rename_i x s hop; cases hc; exact (ef_next cx hop (hA x (by simp [hop, Op.operands])) hv).ends c cs
  · cases hc; cases he
  · cases hc; cases he
  · rename_i cl hop
    obtain ⟨callee, args, tys⟩ := cl
    unfold cCall at hc
    simp only at hc
    split at hc
    · rename_i f
      cases hc
      exact ef_call cx hC hop (hA f (by simp [hop, Op.operands, Call.operands])) (fun x hx => hA x (by simp [hop, Op.operands, Call.operands]; right; simpa using hx)) hv c cs
    · cases hc
    · rename_i b
      have hAr : ∀ x, x ∈ args.toList → okOpd P x = true := fun x hx => hA x (by simp [hop, Op.operands, Call.operands]; simpa using hx)
      split at hc
      · split at hc
        · cases hc; cases he
        · cases hc; cases he
        · cases hc; cases he
        · cases hc; cases he
        · split at hc
          · cases hc; cases he
          · cases hc
        · cases hc
      · -- append
        rename_i t u s' x' h1 h2
        obtain ⟨s, x, e1, rfl, rfl⟩ := map_two h2
        have e1 := arr_of e1
        have e2 := arr_of h1
        subst e1; subst e2
        split at hc
        · rename_i e d ht hu
          split at hc
          · rename_i i z hd hi hz
            cases hc
            exact (ef_append cx hop (hAr s (by simp)) (hAr x (by simp)) ht hu (fun k hk => by subst hk; cases hd) hi hz hv).ends c cs
          · cases hc
        · cases hc
      · -- copy
        rename_i t rest d' s' h1 h2
        obtain ⟨d, s, e1, rfl, rfl⟩ := map_two h2
        have e1 := arr_of e1
        have e2 := arr_of h1
        subst e1; subst e2
        split at hc
        · rename_i e ht
          split at hc
          · rename_i k hk; cases hc; exact (ef_copy cx hop rfl (hAr d (by simp)) (hAr s (by simp)) ht hk hv).ends c cs
          · cases hc
        · cases hc
      · -- clear
        rename_i t x' h1 h2
        obtain ⟨x, e1, rfl⟩ := map_one h2
        have e1 := arr_of e1
        have e2 := arr_of h1
        subst e1; subst e2
        split at hc
        · rename_i e ht
          split at hc
          · rename_i k z hk hz; cases hc; exact (ef_clear cx hop (hAr x (by simp)) ht hz hv).ends c cs
          · cases hc
        · rename_i a b ht; cases hc; exact (ef_clearM cx hop (hAr x (by simp)) ht hv).ends c cs
        · cases hc
      · -- delete
        rename_i t rest m' k' h1 h2
        obtain ⟨m, k, e1, rfl, rfl⟩ := map_two h2
        have e1 := arr_of e1
        have e2 := arr_of h1
        subst e1; subst e2
        split at hc
        · rename_i kt e ht
          split at hc
          · rename_i n hk; cases hc; exact (ef_delete cx hop rfl (hAr m (by simp)) (hAr k (by simp)) ht hk hv).ends c cs
          · cases hc
        · cases hc
      · cases hc; cases he
      · cases hc; cases he
      · cases hc
  · cases hc

end
end Go.Dv

/- The executor's code is the machine's: regions. -/
namespace Go.Dv

structure Base where
  fn : FuncId
  round : Option Nat

noncomputable def Fr (b : Base) (tmps : Array Value) (ds : List Deferred) (todo : List Item) : Frame :=
  { fn := b.fn, tmps, todo, defers := ds, mode := .run, kind := .normal, roundOf := b.round }

noncomputable def putD (tmps : Array Value) (d : Option Nat) (v : Value) : Array Value :=
  match d with
  | some d => tmps.setIfInBounds d v
  | none => tmps

section
variable {P : Program} {ρ : Ren} {ts : Tr Value} {tmps : Array Value} {h : AHeap} {w : World} {b : Base} {ds : List Deferred} {k : List Item} {cs : List Frame}

theorem fr_eval (todo : List Item) : (Fr b tmps ds todo).eval = cev tmps := Frame_eval _

theorem fr_finish (ops : Array Oper) (i : Nat) (rest : List Nat) (v : Value) :
    (Fr b tmps ds (.inRegion ops (i :: rest) :: k)).finish v = Fr b (putD tmps ((ops[i]?).bind (·.dst)) v) ds (.inRegion ops rest :: k) := by
  cases hd : (ops[i]?).bind (·.dst) <;> simp [Frame.finish, Fr, putD, hd]

theorem stepG_oper {ops : Array Oper} {i : Nat} {rest : List Nat} {o : Oper} (ho : ops[i]? = some o) (hw : Region.wanted o (yielded ops tmps) = true) (hnd : ∀ c, o.op ≠ .defer c) :
    stepG P true { frame := Fr b tmps ds (.inRegion ops (i :: rest) :: k), callers := cs, status := .running, dying := none } w =
      stepG.apply P true (Fr b tmps ds (.inRegion ops (i :: rest) :: k)) cs none (execOp (cev tmps) o) w := by
  have he := fr_eval (b := b) (tmps := tmps) (ds := ds) (.inRegion ops (i :: rest) :: k)
  simp only [Fr] at he
  simp [stepG, stepG.exec, stepG.oper, Frame.oper?, Fr, ho, hw, he]
  split
  · rename_i l c h1 h2; exact absurd h2 (hnd c)
  · rfl

theorem step_oper {ops : Array Oper} {i : Nat} {rest : List Nat} {o : Oper} (ho : ops[i]? = some o) (hw : Region.wanted o (yielded ops tmps) = true) (hnd : ∀ c, o.op ≠ .defer c) {v : Value} {w' : World}
    (he : Ends P (cev tmps) o w (Fr b tmps ds (.inRegion ops (i :: rest) :: k)) cs v w') :
    Steps P (lone (Fr b tmps ds (.inRegion ops (i :: rest) :: k)) cs w) (lone (Fr b (putD tmps o.dst v) ds (.inRegion ops rest :: k)) cs w') := by
  have hg := stepG_oper (P := P) (b := b) (ds := ds) (k := k) (cs := cs) (w := w) (rest := rest) ho hw hnd
  have hfin : ∀ v, (Fr b tmps ds (.inRegion ops (i :: rest) :: k)).finish v = Fr b (putD tmps o.dst v) ds (.inRegion ops rest :: k) := by
    intro v; rw [fr_finish, ho]; rfl
  cases he with
  | value h => exact .one (step_lone_go (by rw [hg, ← hfin]; simp [stepG.apply, h]))
  | skip h hv => subst hv; exact .one (step_lone_go (by rw [hg, ← hfin]; simp [stepG.apply, h]))
  | enter h hs =>
    rw [hfin] at hs
    exact .head (step_lone_go (by rw [hg]; simp [stepG.apply, h, Fr])) hs
  | round h hs =>
    rw [hfin] at hs
    exact .head (step_lone_go (by rw [hg]; simp [stepG.apply, h, Fr])) hs

theorem step_oper_skip {ops : Array Oper} {i : Nat} {rest : List Nat} (hw : ((ops[i]?).map (Region.wanted · (yielded ops tmps))).getD false = false) :
    step P (lone (Fr b tmps ds (.inRegion ops (i :: rest) :: k)) cs w) = .next (lone (Fr b (putD tmps ((ops[i]?).bind (·.dst)) Go.undef) ds (.inRegion ops rest :: k)) cs w) := by
  rw [← fr_finish]
  exact step_lone_go (by
    have h' := hw
    simp only [Fr] at *
    simp [stepG, stepG.exec, h'])

theorem step_region_end' {ops : Array Oper} : step P (lone (Fr b tmps ds (.inRegion ops [] :: k)) cs w) = .next (lone (Fr b tmps ds k) cs w) :=
  step_lone_go (by simp [stepG, stepG.exec, Fr])

theorem step_region' {id : Nat} {ops : Array Oper} : step P (lone (Fr b tmps ds (.code (.region id ops false) :: k)) cs w) = .next (lone (Fr b tmps ds (.inRegion ops (List.range ops.size) :: k)) cs w) :=
  step_lone_go (by simp [stepG, stepG.exec, Fr])

theorem step_region_draw' {id : Nat} {ops : Array Oper} : step P (lone (Fr b tmps ds (.code (.region id ops true) :: k)) cs w) =
    .next (lone (Fr b tmps ds (.inRegion ops (Region.schedule (P.follows .mixedOrders) ops (w.tape w.drawn (.order b.fn id))) :: k)) cs { w with drawn := w.drawn + 1 }) :=
  step_lone_go (by simp [stepG, stepG.exec, Fr, choose, Sem.run, Question.forced, Question.cut])

/-! ## one operation -/
theorem TR.put (ht : TR ρ ts tmps) {d : Option Nat} (hd : ∀ x, d = some x → x < tmps.size) {v v' : Value} (hv : VR ρ v v') : TR ρ (setD ts d v) (putD tmps d v') := by
  cases d with
  | none => exact ht
  | some d =>
    intro t x hx
    simp only [setD, Tr.get_set] at hx
    simp only [putD]
    by_cases e : t = d
    · subst e
      simp only [if_true, Option.some.injEq] at hx
      subst hx
      exact ⟨v', by simp [hd t rfl], hv⟩
    · simp only [e, if_false] at hx
      obtain ⟨x', h1, h2⟩ := ht t x hx
      exact ⟨x', by rw [Array.getElem?_setIfInBounds_ne (fun k => e k.symm)]; exact h1, h2⟩

theorem putD_size (d : Option Nat) (v : Value) : (putD tmps d v).size = tmps.size := by cases d <;> simp [putD]

theorem op_ends (cx : Cx P ρ ts tmps h w) {C : CB} (hC : CS P C) {o : Oper} {io : IOp} (hc : cOp P o = some io) (hok : o.op.operands.toList.all (okOpd P) = true) {v : Value} {h' : AHeap}
    (hv : opV C ts h io = some (v, h')) (c : Frame) (cs : List Frame) : EfEnds P ρ tmps h w o v h' c cs := by
  unfold opV at hv
  cases he : isEf io with
  | true =>
    rw [he] at hv
    exact ef_all cx hC hc hok he hv c cs
  | false =>
    rw [he] at hv
    simp only [cond_false] at hv
    cases hm : isMk io with
    | true =>
      rw [hm] at hv
      simp only [cond_true] at hv
      split at hv
      · rename_i ob m hob
        cases hv
        obtain ⟨w1, ob', bi, v', h1, h2, h3, h4, h5, h6, h7, h8⟩ := mk_all cx hc hok hm hob
        obtain ⟨ρ', q1, q2, q3⟩ := new_sound cx.hr h6 h7 h2 h3 h4 h5
        exact ⟨ρ', w1, v', .value h1, h8 ρ' _ q1, q2, q3⟩
      · cases hv
    | false =>
      rw [hm] at hv
      simp only [cond_false] at hv
      split at hv
      · rename_i x hx
        cases hv
        obtain ⟨v', h1, h2⟩ := rd_all cx hc hok he hm hx
        exact ⟨ρ, w, v', .value h1, h2, cx.hr, .refl _ _ _⟩
      · cases hv

theorem cOp_not_defer {o : Oper} {io : IOp} (hc : cOp P o = some io) : ∀ c, o.op ≠ .defer c := by
  intro c e
  unfold cOp at hc
  rw [e] at hc
  cases hc

theorem cOper_parts {nt : Nat} {ops : Array Oper} {o : Oper} {io : IOper} (hc : cOper P nt ops o = some io) : cOp P o = some io.op ∧ o.op.operands.toList.all (okOpd P) = true ∧ io.dst = o.dst ∧ (∀ d, o.dst = some d → d < nt) ∧
    (match o.guard with | none => io.guard = none | some (j, b) => ∃ g d, ops[j]? = some g ∧ g.dst = some d ∧ io.guard = some (d, b)) ∧ io.after = (o.after.toList.filter (Region.binds .any)).map (·.on) := by
  unfold cOper at hc
  split at hc
  · cases hc
  · rename_i op hop
    obtain ⟨h1, h2⟩ := cond_some hop
    split at hc
    · cases hc
    · rename_i hd
      split at hc
      · cases hc
      · rename_i g hg
        cases hc
        refine ⟨h2, h1, rfl, ?_, ?_, rfl⟩
        · intro d e
          rw [e] at hd
          simpa [Nat.blt_eq] using hd
        · revert hg
          cases o.guard with
          | none => intro hg; cases hg; rfl
          | some jb =>
            obtain ⟨j, b⟩ := jb
            intro hg
            simp only at hg
            split at hg
            · rename_i g' hg'
              split at hg
              · rename_i d hd'; cases hg; exact ⟨g', d, hg', hd', rfl⟩
              · cases hg
            · cases hg

theorem wanted_sound (ht : TR ρ ts tmps) {nt : Nat} {ops : Array Oper} {o : Oper} {io : IOper} (hc : cOper P nt ops o = some io) {r : Bool} (hw : wantedV ts io.guard = some r) :
    Region.wanted o (yielded ops tmps) = r := by
  obtain ⟨_, _, _, _, hg, _⟩ := cOper_parts hc
  unfold Region.wanted
  split at hg
  · rename_i e
    rw [hg] at hw
    simp [wantedV] at hw
    rw [e]; exact hw.symm
  · rename_i j bb e
    obtain ⟨g, d, h1, h2, h3⟩ := hg
    rw [h3] at hw
    rw [e]
    simp only [wantedV] at hw
    simp only [yielded, h1, Option.bind_some, h2]
    split at hw
    · rename_i x hx
      obtain ⟨v', e1, e2⟩ := ht d _ hx
      rw [e1, e2.inv_bool]
      cases hw
      cases x <;> cases bb <;> rfl
    · rename_i x hx
      obtain ⟨v', e1, e2⟩ := ht d _ hx
      obtain ⟨c', e3, _⟩ := e2.inv_tuple
      rw [e1, e3]
      cases hw
      rfl
    · cases hw

theorem ops_sound {C : CB} (hC : CS P C) {nt : Nat} {ops : Array Oper} {l : List IOper} (hl : ops.toList.mapM (cOper P nt ops) = some l) (m : Nat) :
    ∀ (i : Nat) {ρ : Ren} {ts ts' : Tr Value} {tmps : Array Value} {h h' : AHeap} {w : World}, i + m = ops.size → opsV C (l.drop i) ts h = some (ts', h') → Cx P ρ ts tmps h w → nt ≤ tmps.size →
    ∃ ρ' tmps' w', Steps P (lone (Fr b tmps ds (.inRegion ops (List.range' i m) :: k)) cs w) (lone (Fr b tmps' ds k) cs w') ∧ Cx P ρ' ts' tmps' h' w' ∧ Stp h ρ w h' ρ' w' ∧ tmps'.size = tmps.size := by
  obtain ⟨hlen, hget⟩ := mapM_some _ _ hl
  induction m with
  | zero =>
    intro i ρ ts ts' tmps h h' w him hv cx hn
    have : l.drop i = [] := by rw [List.drop_eq_nil_iff]; simp at hlen; omega
    rw [this] at hv
    simp [opsV] at hv
    obtain ⟨rfl, rfl⟩ := hv
    exact ⟨ρ, tmps, w, .one step_region_end', cx, .refl _ _ _, rfl⟩
  | succ m ih =>
    intro i ρ ts ts' tmps h h' w him hv cx hn
    have hi : i < ops.size := by omega
    have hil : i < l.length := by simp at hlen; omega
    rw [List.drop_eq_getElem_cons hil] at hv
    have hco := hget i ops[i] l[i] (by simp [hi]) (List.getElem?_eq_getElem hil)
    have hoi : ops[i]? = some ops[i] := Array.getElem?_eq_getElem hi
    obtain ⟨c1, c2, c3, c4, c5, _⟩ := cOper_parts hco
    simp only [opsV] at hv
    rw [List.range'_succ]
    split at hv
    · cases hv
    · -- not wanted
      rename_i hw
      have hnw := wanted_sound cx.tr hco hw
      have hs := step_oper_skip (P := P) (b := b) (tmps := tmps) (ds := ds) (k := k) (cs := cs) (w := w) (ops := ops) (i := i) (rest := List.range' (i + 1) m) (by rw [hoi]; simpa using hnw)
      rw [hoi, Option.bind_some] at hs
      rw [c3] at hv
      have cx' : Cx P ρ (setD ts ops[i].dst undefV) (putD tmps ops[i].dst Go.undef) h w := ⟨cx.tr.put (fun d e => Nat.lt_of_lt_of_le (c4 d e) hn) (.undef ρ), cx.hr⟩
      obtain ⟨ρ', tmps', w', q1, q2, q3, q4⟩ := ih (i + 1) (by omega) hv cx' (by rw [putD_size]; exact hn)
      exact ⟨ρ', tmps', w', .head hs q1, q2, q3, by rw [q4, putD_size]⟩
    · rename_i hw
      split at hv
      · rename_i v h1 hop
        have hyw := wanted_sound cx.tr hco hw
        obtain ⟨ρ1, w1, v1, e1, e2, e3, e4⟩ := op_ends cx hC c1 c2 hop (Fr b tmps ds (.inRegion ops (i :: List.range' (i + 1) m) :: k)) cs
        have hs := step_oper hoi hyw (cOp_not_defer c1) e1
        rw [c3] at hv
        have cx' : Cx P ρ1 (setD ts ops[i].dst v) (putD tmps ops[i].dst v1) h1 w1 := ⟨(cx.tr.mono e4.ext).put (fun d e => Nat.lt_of_lt_of_le (c4 d e) hn) e2, e3⟩
        obtain ⟨ρ', tmps', w', q1, q2, q3, q4⟩ := ih (i + 1) (by omega) hv cx' (by rw [putD_size]; exact hn)
        exact ⟨ρ', tmps', w', hs.trans q1, q2, e4.trans q3, by rw [q4, putD_size]⟩
      · cases hv

end
end Go.Dv

/- The executor's code is the machine's: code. -/
namespace Go.Dv

inductive MR (ρ : Ren) : List Nat → List Deferred → Prop where
  | nil : MR ρ [] []
  | cons {m : Nat} {bi : BI} {ms : List Nat} {ds : List Deferred} (h : ρ m = some bi) (hs : bi.sh = 0) (ht : MR ρ ms ds) : MR ρ (m :: ms) ({ target := .collected bi.blk, args := #[] } :: ds)

inductive RdR (ρ : Ren) : Option Nat → Option Nat → Prop where
  | none : RdR ρ none none
  | some {l : Nat} {bi : BI} (h : ρ l = some bi) (hs : bi.sh = 0) : RdR ρ (some bi.blk) (some l)

theorem MR.mono {ρ ρ' : Ren} (he : Ext ρ ρ') {ms : List Nat} {ds : List Deferred} (h : MR ρ ms ds) : MR ρ' ms ds := by
  induction h with
  | nil => exact .nil
  | cons h hs _ ih => exact .cons (he _ _ h) hs ih

theorem RdR.mono {ρ ρ' : Ren} (he : Ext ρ ρ') {a b : Option Nat} (h : RdR ρ a b) : RdR ρ' a b := by
  cases h with
  | none => exact .none
  | some h hs => exact .some (he _ _ h) hs

structure SR (P : Program) (ρ : Ren) (s : St) (tmps : Array Value) (ds : List Deferred) (w : World) (nt : Nat) (b : Base) (ir : Option Nat) : Prop where
  cx : Cx P ρ s.ts tmps s.h w
  size : nt ≤ tmps.size
  ms : MR ρ s.ms ds
  rnd : RdR ρ b.round ir

/-- where code leaves the frame -/
def Gone (P : Program) (m : Machine) (b : Base) (k : List Item) (cs : List Frame) (e : Ex) (tmps : Array Value) (ds : List Deferred) (w : World) : Prop :=
  match e with
  | .norm => Steps P m (lone (Fr b tmps ds k) cs w)
  | .exit id => ∃ k0, exitTo id k0 = exitTo id k ∧ Steps P m (lone (Fr b tmps ds (.code (.exit id) :: k0)) cs w)
  | .ret => ∃ k0, Steps P m (lone (Fr b tmps ds (.code .ret :: k0)) cs w)

theorem Gone.of_steps {P : Program} {m m1 : Machine} {b : Base} {k : List Item} {cs : List Frame} {e : Ex} {tmps : Array Value} {ds : List Deferred} {w : World} (h : Steps P m m1) (g : Gone P m1 b k cs e tmps ds w) : Gone P m b k cs e tmps ds w := by
  cases e with
  | norm => exact h.trans g
  | exit id => obtain ⟨k0, h1, h2⟩ := g; exact ⟨k0, h1, h.trans h2⟩
  | ret => obtain ⟨k0, h2⟩ := g; exact ⟨k0, h.trans h2⟩

/-- what an item that no exit stops at does to it -/
theorem Gone.pass {P : Program} {m : Machine} {b : Base} {x : Item} {k : List Item} {cs : List Frame} {e : Ex} {tmps : Array Value} {ds : List Deferred} {w : World} (hx : ∀ id, exitTo id (x :: k) = exitTo id k) (he : e ≠ .norm)
    (g : Gone P m b (x :: k) cs e tmps ds w) : Gone P m b k cs e tmps ds w := by
  cases e with
  | norm => exact absurd rfl he
  | exit id => obtain ⟨k0, h1, h2⟩ := g; exact ⟨k0, h1.trans (hx id), h2⟩
  | ret => exact g

section
variable {P : Program} {ρ : Ren} {tmps : Array Value} {h : AHeap} {w : World} {b : Base} {ds : List Deferred} {k : List Item} {cs : List Frame}

theorem s_skip : step P (lone (Fr b tmps ds (.code .skip :: k)) cs w) = .next (lone (Fr b tmps ds k) cs w) :=
  step_lone_go (by simp [stepG, stepG.exec, Fr])
theorem s_inBlock {id : Nat} : step P (lone (Fr b tmps ds (.inBlock id :: k)) cs w) = .next (lone (Fr b tmps ds k) cs w) :=
  step_lone_go (by simp [stepG, stepG.exec, Fr])
theorem s_seq {x y : Code} : step P (lone (Fr b tmps ds (.code (.seq x y) :: k)) cs w) = .next (lone (Fr b tmps ds (.code x :: .code y :: k)) cs w) :=
  step_lone_go (by simp [stepG, stepG.exec, Fr])
theorem s_cond {c : Operand} {x y : Code} {t : Bool} (h : cev tmps c = .bool t) :
    step P (lone (Fr b tmps ds (.code (.cond c x y) :: k)) cs w) = .next (lone (Fr b tmps ds (.code (if t then x else y) :: k)) cs w) :=
  step_lone_go (by
    have := congrFun (fr_eval (b := b) (tmps := tmps) (ds := ds) (.code (.cond c x y) :: k)) c
    simp only [Fr] at this
    simp [stepG, stepG.exec, Fr, this, h])
theorem s_block {id : Nat} {c : Code} : step P (lone (Fr b tmps ds (.code (.block id c) :: k)) cs w) = .next (lone (Fr b tmps ds (.code c :: .inBlock id :: k)) cs w) :=
  step_lone_go (by simp [stepG, stepG.exec, Fr])
theorem s_loop {c : Code} : step P (lone (Fr b tmps ds (.code (.loop c) :: k)) cs w) = .next (lone (Fr b tmps ds (.code c :: .inLoop c :: k)) cs w) :=
  step_lone_go (by simp [stepG, stepG.exec, Fr])
theorem s_inLoop {c : Code} : step P (lone (Fr b tmps ds (.inLoop c :: k)) cs w) = .next (lone (Fr b tmps ds (.code c :: .inLoop c :: k)) cs w) :=
  step_lone_go (by simp [stepG, stepG.exec, Fr])
theorem s_exit {id : Nat} {k0 : List Item} (h : exitTo id k0 = some k) : step P (lone (Fr b tmps ds (.code (.exit id) :: k0)) cs w) = .next (lone (Fr b tmps ds k) cs w) :=
  step_lone_go (by simp [stepG, stepG.exec, Fr, h])
theorem s_endRange {l : Nat} {j : Option Code} {w' : World} (h : (Instr.endLoop l).run P w = .ok j w') :
    step P (lone (Fr b tmps ds (.endRangeFunc l :: k)) cs w) = .next (lone (Fr b tmps ds ((j.map Item.code).toList ++ k)) cs w') :=
  step_lone_go (by simp [stepG, stepG.exec, Fr, Sem.runT_eq, h])

/-- an object that is given up may become anything -/
theorem drop_sound (hr : HR P ρ h w) {l : Nat} {bi : BI} (hl : (h.get l).isSome = true) (hb : ρ l = some bi) {ob' : Obj} {w' : World}
    (hlo : Loose ob') (hw : w'.heap = w.heap.setIfInBounds bi.blk ob') (ht : w'.tape = w.tape) (hos : w'.os = w.os) (hout : w'.output = w.output) : HR P ρ (h.kill l) w' ∧ Stp h ρ w (h.kill l) ρ w' := by
  obtain ⟨k1, k2⟩ := kill_sound hr l
  refine ⟨⟨?_, k1.inj, ?_, k1.glob⟩, ⟨k2.ext, k2.live, ?_, ?_, ht, hos, hout, k2.next, k2.old, fun a => let ⟨_, h1, h2⟩ := frozen_live hr hl hb; frozen_set h1 h2 hlo hw a⟩⟩
  · intro c o hc
    obtain ⟨bj, o', e1, e2, e3⟩ := k1.obj c o hc
    refine ⟨bj, o', e1, ?_, e3⟩
    rw [hw, Array.getElem?_setIfInBounds_ne]
    · exact e2
    · intro e
      have hc' : (h.get c).isSome = true ∧ c ≠ l := by
        rw [get_kill] at hc
        split at hc
        · cases hc
        · rename_i hne; exact ⟨by rw [hc]; rfl, hne⟩
      exact hc'.2 (hr.inj c l bj bi hc'.1 hl e1 hb e.symm)
  · intro c x hx
    have := k1.bnd c x hx
    rw [hw]; simpa using this
  · rw [hw]; simp
  · intro c hc hn
    rw [hw, Array.getElem?_setIfInBounds_ne (hn l bi hl hb)]

/-- what a drawn region comes to -/
def DrawS (P : Program) (C : CB) : Prop :=
  ∀ (b : Base) (ds : List Deferred) (k : List Item) (cs : List Frame) (nt : Nat) (ops : Array Oper) (l : List IOper) (ins : List (List Nat)) (loose : List (Nat × Nat)) (rest : List Nat) (ρ : Ren) (ts ts' : Tr Value) (tmps : Array Value) (h h' : AHeap) (w : World) (t : Nat),
    ops.toList.mapM (cOper P nt ops) = some l → cDraw l = some (.draw ins loose rest l) → drawV C ins loose rest l ts h = some (ts', h') → Cx P ρ ts tmps h w → nt ≤ tmps.size →
    ∃ ρ' tmps' w', Steps P (lone (Fr b tmps ds (.inRegion ops (Region.schedule (P.follows .mixedOrders) ops t) :: k)) cs w) (lone (Fr b tmps' ds k) cs w') ∧ Cx P ρ' ts' tmps' h' w' ∧ Stp h ρ w h' ρ' w' ∧ tmps'.size = tmps.size

theorem s_rfunc {f : Operand} {ps : Array Tmp} {a bd : Code} {l : Nat} {mark : List Deferred} {w1 : World} {g : FuncId} {args : Array Value}
    (he : (Instr.enterLoop b.fn tmps ps a bd b.round).run P w = .ok (l, mark) w1)
    (hc : (do let d ← resolve (cev tmps) { callee := .value f, args := #[.const (.func (.yield l) #[] #[])], argTypes := #[] } 0; invoke d.target d.args : Sem Next).run P w1 = .ok (.enter g args) w1) :
    step P (lone (Fr b tmps ds (.code (.rangeFunc f ps a bd) :: k)) cs w) = .next (lone (Frame.enter P g args .normal) (Fr b tmps (mark ++ ds) (.inRangeFunc l :: k) :: cs) w1) :=
  step_lone_go (by
    have hev := fr_eval (b := b) (tmps := tmps) (ds := mark ++ ds) (.inRangeFunc l :: k)
    simp only [Fr] at hev
    have hc' := hc
    simp only [Sem.run_bind] at hc'
    simp [stepG, stepG.exec, stepG.apply, Fr, Sem.runT_eq, he, hev, hc'])

theorem run_loop_get (hr : HR P ρ h w) {l : Nat} {r : Lp} {bi : BI} (hl : h.get l = some (.loop r)) (hb : ρ l = some bi) : ∃ r', bi.sh = 0 ∧ w.heap[bi.blk]? = some (.loop r') ∧ LpR P ρ r r' := by
  obtain ⟨bj, o', e1, e2, e3⟩ := hr.obj l _ hl
  rw [hb] at e1
  cases e1
  cases e3 with
  | loop hs hx => exact ⟨_, hs, e2, hx⟩

theorem rfunc_sound {C : CB} (hC : CS P C) {nt lf : Nat} {ir : Option Nat} {f : Operand} {ps : Array Tmp} {a bd : Code} {ia ib : ICode} (hps : ps.toList.all (fun p => Nat.blt p nt) = true) (hf : okOpd P f = true)
    (ha : cCode P nt a = some ia) (hbd : cCode P nt bd = some ib) {s s' : St} {e : Ex} (hrun : run C b.fn nt lf ir (.rfunc (cOpd f) ps.toList ia ib) s = some (e, s')) (sr : SR P ρ s tmps ds w nt b ir) :
    ∃ ρ' tmps' ds' w', Gone P (lone (Fr b tmps ds (.code (.rangeFunc f ps a bd) :: k)) cs w) b k cs e tmps' ds' w' ∧ SR P ρ' s' tmps' ds' w' nt b ir ∧ Stp s.h ρ w s'.h ρ' w' := by
  simp only [run] at hrun
  split at hrun
  · cases hrun
  · rename_i d ms h1 hpre
    -- the block for the deferred calls
    have hpre' : ∃ ρ1 w1 mark bd', ρ1 d = some bd' ∧ bd'.sh = 0 ∧ HR P ρ1 h1 w1 ∧ Stp s.h ρ w h1 ρ1 w1 ∧ MR ρ1 ms (mark ++ ds) ∧ w1.heap.size = w1.heap.size ∧
        (Instr.enterLoop b.fn tmps ps a bd b.round).run P w = .ok (w1.heap.size, mark) (w1.alloc (.loop { state := .ready, pending := none, fn := b.fn, tmps, params := ps, assign := a, body := bd, defers := bd'.blk })) := by
      have hrnd := sr.rnd
      generalize hbr : b.round = br at hrnd
      cases hrnd with
      | none =>
        simp only at hpre
        cases hpre
        obtain ⟨ρ1, q1, q2, q3⟩ := new_sound sr.cx.hr (ob := .dfr) (bi := ⟨w.heap.size, 0, 0, true, 0⟩) (ob' := .deferred (some [])) (w' := w.alloc (.deferred (some []))) rfl (.dfr rfl) rfl rfl rfl rfl
        refine ⟨ρ1, w.alloc (.deferred (some [])), [{ target := .collected w.heap.size, args := #[] }], _, q1, rfl, q2, q3, .cons q1 rfl (sr.ms.mono q3.ext), rfl, ?_⟩
        rw [run_enterLoop_outer, show (w.alloc (.deferred (some []))).heap.size = w.heap.size + 1 from Array.size_push _]
      | some hl hs =>
        rename_i l bi
        simp only at hpre
        split at hpre
        · rename_i r hlr
          cases hpre
          obtain ⟨r', _, e2, e3⟩ := run_loop_get sr.cx.hr hlr hl
          obtain ⟨bd', d1, d2, d3⟩ := e3.dfr
          refine ⟨ρ, w, [], bd', d1, d2, sr.cx.hr, .refl _ _ _, sr.ms, rfl, ?_⟩
          rw [run_enterLoop_inner e2, d3]
        · cases hpre
    obtain ⟨ρ1, w1, mark, bd', d1, d2, d3, d4, d5, _, d6⟩ := hpre'
    have htr1 : TR ρ1 s.ts tmps := sr.cx.tr.mono d4.ext
    have hps' : ∀ p, p ∈ ps.toList → p < nt := by
      intro p hp
      have := List.all_eq_true.1 hps p hp
      simpa [Nat.blt_eq] using this
    obtain ⟨ρ2, q1, q2, q3⟩ := new_sound d3 (ob := .loop { st := 0, pending := none, fn := b.fn, nt, tmps := s.ts, params := ps.toList, assign := ia, body := ib, dfr := d }) (bi := ⟨w1.heap.size, 0, 0, true, 0⟩)
      (ob' := .loop { state := .ready, pending := none, fn := b.fn, tmps, params := ps, assign := a, body := bd, defers := bd'.blk }) (w' := w1.alloc (.loop { state := .ready, pending := none, fn := b.fn, tmps, params := ps, assign := a, body := bd, defers := bd'.blk }))
      rfl (.loop rfl { st := rfl, pending := rfl, fn := rfl, nt := sr.size, tmps := htr1, params := rfl, okp := hps', assign := ha, body := hbd, dfr := ⟨bd', d1, d2, rfl⟩ }) rfl rfl rfl rfl
    split at hrun
    · rename_i g first cap hg
      split at hrun
      · cases hrun
      · rename_i hcall
        have hG := ev_sound (⟨htr1.mono q3.ext, q2⟩ : Cx P ρ2 s.ts tmps _ _) hf hg
        generalize hF : cev tmps f = F at hG
        cases hG with
        | func f1 f1' c1 c1' hfr s1 s2 r1 r2 =>
          cases hfr with
          | same _ _ =>
            have l1 : LR ρ2 first.toList f1'.toList := .of_arrays s1 r1
            have l2 : LR ρ2 cap.toList c1'.toList := .of_arrays s2 r2
            have ly : LR ρ2 [Value.func (.yield h1.next) #[] #[]] [.func (.yield w1.heap.size) #[] #[]] := .cons (.func _ _ _ _ (.yield q1 rfl) rfl rfl (by simp) (by simp)) (.nil _)
            obtain ⟨ρ3, w3, v', ⟨fnn, p1, p2, p3⟩, p4, p5, p6, p7⟩ := hC.call (Fr b tmps (mark ++ ds) (.inRangeFunc w1.heap.size :: k)) cs hcall ((l1.append ly).append l2) q2
            have hstep := s_rfunc (P := P) (b := b) (tmps := tmps) (ds := ds) (k := k) (cs := cs) (f := f) (g := g) (args := f1' ++ #[.func (.yield w1.heap.size) #[] #[]] ++ c1') d6 (by
              simp only [Sem.run_bind, resolve, hF, Deferred.ofValue, Sem.run_pure, Result.andThen_ok, invoke]
              rw [show Array.map (cev tmps) #[Operand.const (Value.func (Fn.yield w1.heap.size) #[] #[])] = #[Value.func (Fn.yield w1.heap.size) #[] #[]] by simp [cev]]
              exact run_callFunc p1 p2 p3)
            have hargs : (f1'.toList ++ [Value.func (.yield w1.heap.size) #[] #[]] ++ c1'.toList).toArray = f1' ++ #[.func (.yield w1.heap.size) #[] #[]] ++ c1' := by
              apply Array.ext'; simp
            rw [hargs] at p4
            have hst := Steps.head hstep p4
            have hfin : (Fr b tmps (mark ++ ds) (.inRangeFunc w1.heap.size :: k)).finish v' = Fr b tmps (mark ++ ds) (.endRangeFunc w1.heap.size :: k) := rfl
            rw [hfin] at hst
            split at hrun
            · rename_i r hl3
              have hb3 := p7.ext _ _ q1
              obtain ⟨r', _, e2, e3⟩ := run_loop_get p6 hl3 hb3
              have hnb : Nat.beq r.st 1 = false := by
                cases hx : Nat.beq r.st 1 with
                | false => rfl
                | true => rw [hx] at hrun; cases hrun
              rw [hnb] at hrun
              simp only [cond_false] at hrun
              have hne : r'.state ≠ .busy := by
                intro hx
                have := e3.st
                rw [hx] at this
                simp at this
                rw [this] at hnb
                cases hnb
              obtain ⟨w4, hel, k1, k2⟩ : ∃ w4, (Instr.endLoop w1.heap.size).run P w3 = .ok r'.pending w4 ∧ HR P ρ3 (AHeap.kill _ h1.next) w4 ∧ Stp _ ρ3 w3 (AHeap.kill _ h1.next) ρ3 w4 :=
                ⟨_, run_endLoop (P := P) e2 hne, drop_sound p6 (by rw [hl3]; rfl) hb3 (ob' := .loop { r' with state := .exhausted }) (w' := w3.putObj w1.heap.size (.loop { r' with state := .exhausted })) (by intro _ _ _ _ e; cases e) rfl rfl rfl rfl⟩
              have hst' := hst.trans (.one (s_endRange hel))
              have hstp := ((d4.trans q3).trans p7).trans k2
              have hext := (q3.trans p7).trans k2
              have hsr : SR P ρ3 { ts := s.ts, ms, h := _ } tmps (mark ++ ds) _ nt b ir := ⟨⟨sr.cx.tr.mono hstp.ext, k1⟩, sr.size, d5.mono hext.ext, sr.rnd.mono hstp.ext⟩
              have hpd := e3.pending
              split at hrun
              · rename_i hp
                rw [hp] at hpd
                rw [← hpd] at hst'
                cases hrun
                exact ⟨ρ3, tmps, _, _, hst', hsr, hstp⟩
              · rename_i id hp
                rw [hp] at hpd
                rw [← hpd] at hst'
                cases hrun
                exact ⟨ρ3, tmps, _, _, ⟨k, rfl, hst'⟩, hsr, hstp⟩
              · rename_i hp
                rw [hp] at hpd
                rw [← hpd] at hst'
                cases hrun
                exact ⟨ρ3, tmps, _, _, ⟨k, hst'⟩, hsr, hstp⟩
            · cases hrun
    · cases hrun

/-- what the code says of a state -/
def Good (P : Program) (C : CB) (nt lf : Nat) (c : Code) (ic : ICode) : Prop :=
  ∀ (b : Base) (ir : Option Nat) (k : List Item) (cs : List Frame) (ρ : Ren) (s s' : St) (e : Ex) (tmps : Array Value) (ds : List Deferred) (w : World), run C b.fn nt lf ir ic s = some (e, s') → SR P ρ s tmps ds w nt b ir →
    ∃ ρ' tmps' ds' w', Gone P (lone (Fr b tmps ds (.code c :: k)) cs w) b k cs e tmps' ds' w' ∧ SR P ρ' s' tmps' ds' w' nt b ir ∧ Stp s.h ρ w s'.h ρ' w'

theorem loop_sound {C : CB} {nt lf : Nat} {c : Code} {ic : ICode} (hg : Good P C nt lf c ic) (b : Base) (ir : Option Nat) (k : List Item) (cs : List Frame) :
    ∀ (n : Nat) (ρ : Ren) (s s' : St) (e : Ex) (tmps : Array Value) (ds : List Deferred) (w : World), loopN (run C b.fn nt lf ir ic) n s = some (e, s') → SR P ρ s tmps ds w nt b ir →
    ∃ ρ' tmps' ds' w', Gone P (lone (Fr b tmps ds (.code c :: .inLoop c :: k)) cs w) b k cs e tmps' ds' w' ∧ SR P ρ' s' tmps' ds' w' nt b ir ∧ Stp s.h ρ w s'.h ρ' w' := by
  intro n
  induction n with
  | zero => intro ρ s s' e tmps ds w hrun; cases hrun
  | succ n ih =>
    intro ρ s s' e tmps ds w hrun sr
    simp only [loopN] at hrun
    split at hrun
    · rename_i s1 h1
      obtain ⟨ρ1, tmps1, ds1, w1, g1, sr1, st1⟩ := hg b ir (.inLoop c :: k) cs ρ s s1 .norm tmps ds w h1 sr
      obtain ⟨ρ2, tmps2, ds2, w2, g2, sr2, st2⟩ := ih ρ1 s1 s' e tmps1 ds1 w1 hrun sr1
      exact ⟨ρ2, tmps2, ds2, w2, .of_steps (Steps.trans g1 (.one s_inLoop)) g2, sr2, st1.trans st2⟩
    · rename_i hne
      obtain ⟨ρ1, tmps1, ds1, w1, g1, sr1, st1⟩ := hg b ir (.inLoop c :: k) cs ρ s s' e tmps ds w hrun sr
      refine ⟨ρ1, tmps1, ds1, w1, g1.pass (fun _ => rfl) ?_, sr1, st1⟩
      rintro rfl
      exact hne s' hrun

theorem code_sound {C : CB} (hC : CS P C) (hD : DrawS P C) {nt lf : Nat} : ∀ (c : Code) (ic : ICode), cCode P nt c = some ic → Good P C nt lf c ic := by
  intro c
  induction c with
  | skip =>
    intro ic hc b ir k cs ρ s s' e tmps ds w hrun sr
    cases hc
    cases hrun
    exact ⟨ρ, tmps, ds, w, .one s_skip, sr, .refl _ _ _⟩
  | region id ops draw =>
    intro ic hc b ir k cs ρ s s' e tmps ds w hrun sr
    simp only [cCode] at hc
    split at hc
    · rename_i l hl
      cases draw with
      | false =>
        simp only [cond_false] at hc
        cases hc
        simp only [run] at hrun
        split at hrun
        · rename_i ts' h' hx
          cases hrun
          obtain ⟨ρ', tmps', w', q1, q2, q3, q4⟩ := ops_sound (b := b) (ds := ds) (k := k) (cs := cs) hC hl ops.size 0 (by simp) hx sr.cx sr.size
          refine ⟨ρ', tmps', ds, w', .head step_region' ?_, ⟨q2, by rw [q4]; exact sr.size, sr.ms.mono q3.ext, sr.rnd.mono q3.ext⟩, q3⟩
          rw [List.range_eq_range']
          exact q1
        · cases hrun
      | true =>
        simp only [cond_true] at hc
        obtain ⟨ins, loose, rest, rfl⟩ : ∃ ins loose rest, ic = .draw ins loose rest l := by
          have hc' := hc
          unfold cDraw at hc'
          split at hc'
          · cases hc'
          · obtain ⟨_, hc'⟩ := cond_some hc'
            cases hc'
            exact ⟨_, _, _, rfl⟩
        simp only [run] at hrun
        split at hrun
        · rename_i ts' h' hx
          cases hrun
          have hcx : Cx P ρ s.ts tmps s.h { w with drawn := w.drawn + 1 } := ⟨sr.cx.tr, ⟨sr.cx.hr.obj, sr.cx.hr.inj, sr.cx.hr.bnd, sr.cx.hr.glob⟩⟩
          obtain ⟨ρ', tmps', w', q1, q2, q3, q4⟩ := hD b ds k cs nt ops l ins loose rest ρ s.ts ts' tmps s.h h' { w with drawn := w.drawn + 1 } (w.tape w.drawn (.order b.fn id)) hl hc hx hcx sr.size
          exact ⟨ρ', tmps', ds, w', .head step_region_draw' q1, ⟨q2, by rw [q4]; exact sr.size, sr.ms.mono q3.ext, sr.rnd.mono q3.ext⟩, ⟨q3.ext, q3.live, q3.size, q3.frame, q3.tape, q3.os, q3.out, q3.next, q3.old, q3.froz⟩⟩
        · cases hrun
    · cases hc
  | seq x y ihx ihy =>
    intro ic hc b ir k cs ρ s s' e tmps ds w hrun sr
    simp only [cCode] at hc
    split at hc
    · rename_i ix iy hx hy
      cases hc
      simp only [run] at hrun
      split at hrun
      · rename_i s1 h1
        obtain ⟨ρ1, tmps1, ds1, w1, g1, sr1, st1⟩ := ihx ix hx b ir (.code y :: k) cs ρ s s1 .norm tmps ds w h1 sr
        obtain ⟨ρ2, tmps2, ds2, w2, g2, sr2, st2⟩ := ihy iy hy b ir k cs ρ1 s1 s' e tmps1 ds1 w1 hrun sr1
        exact ⟨ρ2, tmps2, ds2, w2, .of_steps (.head s_seq g1) g2, sr2, st1.trans st2⟩
      · rename_i hne
        obtain ⟨ρ1, tmps1, ds1, w1, g1, sr1, st1⟩ := ihx ix hx b ir (.code y :: k) cs ρ s s' e tmps ds w hrun sr
        refine ⟨ρ1, tmps1, ds1, w1, .of_steps (.one s_seq) (g1.pass (fun _ => rfl) ?_), sr1, st1⟩
        rintro rfl
        exact hne s' hrun
    · cases hc
  | cond c x y ihx ihy =>
    intro ic hc b ir k cs ρ s s' e tmps ds w hrun sr
    simp only [cCode] at hc
    obtain ⟨hok, hc⟩ := cond_some hc
    split at hc
    · rename_i ix iy hx hy
      cases hc
      simp only [run] at hrun
      split at hrun
      · rename_i hcv
        have := ev_sound sr.cx hok hcv
        have hcc := this.inv_bool
        obtain ⟨ρ1, tmps1, ds1, w1, g1, sr1, st1⟩ := ihx ix hx b ir k cs ρ s s' e tmps ds w hrun sr
        exact ⟨ρ1, tmps1, ds1, w1, .of_steps (.one (s_cond hcc)) g1, sr1, st1⟩
      · rename_i hcv
        have := ev_sound sr.cx hok hcv
        have hcc := this.inv_bool
        obtain ⟨ρ1, tmps1, ds1, w1, g1, sr1, st1⟩ := ihy iy hy b ir k cs ρ s s' e tmps ds w hrun sr
        exact ⟨ρ1, tmps1, ds1, w1, .of_steps (.one (s_cond hcc)) g1, sr1, st1⟩
      · cases hrun
    · cases hc
  | block id c ih =>
    intro ic hc b ir k cs ρ s s' e tmps ds w hrun sr
    simp only [cCode] at hc
    split at hc
    · rename_i ix hx
      cases hc
      simp only [run] at hrun
      split at hrun
      · rename_i id' s1 h1
        obtain ⟨ρ1, tmps1, ds1, w1, ⟨k0, e1, e2⟩, sr1, st1⟩ := ih ix hx b ir (.inBlock id :: k) cs ρ s s1 (.exit id') tmps ds w h1 sr
        cases hb : Nat.beq id' id with
        | true =>
          rw [hb] at hrun
          cases hrun
          have hid := Nat.eq_of_beq_eq_true hb
          subst hid
          refine ⟨ρ1, tmps1, ds1, w1, Steps.head s_block (e2.trans (.one (s_exit ?_))), sr1, st1⟩
          rw [e1]; simp [exitTo]
        | false =>
          rw [hb] at hrun
          cases hrun
          refine ⟨ρ1, tmps1, ds1, w1, ⟨k0, ?_, .head s_block e2⟩, sr1, st1⟩
          rw [e1]
          have : id' ≠ id := by rintro rfl; rw [Nat.beq_refl] at hb; cases hb
          simp only [exitTo, beq_iff_eq]
          rw [if_neg (fun h => this h.symm)]
      · rename_i hne
        obtain ⟨ρ1, tmps1, ds1, w1, g1, sr1, st1⟩ := ih ix hx b ir (.inBlock id :: k) cs ρ s s' e tmps ds w hrun sr
        cases e with
        | norm => exact ⟨ρ1, tmps1, ds1, w1, Steps.head s_block (Steps.trans g1 (.one s_inBlock)), sr1, st1⟩
        | exit id' => exact absurd hrun (hne id' s')
        | ret => exact ⟨ρ1, tmps1, ds1, w1, .of_steps (.one s_block) g1, sr1, st1⟩
    · cases hc
  | loop c ih =>
    intro ic hc b ir k cs ρ s s' e tmps ds w hrun sr
    simp only [cCode] at hc
    split at hc
    · rename_i ix hx
      cases hc
      simp only [run] at hrun
      obtain ⟨ρ1, tmps1, ds1, w1, g1, sr1, st1⟩ := loop_sound (ih ix hx) b ir k cs lf ρ s s' e tmps ds w hrun sr
      exact ⟨ρ1, tmps1, ds1, w1, .of_steps (.one s_loop) g1, sr1, st1⟩
    · cases hc
  | exit id =>
    intro ic hc b ir k cs ρ s s' e tmps ds w hrun sr
    cases hc
    cases hrun
    exact ⟨ρ, tmps, ds, w, ⟨k, rfl, .refl _ _⟩, sr, .refl _ _ _⟩
  | ret =>
    intro ic hc b ir k cs ρ s s' e tmps ds w hrun sr
    cases hc
    cases hrun
    exact ⟨ρ, tmps, ds, w, ⟨k, .refl _ _⟩, sr, .refl _ _ _⟩
  | rangeFunc f ps x y ihx ihy =>
    intro ic hc b ir k cs ρ s s' e tmps ds w hrun sr
    simp only [cCode] at hc
    obtain ⟨hok, hc⟩ := cond_some hc
    simp only [Bool.and_eq_true] at hok
    split at hc
    · rename_i ix iy hx hy
      cases hc
      exact rfunc_sound hC hok.1 hok.2 hx hy hrun sr
    · cases hc
  | _ => intro ic hc; cases hc

end
end Go.Dv

