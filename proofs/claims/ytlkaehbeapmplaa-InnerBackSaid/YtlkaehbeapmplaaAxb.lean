/- Regions, code, loops, contracts and laws over abstract values, and the rules that a walk goes by. No statement of the program is proved in this text. -/
import Derived.Test.YtlkaehbeapmplaaAxa
import Derived.Laws.Tables
import Derived.Great.BuildSlice
import Derived.Laws.BytesString
import Derived.Lib.Strings
import Derived.LoopN
import Derived.Below
import Derived.KernelRfl
import Derived.WideShapes
import Derived.OpenShut
set_option linter.unusedSimpArgs false
set_option linter.unusedVariables false

/- The operations, one by one: makes, literals, copies, conversions; and all of them. -/
namespace Go.Ax
open Go

section
variable {P : Program} {tt : Tab} {ct : Specs} {st : St} {o : Oper} {K : KV} {B : Bs} {π : PM} {Z : ZM} {w : World} {ρ : Operand → Value}

theorem grown_push (w : World) (ob : Obj) : w.grownBy { w with heap := w.heap.push ob } none :=
  ⟨rfl, rfl, rfl, by simp, fun k hk _ => push_at w ob k hk⟩

/-- A new row. -/
theorem row_new {H : Nat → Option AV} (hg : Good B π Z H w) {nxt : Nat} (hn : π nxt = none) {v : AV} {sh : Sh} {n cap sz : Nat} {e : TypeId} {arr : Array Value} {cs : List Value} (hsh : HasSh v sh) (hr : rowOf v = some (n, sz))
    (hc : Cells π Z (flat v) cs) (ht : arr.toList.take cs.length = cs) (hcap : arr.size = cap * sz) (hnc : n ≤ cap) (hcm : cap ≤ maxLen) (rd : List Nat) :
    After B π Z H nxt (.ow nxt e) ⟨[(nxt, some v)], rd, 1⟩ (.slice (some ⟨w.heap.size, 0, none⟩) n cap) { w with heap := w.heap.push (.cells arr e (0, 0)) } := by
  have hZn : Z w.heap.size = none := by
    cases hz : Z w.heap.size with
    | none => rfl
    | some q => exact absurd (hg.zlt hz) (Nat.lt_irrefl _)
  have hl : cs.length = n * sz := by rw [hc.1, flat_row ⟨sh, hsh⟩ hr]
  exact after_new hg hn v _ _ sh (some (n, cap, e, sz)) _ (fun w' hw' => ⟨hsh, ⟨sh, hsh⟩, hZn, cs, arr, e, hw', ht, hc.ext (setP_ext hn), rfl, hcap, hnc, hcm, hr, hl⟩)
    ((V_sc rfl).2 (.ow nxt _ sh n cap e sz (by simp [setP])))

theorem made_take {z : Array Value} {l c : Nat} (hlc : l ≤ c) (hz : 0 < z.size) : (madeCells z (c * z.size)).toList.take (l * z.size) = (List.range l).flatMap fun _ => z.toList := by
  have h1 : ∀ m, (madeCells z (m * z.size)).toList = (List.range m).flatMap fun _ => z.toList := by
    intro m
    induction m with
    | zero => simp [madeCells]
    | succ m ih =>
      rw [List.range_succ, List.flatMap_append, ← ih]
      apply List.ext_getElem?
      intro i
      simp only [madeCells, Array.toList_map, Array.toList_range, List.getElem?_map, List.flatMap_cons, List.flatMap_nil, List.append_nil]
      by_cases hi : i < m * z.size
      · rw [List.getElem?_append_left (by simpa using hi)]
        simp only [List.getElem?_map]
        rw [List.getElem?_range (by rw [Nat.succ_mul]; omega), List.getElem?_range hi]
      · rw [List.getElem?_append_right (by simp; omega)]
        simp only [List.length_map, List.length_range]
        by_cases hi2 : i < (m + 1) * z.size
        · rw [List.getElem?_range hi2]
          have hlt : i - m * z.size < z.size := by rw [Nat.succ_mul] at hi2; omega
          have hmod : i % z.size = i - m * z.size := by
            have : i = (i - m * z.size) + z.size * m := by rw [Nat.mul_comm z.size m]; omega
            rw [this, Nat.add_mul_mod_self_left, Nat.mod_eq_of_lt hlt, Nat.mul_comm z.size m]; omega
          simp [hmod, hlt]
        · rw [List.getElem?_eq_none (by simp; omega), List.getElem?_eq_none (by rw [Nat.succ_mul] at hi2; simp; omega)]
          rfl
  rw [h1 c]
  have hlen : ∀ m, ((List.range m).flatMap fun _ => z.toList).length = m * z.size := by
    intro m
    rw [← h1 m]; simp [madeCells]
  have hsplit : (List.range c).flatMap (fun _ => z.toList) = (List.range l).flatMap (fun _ => z.toList) ++ (List.range (c - l)).flatMap (fun _ => z.toList) := by
    have e : c = l + (c - l) := by omega
    conv => lhs; rw [e]
    rw [List.range_add, List.flatMap_append, List.flatMap_map]
  rw [hsplit, List.take_append_of_le_length (by rw [hlen]; exact Nat.le_refl _), List.take_of_length_le (by rw [hlen]; exact Nat.le_refl _)]

theorem Cells_rep {l : List AV} {cs : List Value} (h : Cells π Z l cs) (n : Nat) : Cells π Z ((List.range n).flatMap fun _ => l) ((List.range n).flatMap fun _ => cs) := by
  induction n with
  | zero => exact Cells.nil
  | succ n ih => rw [List.range_succ, List.flatMap_append, List.flatMap_append]; exact ih.append (by simpa using h)

theorem len_rep {α : Type} (l : List α) (n : Nat) : ((List.range n).flatMap fun _ => l).length = n * l.length := by
  induction n with
  | zero => simp
  | succ n ih => rw [List.range_succ, List.flatMap_append, List.length_append, ih, Nat.succ_mul]; simp

theorem s_makeSlice (t : TypeId) (l c : Operand) (ho : o.op = .makeSlice t l c) (hT : TabOk P tt) (h : opA tt ct st (.makeSlice t l c) K) : Sound1 P st o K := by
  have hl : l ∈ o.op.operands.toList := by simp [ho, Op.operands]
  have hc : c ∈ o.op.operands.toList := by simp [ho, Op.operands]
  simp only [Chk, Bnd, Str, Kn, Drw, opA] at h
  split at h
  · exact h.elim
  · rename_i e he
    have hu := elemId_eq (P := P) hT he
    split at h
    · rename_i te hti
      have hte := hT _ _ hti
      rw [litN_eq] at h
      split at h
      · rename_i kl ln hle
        split at h
        · rename_i kc cn hce
          obtain ⟨_, ⟨h0, hlc, hby, h63⟩, h⟩ := h
          have main : ∀ (v : AV) (sh : Sh) (sz : Nat), okZ te.zero = true → sizeA te.zero = sz → te.size = sz → 0 < sz → HasSh v sh → rowOf v = some (ln.toNat, sz) → flat v = ((List.range ln.toNat).flatMap fun _ => flat te.zero) →
              K (.ow st.nxt e) ⟨[(st.nxt, some v)], [], 1⟩ → Sound1 P st o K := by
            intro v sh sz hz hsz hts hpos hsh hr hfl hK
            obtain ⟨i, zv, hi, h1, h2, h3, hva, _⟩ := zero_ok hte hz
            refine ⟨_, _, hK, fun B π Z H w ρ hρ hg _ hfr => ?_⟩
            have q1 := hρ l hl
            rw [hle] at q1
            have q2 := hρ c hc
            rw [hce] at q2
            have e1 := (V_int q1).1
            have e2 := (V_int q2).1
            have hrun := run_make (P := P) (w := w) t e i zv hu hi h3 kl kc ln cn h0 hlc (by rw [h2]; exact hby) h63
            have : (execOp ρ o).run P w = .ok (.value (.slice (some ⟨w.heap.size, 0, none⟩) ln.toNat cn.toNat)) (w.alloc (.cells (madeCells zv.cells (cn.toNat * i.size)) e)) := by
              simp [execOp, ho, e1, e2, hrun]
            rw [this]
            obtain ⟨hzw, hzc⟩ := (VA0 (π := π) (Z := Z) hva).cells
            have hzs : zv.cells.size = sz := by
              have := hzc.1
              rw [hzw.size, hsz] at this
              simpa using this
            have hisz : i.size = zv.cells.size := by omega
            rw [hisz]
            have htk := made_take (z := zv.cells) (l := ln.toNat) (c := cn.toNat) (by omega) (by omega)
            have hcc := Cells_rep hzc ln.toNat
            refine row_new hg (hfr _ (Nat.le_refl _) (Nat.lt_succ_self _)) hsh hr (cs := (List.range ln.toNat).flatMap fun _ => zv.cells.toList) (by rw [hfl]; exact hcc) ?_ (by rw [size_madeCells, hzs]) (by omega) (by simp only [maxLen]; omega) []
            rw [len_rep, Array.length_toList]
            exact htk
          split at h
          · rename_i k z hz
            obtain ⟨hs, hK⟩ := h
            have hs := Nat.eq_of_beq_eq_true hs
            refine main (.arr k ln.toNat (List.replicate ln.toNat z)) (.ar k ln.toNat) 1 (by rw [hz]; rfl) (by rw [hz]; rfl) hs Nat.one_pos ⟨rfl, rfl, by simp⟩ rfl ?_ (hK _ rfl)
            rw [hz]
            simp only [flat]
            generalize ln.toNat = m
            induction m with
            | zero => rfl
            | succ m ih => rw [List.range_succ, List.flatMap_append, ← ih, List.replicate_succ']; simp
          · obtain ⟨hs, hK⟩ := h
            simp only [Bool.and_eq_true] at hs
            obtain ⟨⟨s1, s2⟩, s3⟩ := hs
            have s2 := Nat.eq_of_beq_eq_true s2
            obtain ⟨i, zv, hi, h1, h2, h3, hva, hszz⟩ := zero_ok hte s1
            obtain ⟨sh, hsh⟩ := hva.cells.1
            exact main (.seq te.size ln.toNat fun _ => te.zero) (.sq te.size ln.toNat sh) te.size s1 s2.symm rfl (beq0 s3) ⟨rfl, rfl, by rw [← sizeA_eq _ _ hsh]; omega, fun _ _ => hsh⟩ rfl rfl (hK _ rfl)
        · exact h.elim
      · exact h.elim
    · exact h.elim

/-! Literals. -/
theorem fold_cells (off : Nat) (v : Array Value) (cells : Array Value) (h : off + v.size ≤ cells.size) :
    (v.zipIdx.foldl (fun cs (c, j) => cs.setIfInBounds (off + j) c) cells).toList = cells.toList.take off ++ v.toList ++ cells.toList.drop (off + v.size) := by
  have key : ∀ (vs : List Value) (k : Nat) (cells : Array Value), off + k + vs.length ≤ cells.size →
      ((vs.zipIdx k).foldl (fun cs (x : Value × Nat) => cs.setIfInBounds (off + x.2) x.1) cells).toList = cells.toList.take (off + k) ++ vs ++ cells.toList.drop (off + k + vs.length) := by
    intro vs
    induction vs with
    | nil => intro k cells _; simp
    | cons x vs ih =>
      intro k cells h
      simp only [List.zipIdx_cons, List.foldl_cons, List.length_cons] at h ⊢
      rw [ih (k + 1) _ (by simp; omega)]
      simp only [Array.toList_setIfInBounds]
      have hlt : off + k < cells.toList.length := by simp; omega
      rw [List.set_eq_take_append_cons_drop, if_pos hlt]
      have h1 : (List.take (off + k) cells.toList).length = off + k := by simp; omega
      rw [show off + (k + 1) = (List.take (off + k) cells.toList).length + 1 by omega, List.take_length_add_append, List.take_succ_cons, List.take_zero]
      rw [show (List.take (off + k) cells.toList).length + 1 + vs.length = (List.take (off + k) cells.toList).length + (vs.length + 1) by omega, List.drop_length_add_append, List.drop_succ_cons, List.drop_drop]
      simp only [List.append_assoc, List.cons_append, List.nil_append]
      rw [show off + k + 1 + vs.length = off + k + (vs.length + 1) by omega]
  rw [← Array.foldl_toList, Array.toList_zipIdx]
  have := key v.toList 0 cells (by simpa using h)
  simpa using this

/-- Parts laid into a tree's cells. -/
theorem fill_parts {ss : List Sh} (place : Nat → Option (Nat × Nat)) (hplace : ∀ (i : Nat) (s : Sh), ss[i]? = some s → place i = some (Sh.sizes (ss.take i), s.size)) :
    ∀ (q : List (Nat × AV × Value)) (l ys : List AV) (cells : Array Value), (∀ x ∈ q, VA π Z x.2.1 x.2.2) → (∀ x ∈ q, ∀ s, ss[x.1]? = some s → HasSh x.2.1 s) →
      setParts l (q.map fun x => (x.1, x.2.1)) = some ys → HasShs l ss → Cells π Z (flats l) cells.toList →
      ∃ out, Instr.fill place cells (q.map fun x => (x.1, x.2.2)) = some out ∧ Cells π Z (flats ys) out.toList ∧ HasShs ys ss := by
  intro q
  induction q with
  | nil =>
    intro l ys cells _ _ hs hsh hc
    simp only [List.map_nil, setParts, Option.some.injEq] at hs
    subst hs
    exact ⟨cells, rfl, hc, hsh⟩
  | cons x q ih =>
    obtain ⟨i, a, v⟩ := x
    intro l ys cells hv hp hs hsh hc
    simp only [List.map_cons, setParts] at hs
    cases hb : Nat.blt i l.length with
    | false => rw [hb] at hs; cases hs
    | true =>
      rw [hb] at hs
      simp only [cond] at hs
      have hi : i < ss.length := by rw [← hsh.at.1]; simpa [Nat.blt_eq] using hb
      have hsi : ss[i]? = some ss[i] := List.getElem?_eq_getElem hi
      have ha : HasSh a ss[i] := hp (i, a, v) (by simp) _ hsi
      have hva : VA π Z a v := hv (i, a, v) (by simp)
      obtain ⟨pre, post, p1, p2, p3, p4⟩ := flats_at i _ hsh hsi
      obtain ⟨g1, g2⟩ := p4 a ha
      have hmid := flat_len _ _ (hsh.at.2 i _ hsi)
      have hal := flat_len _ _ ha
      have hvc := hva.cells.2
      have hvs : v.cells.size = (ss[i]).size := by have := hvc.1; simp at this; omega
      have hcs : cells.size = pre.length + (ss[i]).size + post.length := by
        have := hc.1; rw [p1] at this; simp only [List.length_append, Array.length_toList] at this; omega
      have hfold := fold_cells (Sh.sizes (ss.take i)) v.cells cells (by omega)
      obtain ⟨out, o1, o2, o3⟩ := ih (l.set i a) ys (v.cells.zipIdx.foldl (fun cs (c, j) => cs.setIfInBounds (Sh.sizes (ss.take i) + j) c) cells) (fun x hx => hv x (by simp [hx])) (fun x hx => hp x (by simp [hx])) hs g1 (by
        rw [hfold, g2]
        have e1 : pre = (flats l).take (Sh.sizes (ss.take i)) := by rw [p1, ← p2, List.append_assoc, List.take_left]
        have e2 : post = (flats l).drop (Sh.sizes (ss.take i) + (ss[i]).size) := by
          rw [p1, ← p2, ← hmid, ← List.length_append, List.drop_left]
        rw [e1, e2, hvs]
        exact ((hc.take _).append hvc).append (hc.drop _))
      refine ⟨out, ?_, o2, o3⟩
      simp only [List.map_cons, Instr.fill, hplace i _ hsi]
      rw [if_neg]
      · exact o1
      · simp only [Bool.or_eq_true, decide_eq_true_eq, not_or, ne_eq, Decidable.not_not]
        omega

theorem parts_eq (ps : List (Nat × Operand)) : parts st ps = ps.map fun x => (x.1, evalA st x.2) := by
  induction ps with
  | nil => rfl
  | cons x l ih => obtain ⟨i, y⟩ := x; simp [parts, ih]

/-- The parts, with their values. -/
def trip (st : St) (ρ : Operand → Value) (ps : List (Nat × Operand)) : List (Nat × AV × Value) := ps.map fun x => (x.1, evalA st x.2, ρ x.2)

theorem partsOk_at : ∀ (fs : List AV) (l : List (Nat × AV)), partsOk fs l → ∀ x ∈ l, shEq (fs.getD x.1 .un) x.2
  | _, [], _, x, hx => by simp at hx
  | fs, (i, v) :: l, h, x, hx => by
    simp only [partsOk] at h
    rcases List.mem_cons.1 hx with rfl | hx
    · exact h.1
    · exact partsOk_at fs l h.2 x hx

theorem trip_ok {ps : List (Nat × Operand)} {fs : List AV} {ss : List Sh} (hv : ∀ x ∈ ps, V π Z (evalA st x.2) (ρ x.2)) (hok : partsOk fs (parts st ps)) (hss : HasShs fs ss) :
    (∀ x ∈ trip st ρ ps, VA π Z x.2.1 x.2.2) ∧ (∀ x ∈ trip st ρ ps, ∀ s, ss[x.1]? = some s → HasSh x.2.1 s) := by
  have hmem : ∀ x ∈ trip st ρ ps, ∃ y ∈ ps, x = (y.1, evalA st y.2, ρ y.2) := by
    intro x hx
    obtain ⟨y, hy, rfl⟩ := List.mem_map.1 hx
    exact ⟨y, hy, rfl⟩
  have hsh : ∀ y ∈ ps, shEq (fs.getD y.1 .un) (evalA st y.2) := by
    intro y hy
    exact partsOk_at fs _ hok (y.1, evalA st y.2) (by rw [parts_eq]; exact List.mem_map.2 ⟨y, hy, rfl⟩)
  have hva : ∀ y ∈ ps, VA π Z (evalA st y.2) (ρ y.2) := by
    intro y hy
    obtain ⟨n1, n2⟩ := shEq_notUn (hsh y hy)
    exact (V_VA n1 n2).1 (hv y hy)
  constructor
  · intro x hx
    obtain ⟨y, hy, rfl⟩ := hmem x hx
    exact hva y hy
  · intro x hx s hs
    obtain ⟨y, hy, rfl⟩ := hmem x hx
    exact shEq_ok _ _ s (hsh y hy) (hss.at.2 y.1 s hs) (hva y hy).cells.1

theorem HasShs_rep {z : AV} {sh : Sh} (h : HasSh z sh) (n : Nat) : HasShs (List.replicate n z) (List.replicate n sh) := by
  induction n with
  | zero => trivial
  | succ n ih => exact ⟨h, ih⟩

theorem sizes_rep (sh : Sh) (n : Nat) : Sh.sizes (List.replicate n sh) = n * sh.size := by
  induction n with
  | zero => simp [Sh.sizes]
  | succ n ih => rw [List.replicate_succ, Sh.sizes, ih, Nat.succ_mul]; omega

theorem place_rep {sh : Sh} {n sz : Nat} (hsz : sh.size = sz) : ∀ (i : Nat) (s : Sh), (List.replicate n sh)[i]? = some s → (fun i => some (i * sz, sz)) i = some (Sh.sizes ((List.replicate n sh).take i), s.size) := by
  intro i s hs
  have hi : i < n := by have := (List.getElem?_eq_some_iff.1 hs).1; simpa using this
  have : s = sh := by
    rw [List.getElem?_replicate, if_pos hi] at hs
    exact (Option.some.inj hs).symm
  subst this
  rw [List.take_replicate, sizes_rep, show min i n = i by omega, hsz]

theorem flats_append : ∀ (l m : List AV), flats (l ++ m) = flats l ++ flats m
  | [], m => by simp [flats]
  | a :: l, m => by simp [flats, flats_append l m]

theorem flats_rep (z : AV) (n : Nat) : flats (List.replicate n z) = (List.range n).flatMap fun _ => flat z := by
  induction n with
  | zero => rfl
  | succ n ih => rw [List.range_succ, List.flatMap_append, ← ih, List.replicate_succ', flats_append]; simp [flats]

theorem flats_seq {ys : List AV} {n sz : Nat} : ys.length = n → flat (.seq sz n fun j => ys.getD j .un) = flats ys := by
  intro h
  subst h
  simp only [flat]
  induction ys with
  | nil => rfl
  | cons a l ih =>
    rw [List.length_cons, List.range_succ_eq_map, List.flatMap_cons, List.flatMap_map, flats]
    congr 1

theorem setInts_parts (k : IntKind) (n : Nat) : ∀ (l : List (Nat × AV)) (xs ys : List Int), xs.length = n → setInts k n xs l = some ys → setParts (xs.map (AV.int k)) l = some (ys.map (AV.int k)) ∧ partsOk (xs.map (AV.int k)) l ∧ ys.length = n
  | [], xs, ys, hx, h => by
    simp only [setInts, Option.some.injEq] at h
    subst h
    exact ⟨rfl, trivial, hx⟩
  | (i, v) :: l, xs, ys, hx, h => by
    cases v <;> simp only [setInts] at h <;> try (cases h; done)
    rename_i k' z
    cases hb : (kEq k k' && Nat.blt i n) with
    | false => rw [hb] at h; cases h
    | true =>
      rw [hb] at h
      simp only [cond] at h
      simp only [Bool.and_eq_true] at hb
      have hk := kEq_eq hb.1
      subst hk
      have hi : i < n := by simpa [Nat.blt_eq] using hb.2
      obtain ⟨h1, h2, h3⟩ := setInts_parts k n l (xs.set i z) ys (by simp [hx]) h
      refine ⟨?_, ?_, h3⟩
      · simp only [setParts, List.length_map, hx, hb.2, cond]
        rw [← List.map_set]; exact h1
      · simp only [partsOk]
        refine ⟨?_, ?_⟩
        · have : (xs.map (AV.int k)).getD i .un = .int k (xs[i]'(by omega)) := by simp [List.getD, hx, hi]
          rw [this]
          exact hb.1
        · have hany : ∀ (m : List (Nat × AV)) (as bs : List Int), as.length = bs.length → partsOk (as.map (AV.int k)) m → partsOk (bs.map (AV.int k)) m := by
            intro m
            induction m with
            | nil => intros; trivial
            | cons y m ihm =>
              obtain ⟨j, u⟩ := y
              intro as bs hab h
              simp only [partsOk] at h ⊢
              refine ⟨?_, ihm as bs hab h.2⟩
              by_cases hj : j < as.length
              · have e1 : (as.map (AV.int k)).getD j .un = .int k as[j] := by simp [List.getD, hj]
                have e2 : (bs.map (AV.int k)).getD j .un = .int k (bs[j]'(by omega)) := by simp [List.getD, show j < bs.length by omega]
                rw [e1] at h; rw [e2]
                cases u <;> simpa [shEq] using h.1
              · have e1 : (as.map (AV.int k)).getD j .un = .un := by simp [List.getD, List.getElem?_eq_none (show as.length ≤ j by omega)]
                rw [e1] at h
                exact absurd h.1 (by cases u <;> simp [shEq])
          exact hany l (xs.set i z) xs (by simp) h2

end
end Go.Ax

/- The operations, one by one: literals, copies, conversions; then all of them. -/
namespace Go.Ax
open Go

section
variable {P : Program} {tt : Tab} {ct : Specs} {st : St} {o : Oper} {K : KV} {B : Bs} {π : PM} {Z : ZM} {w : World} {ρ : Operand → Value}

theorem fieldsOk_at (hT : TabOk P tt) : ∀ (fds : List Field) (fs : List AV) (off : Nat) (ss : List Sh), buildA.fieldsOk tt fds fs off = true → HasShs fs ss →
    ∃ places, fds.mapM (fun f => (P.info? f.type).map fun i => (f.offset, i.size)) = some places ∧ ∀ (i : Nat) (s : Sh), ss[i]? = some s → places[i]? = some (off + Sh.sizes (ss.take i), s.size)
  | [], [], off, ss, _, hs => by
    cases ss <;> simp only [HasShs] at hs
    exact ⟨[], rfl, fun i s h => by simp at h⟩
  | f :: fds, v :: vs, off, ss, h, hs => by
    cases ss <;> simp only [HasShs] at hs
    rename_i s ss
    simp only [Chk, Bnd, Str, Kn, Drw, buildA.fieldsOk, Bool.and_eq_true] at h
    obtain ⟨⟨h1, h2⟩, h3⟩ := h
    split at h2
    · rename_i ti hti
      obtain ⟨i, hi, his, _⟩ := (hT _ _ hti).info
      obtain ⟨places, p1, p2⟩ := fieldsOk_at hT fds vs _ ss h3 hs.2
      have e1 := Nat.eq_of_beq_eq_true h1
      have e2 := Nat.eq_of_beq_eq_true h2
      have e3 := sizeA_eq v s hs.1
      refine ⟨(f.offset, i.size) :: places, by simp [hi, p1], fun j t hj => ?_⟩
      cases j with
      | zero =>
        simp at hj; subst hj
        simp [Sh.sizes, e1, his, e2, e3]
      | succ j =>
        simp only [List.getElem?_cons_succ] at hj ⊢
        rw [p2 j t hj, List.take_succ_cons, Sh.sizes, e3, Nat.add_assoc]
    · cases h2
  | [], _ :: _, _, _, h, _ => by simp [buildA.fieldsOk] at h
  | _ :: _, [], _, _, h, _ => by simp [buildA.fieldsOk] at h

theorem trip_fst (ps : List (Nat × Operand)) : (trip st ρ ps).map (fun x => (x.1, x.2.1)) = parts st ps := by
  rw [parts_eq, trip, List.map_map]; rfl
theorem trip_snd (ps : List (Nat × Operand)) : (trip st ρ ps).map (fun x => (x.1, x.2.2)) = ps.map fun x => (x.1, ρ x.2) := by
  rw [trip, List.map_map]; rfl

theorem ints_sh (k : IntKind) : ∀ xs : List Int, HasShs (xs.map (AV.int k)) (List.replicate xs.length (.num k))
  | [] => trivial
  | _ :: xs => ⟨rfl, ints_sh k xs⟩

theorem flats_ints (k : IntKind) (n : Nat) (zs : List Int) : flats (zs.map (AV.int k)) = flat (.arr k n zs) := by
  simp only [flat]
  induction zs with
  | nil => rfl
  | cons z zs ih => simp [flats, flat, ih]

theorem s_build (t : TypeId) (ps : Array (Nat × Operand)) (ho : o.op = .build t ps) (hT : TabOk P tt) (h : opA tt ct st (.build t ps) K) : Sound1 P st o K := by
  have hmem : ∀ x ∈ ps.toList, x.2 ∈ o.op.operands.toList := by
    intro x hx
    simp only [ho, Op.operands]
    exact List.mem_map.2 ⟨x, hx, rfl⟩
  have hex : ∀ (w : World) (ρ : Operand → Value) (cells : Array Value), P.built t (ps.toList.map fun x => (x.1, ρ x.2)) = some cells → (execOp ρ o).run P w = .ok (.value (.agg cells)) w := by
    intro w ρ cells hb
    have e : (ps.map fun x => (x.1, ρ x.2)).toList = ps.toList.map fun x => (x.1, ρ x.2) := by simp
    have := run_build (P := P) w t (ps.map fun x => (x.1, ρ x.2)) cells (by rw [e]; exact hb)
    simp only [execOp, ho, Sem.run_bind]
    have e2 : (ps.map fun (x : Nat × Operand) => match x with | (i, x) => (i, ρ x)) = ps.map fun x => (x.1, ρ x.2) := by
      congr 1
    rw [e2, this]
    rfl
  simp only [Chk, Bnd, Str, Kn, Drw, opA, buildA] at h
  split at h
  · rename_i fds sz1 b1 fs q1 hti
    have hty := hT _ _ hti
    obtain ⟨i, zv, hi, h1, h2, h3, hva, _⟩ := zero_ok hty rfl
    split at h
    · rename_i gs hgs
      obtain ⟨hf, hpo, hK⟩ := h
      refine ⟨_, _, hK, fun B π Z H w ρ hρ hg _ _ => ?_⟩
      obtain ⟨⟨s, hs⟩, hzc⟩ := (VA0 (π := π) (Z := Z) hva).cells
      obtain ⟨ss, rfl, hss⟩ := st_sh hs
      obtain ⟨places, p1, p2⟩ := fieldsOk_at (P := P) hT _ _ 0 ss hf hss
      obtain ⟨t1, t2⟩ := trip_ok (π := π) (Z := Z) (ρ := ρ) (ps := ps.toList) (fun x hx => hρ _ (hmem x hx)) hpo hss
      obtain ⟨out, o1, o2, o3⟩ := fill_parts (places.toArray[·]?) (fun i s hs => by simpa using p2 i s hs) (trip st ρ ps.toList) fs gs zv.cells t1 t2 (by rw [trip_fst]; exact hgs) hss (by simpa [flat] using hzc)
      rw [trip_snd] at o1
      rw [hex w ρ out (by simp only [Program.built, hi, hty.und, h3, p1]; exact o1)]
      exact after_no hg (VA_V (VA.of_cells (cs := out.toList) ⟨.st ss, o3⟩ rfl (by simpa [flat] using o2)))
    · exact h.elim
  · rename_i len e sz1 b1 k n xs q1 hti
    have hty := hT _ _ hti
    obtain ⟨i, zv, hi, h1, h2, h3, hva, _⟩ := zero_ok hty rfl
    split at h
    · rename_i ys hys
      obtain ⟨hbe, hK⟩ := h
      refine ⟨_, _, hK, fun B π Z H w ρ hρ hg _ _ => ?_⟩
      obtain ⟨hw, hzc⟩ := (VA0 (π := π) (Z := Z) hva).cells
      have hl := arr_len hw
      obtain ⟨g1, g2, g3⟩ := setInts_parts k n _ xs ys hl hys
      have hss : HasShs (xs.map (AV.int k)) (List.replicate n (.num k)) := by
        rw [← hl]
        exact ints_sh k xs
      obtain ⟨t1, t2⟩ := trip_ok (π := π) (Z := Z) (ρ := ρ) (ps := ps.toList) (fun x hx => hρ _ (hmem x hx)) g2 hss
      have hflat : ∀ zs : List Int, flats (zs.map (AV.int k)) = flat (.arr k n zs) := by
        intro zs
        simp only [flat]
        induction zs with
        | nil => rfl
        | cons z zs ih => simp [flats, flat, ih]
      split at hbe
      · rename_i te hte
        obtain ⟨j, hj, hjs, _⟩ := (hT _ _ hte).info
        have e2 := Nat.eq_of_beq_eq_true hbe
        obtain ⟨out, o1, o2, o3⟩ := fill_parts (fun i => some (i * 1, 1)) (place_rep (sh := .num k) (n := n) rfl) (trip st ρ ps.toList) _ _ zv.cells t1 t2 (by rw [trip_fst]; exact g1) hss (by rw [hflat]; exact hzc)
        rw [trip_snd] at o1
        rw [hex w ρ out (by simp only [Program.built, hi, hty.und, h3, hj, hjs, e2]; exact o1)]
        exact after_no hg (VA_V (VA.of_cells (cs := out.toList) ⟨.ar k n, rfl, rfl, g3⟩ rfl (by rw [← hflat]; exact o2)))
      · cases hbe
    · exact h.elim
  · exact h.elim

theorem run_buildSlice0 {t e : TypeId} {ie : TypeInfo} (hu : P.underlying t = some (.slice e)) (hi : P.info? e = some ie) : (Instr.buildSlice t 0 #[]).run P w = .ok (.slice (some ⟨w.heap.size, 0, none⟩) 0 0) (w.alloc (.cells #[] e)) := by
  have h0 : (Array.range 0).map (fun _ => (default : Value)) = #[] := Array.eq_empty_of_size_eq_zero (by simp)
  simp [Instr.buildSlice, run_underlying hu, sizeOf, typeInfo, hi, newRow, Instr.fill]
  rw [h0]

theorem s_buildSlice (t : TypeId) (len : Nat) (ps : Array (Nat × Operand)) (ho : o.op = .buildSlice t len ps) (hT : TabOk P tt) (h : opA tt ct st (.buildSlice t len ps) K) : Sound1 P st o K := by
  have hmem : ∀ x ∈ ps.toList, x.2 ∈ o.op.operands.toList := by
    intro x hx
    simp only [ho, Op.operands]
    exact List.mem_map.2 ⟨x, hx, rfl⟩
  have main : ∀ (e : TypeId) (te : TI) (sz : Nat) (sh : Sh) (v : AV) (l ys : List AV), P.underlying t = some (.slice e) → TyOk P e te → okZ te.zero = true → te.size = sz → sizeA te.zero = sz → 0 < sz → len * sz ≤ 16777216 →
      l = List.replicate len te.zero → setParts l (parts st ps.toList) = some ys → partsOk l (parts st ps.toList) → (∀ ss, HasShs ys ss → ss = List.replicate len sh → ∃ s, HasSh v s) → (HasSh te.zero sh) → rowOf v = some (len, sz) → flat v = flats ys →
      K (.ow st.nxt e) ⟨[(st.nxt, some v)], [], 1⟩ → Sound1 P st o K := by
    intro e te sz sh v l ys hu hte hz hts hsz hpos hsm hl hset hpo hv hshz hr hfl hK
    obtain ⟨i, zv, hi, h1, h2, h3, hva, _⟩ := zero_ok hte hz
    refine ⟨_, _, hK, fun B π Z H w ρ hρ hg _ hfr => ?_⟩
    have hss : HasShs l (List.replicate len sh) := by rw [hl]; exact HasShs_rep hshz len
    obtain ⟨t1, t2⟩ := trip_ok (π := π) (Z := Z) (ρ := ρ) (ps := ps.toList) (fun x hx => hρ _ (hmem x hx)) hpo hss
    obtain ⟨hzw, hzc⟩ := (VA0 (π := π) (Z := Z) hva).cells
    have hzs : zv.cells.size = sz := by
      have := hzc.1
      rw [hzw.size, hsz] at this
      simpa using this
    have hshs : sh.size = sz := by rw [← sizeA_eq _ _ hshz, hsz]
    have hmade : (madeCells zv.cells (len * i.size)).toList = (List.range len).flatMap fun _ => zv.cells.toList := by
      have := made_take (z := zv.cells) (l := len) (c := len) (Nat.le_refl _) (by omega)
      rw [show i.size = zv.cells.size by omega, ← this, List.take_of_length_le]
      simp [size_madeCells]
    obtain ⟨out, o1, o2, o3⟩ := fill_parts (fun i => some (i * sz, sz)) (place_rep (sh := sh) (n := len) hshs) (trip st ρ ps.toList) l ys (madeCells zv.cells (len * i.size)) t1 t2 (by rw [trip_fst]; exact hset) hss
      (by rw [hmade, hl, flats_rep]; exact Cells_rep hzc len)
    rw [trip_snd] at o1
    obtain ⟨s, hs⟩ := hv _ o3 rfl
    have hlen : out.size = len * sz := by
      have := o2.1
      rw [← hfl, flat_row ⟨s, hs⟩ hr] at this
      simpa using this
    have hmx : len ≤ 16777216 := by
      have : len * 1 ≤ len * sz := Nat.mul_le_mul_left _ hpos
      omega
    have hrun : (execOp ρ o).run P w = .ok (.value (.slice (some ⟨w.heap.size, 0, none⟩) len len)) (w.alloc (.cells out e)) := by
      by_cases h0 : len = 0
      · subst h0
        have hout : out = #[] := by
          have : out.size = 0 := by omega
          exact Array.eq_empty_of_size_eq_zero this
        have hps : ps.toList = [] := by
          cases hq : ps.toList with
          | nil => rfl
          | cons x q =>
            rw [hq] at hset
            obtain ⟨i, y⟩ := x
            simp only [hl, parts, setParts, List.replicate_zero, List.length_nil] at hset
            exact absurd hset (by show ¬ (none : Option (List AV)) = some ys; simp)
        have hps' : ps = #[] := by cases ps; simp at hps; rw [hps]
        subst hout; subst hps'
        have := run_buildSlice0 (P := P) (w := w) hu hi
        simp [execOp, ho, this]
      · have := run_buildSlice (P := P) w t e len (ps.map fun x => (x.1, ρ x.2)) out i zv hu hi h3 (by rw [h1, hts]; omega) (by
            rw [h1, hts]
            intro hz
            rcases Nat.mul_eq_zero.1 hz with h | h <;> omega) (by
            have e : (ps.map fun x => (x.1, ρ x.2)).toList = ps.toList.map fun x => (x.1, ρ x.2) := by simp
            rw [e]
            have e3 : i.size = sz := by omega
            rw [e3] at o1 ⊢
            exact o1)
        simp only [execOp, ho, Sem.run_bind, this]
        rfl
    rw [hrun]
    exact row_new hg (hfr _ (Nat.le_refl _) (Nat.lt_succ_self _)) hs hr (cs := out.toList) (by rw [hfl]; exact o2) (by rw [Array.length_toList, List.take_of_length_le (by simp)]) hlen (Nat.le_refl _) (by simp only [maxLen]; omega) []
  simp only [Chk, Bnd, Str, Kn, Drw, opA] at h
  split at h
  · exact h.elim
  · rename_i e he
    have hu := elemId_eq (P := P) hT he
    split at h
    · rename_i te hti
      have hte := hT _ _ hti
      split at h
      · rename_i k z hz
        split at h
        · rename_i ys hys
          obtain ⟨hc, hK⟩ := h
          simp only [Bool.and_eq_true] at hc
          have c1 := Nat.eq_of_beq_eq_true hc.1
          have c2 := Nat.le_of_ble_eq_true hc.2
          obtain ⟨g1, g2, g3⟩ := setInts_parts k len _ _ ys (by simp) hys
          have hrep : (List.replicate len z).map (AV.int k) = List.replicate len te.zero := by rw [hz]; simp
          rw [hrep] at g1 g2
          exact main e te 1 (.num k) (.arr k len ys) _ _ hu hte (by rw [hz]; rfl) c1 (by rw [hz]; rfl) Nat.one_pos (by omega) rfl g1 g2 (fun _ _ _ => ⟨.ar k len, rfl, rfl, g3⟩) (by rw [hz]; rfl) rfl (flats_ints k len ys).symm hK
        · exact h.elim
      · split at h
        · rename_i ys hys
          obtain ⟨hc, hpo, hK⟩ := h
          simp only [Bool.and_eq_true] at hc
          obtain ⟨⟨⟨c1, c2⟩, c3⟩, c4⟩ := hc
          have c2 := Nat.eq_of_beq_eq_true c2
          have c3 := Nat.le_of_ble_eq_true c3
          obtain ⟨i, zv, hi, h1, h2, h3, hva, hszz⟩ := zero_ok hte c1
          obtain ⟨sh, hsh⟩ := hva.cells.1
          have hss : HasShs (List.replicate len te.zero) (List.replicate len sh) := HasShs_rep hsh len
          have hlen : ys.length = len := by
            have : ∀ (l : List (Nat × AV)) (xs zs : List AV), setParts xs l = some zs → zs.length = xs.length := by
              intro l
              induction l with
              | nil => intro xs zs h; simp only [setParts, Option.some.injEq] at h; rw [h]
              | cons x l ih =>
                obtain ⟨j, a⟩ := x
                intro xs zs h
                simp only [setParts] at h
                cases hb : Nat.blt j xs.length with
                | false => rw [hb] at h; cases h
                | true => rw [hb] at h; simpa using ih _ _ h
            simpa using this _ _ _ hys
          refine main e te te.size sh (.seq te.size len fun j => ys.getD j .un) _ _ hu hte c1 rfl c2.symm (beq0 c4) c3 rfl hys hpo (fun ss h1 h2 => ?_) hsh rfl (flats_seq hlen) hK
          subst h2
          refine ⟨.sq te.size len sh, rfl, rfl, by rw [← sizeA_eq _ _ hsh]; omega, fun j hj => ?_⟩
          exact h1.at.2 j sh (by rw [List.getElem?_replicate, if_pos hj])
        · exact h.elim
    · exact h.elim

theorem s_makeInterface (t : TypeId) (x : Operand) (ho : o.op = .makeInterface t x) (hT : TabOk P tt) (h : opA tt ct st (.makeInterface t x) K) : Sound1 P st o K := by
  have hx : x ∈ o.op.operands.toList := by simp [ho, Op.operands]
  simp only [Chk, Bnd, Str, Kn, Drw, opA] at h
  split at h
  · rename_i ti hti
    have hu := (hT _ _ hti).und
    split at h
    · exact h.elim
    · rename_i hni
      obtain ⟨hc, hK⟩ := h
      simp only [Bool.and_eq_true, Bool.not_eq_true'] at hc
      obtain ⟨n1, n2⟩ := okV_ok hc.2
      refine ⟨_, _, hK, fun B π Z H w ρ hρ hg _ _ => ?_⟩
      have h1 := (V_VA n1 n2).1 (hρ x hx)
      unfold VA at h1
      rw [hc.1] at h1
      simp only [Bool.false_eq_true, if_false] at h1
      have : (execOp ρ o).run P w = .ok (.value (.iface t (ρ x))) w := by
        simp only [execOp, ho, Instr.makeInterface, Sem.run_bind, run_underlying hu, Result.andThen_ok]
        rfl
      rw [this]
      exact after_no hg ((V_sc rfl).2 (.ifc t _ _ h1))
  · exact h.elim

theorem two_ints {args : List Operand} {k k' : IntKind} {a b : Int} (h : evals st args = [.int k a, .int k' b]) : ∃ x y, args = [x, y] ∧ evalA st x = .int k a ∧ evalA st y = .int k' b := by
  match args with
  | [] => simp [evals] at h
  | [x] => simp [evals] at h
  | [x, y] => simp only [evals, List.cons.injEq, and_true] at h; exact ⟨x, y, rfl, h.1, h.2⟩
  | _ :: _ :: _ :: _ => simp [evals] at h

theorem s_min (c : Call) (ho : o.op = .call c) (hc : c.callee = .builtin .min) (h : opA tt ct st (.call c) K) : Sound1 P st o K := by
  obtain ⟨callee, args, ats⟩ := c
  simp only at hc; subst hc
  simp only [Chk, Bnd, Str, Kn, Drw, opA] at h
  split at h
  · rename_i k a k' b hev
    obtain ⟨hk, hK⟩ := h
    have := kEq_eq hk
    subst this
    obtain ⟨x, y, hargs, hx, hy⟩ := two_ints hev
    have := list_two hargs
    subst this
    have mx : x ∈ o.op.operands.toList := by simp [ho, Op.operands, Call.operands]
    have my : y ∈ o.op.operands.toList := by simp [ho, Op.operands, Call.operands]
    refine ⟨_, _, hK, fun B π Z H w ρ hρ hg _ _ => ?_⟩
    have q1 := hρ x mx
    have q2 := hρ y my
    rw [hx] at q1; rw [hy] at q2
    obtain ⟨e1, r1⟩ := V_int q1
    obtain ⟨e2, r2⟩ := V_int q2
    have : (execOp ρ o).run P w = .ok (.value (.int k (min a b))) w := by
      simp [execOp, ho, resolve, invoke, builtin, Builtin.min_, Builtin.min2, e1, e2]
      rw [Int.min_def]; split <;> split <;> omega
    rw [this]
    exact after_no hg (V_mk_int (rng_min _ _ _ r1 r2))
  · exact h.elim

theorem s_max (c : Call) (ho : o.op = .call c) (hc : c.callee = .builtin .max) (h : opA tt ct st (.call c) K) : Sound1 P st o K := by
  obtain ⟨callee, args, ats⟩ := c
  simp only at hc; subst hc
  simp only [Chk, Bnd, Str, Kn, Drw, opA] at h
  split at h
  · rename_i k a k' b hev
    obtain ⟨hk, hK⟩ := h
    have := kEq_eq hk
    subst this
    obtain ⟨x, y, hargs, hx, hy⟩ := two_ints hev
    have := list_two hargs
    subst this
    have mx : x ∈ o.op.operands.toList := by simp [ho, Op.operands, Call.operands]
    have my : y ∈ o.op.operands.toList := by simp [ho, Op.operands, Call.operands]
    refine ⟨_, _, hK, fun B π Z H w ρ hρ hg _ _ => ?_⟩
    have q1 := hρ x mx
    have q2 := hρ y my
    rw [hx] at q1; rw [hy] at q2
    obtain ⟨e1, r1⟩ := V_int q1
    obtain ⟨e2, r2⟩ := V_int q2
    have : (execOp ρ o).run P w = .ok (.value (.int k (max a b))) w := by
      simp [execOp, ho, resolve, invoke, builtin, Builtin.max_, Builtin.max2, e1, e2]
      rw [Int.max_def]; split <;> split <;> omega
    rw [this]
    exact after_no hg (V_mk_int (rng_max _ _ _ r1 r2))
  · exact h.elim

theorem ofBs_fold (xs : List Int) : xs.foldl (fun r n => r.push (UInt8.ofNat n.toNat)) ByteArray.empty = ofBs xs := by
  have key : ∀ (xs : List Int) (b : ByteArray), xs.foldl (fun r n => r.push (UInt8.ofNat n.toNat)) b = ⟨b.data ++ (xs.map fun n => UInt8.ofNat n.toNat).toArray⟩ := by
    intro xs
    induction xs with
    | nil => intro b; simp
    | cons x xs ih =>
      intro b
      simp only [List.foldl_cons, ih, List.map_cons]
      congr 1
      apply Array.ext'
      simp [ByteArray.push]
  rw [key]; simp [ofBs]

theorem ofBs_size (xs : List Int) : (ofBs xs).size = xs.length := by simp [ofBs, ByteArray.size]

end
end Go.Ax

/- The operations, one by one: conversions, copies; then all of them. -/
namespace Go.Ax
open Go

section
variable {P : Program} {tt : Tab} {ct : Specs} {st : St} {o : Oper} {K : KV} {B : Bs} {π : PM} {Z : ZM} {w : World} {ρ : Operand → Value}

def setZ (Z : ZM) (b : Nat) (ob : Obj) : ZM := fun j => if j = b then some ob else Z j

/-- A new block that stays as it is. -/
theorem good_newZ {H : Nat → Option AV} (hg : Good B π Z H w) (ob : Obj) (n : Nat) :
    Good B π (setZ Z w.heap.size ob) H { w with heap := w.heap.push ob, drawn := n } ∧ Ext π π Z (setZ Z w.heap.size ob) := by
  have hZn : ∀ o, Z w.heap.size ≠ some o := fun q hz => absurd (hg.zlt hz) (Nat.lt_irrefl _)
  have hx : Ext π π Z (setZ Z w.heap.size ob) := ⟨fun _ _ h => h, fun b o h => by
    unfold setZ
    split
    · rename_i e; subst e; exact absurd h (hZn o)
    · exact h⟩
  refine ⟨hg.step hx rfl rfl rfl (by simp) (fun b o h => ?_) (fun id v h => .inl ⟨h, fun b sh r hp => ?_⟩) (fun i j v u b s r s' r' => hg.apart i j v u b s r s' r') (fun b o h => by
    unfold setZ at h
    split at h
    · rename_i e; exact .inr (by omega)
    · exact .inl h) (fun j b s r h => .inr ⟨j, s, r, h⟩) (fun b hb _ => push_at w ob b hb), hx⟩
  · unfold setZ at h
    split at h
    · rename_i e; subst e; cases h; simp
    · show (w.heap.push ob)[b]? = _
      rw [push_at _ _ _ (hg.zlt h)]
      exact hg.zin b o h
  · have hlt := hg.lt h hp
    refine ⟨push_at w ob b hlt, ?_⟩
    unfold setZ
    rw [if_neg (by omega)]
    obtain ⟨l, hl, hok⟩ := hg.objs id v h
    rw [hp] at hl; cases hl
    exact hok.2.2.1

/-- A row that is sealed: from now on it is read alone. -/
theorem good_seal {H : Nat → Option AV} (hg : Good B π Z H w) {id b : Nat} {v : AV} {sh : Sh} {r} {arr : Array Value} {e : TypeId} (hH : H id = some v) (hp : π id = some (.at b sh r)) (hb : w.heap[b]? = some (.cells arr e (0, 0))) :
    Good B π (setZ Z b (.cells arr e (arr.size, arr.size + 1))) (hup H [(id, none)]) (w.freeze ⟨b, arr.size, none⟩ 1) ∧ Ext π π Z (setZ Z b (.cells arr e (arr.size, arr.size + 1))) := by
  have hZb : Z b = none := by
    obtain ⟨l, hl, hok⟩ := hg.objs id v hH
    rw [hp] at hl; cases hl
    exact hok.2.2.1
  have hx : Ext π π Z (setZ Z b (.cells arr e (arr.size, arr.size + 1))) := ⟨fun _ _ h => h, fun j o h => by
    unfold setZ
    split
    · rename_i q; subst q; rw [hZb] at h; cases h
    · exact h⟩
  have hat : (w.freeze ⟨b, arr.size, none⟩ 1).heap[b]? = some (.cells arr e (arr.size, arr.size + 1)) := by
    simp [World.freeze, Array.getElem?_modify, hb]
  have hne : ∀ j, j ≠ b → (w.freeze ⟨b, arr.size, none⟩ 1).heap[j]? = w.heap[j]? := by
    intro j hj
    simp [World.freeze, Array.getElem?_modify, Ne.symm hj]
  have hH' : ∀ j u, hup H [(id, none)] j = some u → j ≠ id ∧ H j = some u := by
    intro j u h
    rw [hup_one] at h
    split at h
    · cases h
    · exact ⟨by assumption, h⟩
  refine ⟨⟨hg.os, hg.tape, hg.output, ?_, fun j o h => ?_, fun j u h => ?_, fun i j u u' q s r s' r' hij hi hj => hg.apart i j u u' q s r s' r' hij (hH' i u hi).2 (hH' j u' hj).2, fun j o h => ?_, hg.mine, fun j hj hn => ?_⟩, hx⟩
  · have : (w.freeze ⟨b, arr.size, none⟩ 1).heap.size = w.heap.size := by simp [World.freeze]
    rw [this]; exact hg.size
  · unfold setZ at h
    split at h
    · rename_i q; subst q; cases h; exact hat
    · rename_i q; rw [hne j q]; exact hg.zin j o h
  · obtain ⟨hji, hj⟩ := hH' j u h
    obtain ⟨l, hl, hok⟩ := hg.objs j u hj
    refine ⟨l, hl, hok.step hx fun b' sh' r' q => ?_⟩
    subst q
    have hbb : b' ≠ b := fun q => by subst q; exact hg.apart j id u v b' sh' r' sh r hji hj hH hl hp
    refine ⟨hne b' hbb, ?_⟩
    unfold setZ
    rw [if_neg hbb]
    exact hok.2.2.1
  · unfold setZ at h
    split at h
    · rename_i q; subst q
      rcases hg.mine id j sh r hp with h1 | h1
      · exact .inl (.inr h1)
      · exact .inr h1
    · exact hg.zs j o h
  · by_cases q : j = b
    · subst q
      rcases hg.mine id j sh r hp with h1 | h1
      · exact absurd h1 hn
      · omega
    · rw [hne j q]; exact hg.keep j hj hn

theorem cells_ints {k : IntKind} {n : Nat} {xs : List Int} {cs : List Value} (hw : WfA (.arr k n xs)) (h : Cells π Z (xs.map (.int k)) cs) : cs = xs.map (Value.int k) ∧ ∀ x ∈ xs, rng k x := by
  have hv : VA π Z (.arr k n xs) (.agg cs.toArray) := VA.of_cells hw rfl (by simpa [flat] using h)
  obtain ⟨e, _, hr⟩ := arr_inv hv
  refine ⟨?_, hr⟩
  have := congrArg Value.cells e
  simpa [Value.cells] using this

theorem bs_len (s : ByteArray) : (bsA s).length = s.size := by simp [bsA]

theorem rng_bs (s : ByteArray) : ∀ x ∈ bsA s, rng .u8 x := by
  intro x hx
  simp only [bsA, List.mem_map] at hx
  obtain ⟨b, _, rfl⟩ := hx
  have := b.toNat_lt
  simp only [rng]; omega

theorem push_modify {α : Type} (a : Array α) (x : α) (f : α → α) : (a.push x).modify a.size f = a.push (f x) := by
  apply Array.ext
  · simp
  · intro i h1 h2
    rw [Array.getElem_modify]
    by_cases h : a.size = i
    · subst h; simp
    · have hi : i < a.size := by simp at h2; omega
      rw [if_neg h, Array.getElem_push_lt hi, Array.getElem_push_lt hi]

theorem run_stringToBytes (e : TypeId) (s : ByteArray) (hs : s.size ≤ 140737488355328) : ∃ cap arr, s.size ≤ cap ∧ cap ≤ maxLen ∧ (∀ (i : Nat) (x : Int), (bsA s)[i]? = some x → arr[i]? = some (Value.int .u8 x)) ∧
    (Conv.stringToBytes e s).run P w = .ok (.slice (some ⟨w.heap.size, 0, none⟩) s.size cap) { w with heap := w.heap.push (.cells arr e (arr.size, arr.size + 1)), drawn := w.drawn + 1 } := by
  let t := w.tape w.drawn (.appendCap s.size 0 e)
  let cap := (Question.appendCap s.size 0 e).cut t
  have hcap : cap = s.size + t % (2 ^ 63 - s.size) := rfl
  have hmod : t % (2 ^ 63 - s.size) < 2 ^ 63 - s.size := Nat.mod_lt _ (by omega)
  refine ⟨cap, s.data.map (fun b => Value.int .u8 b.toNat) ++ Array.replicate (cap - s.size) (.int .u8 0), by omega, by simp only [maxLen]; omega, fun i x hx => ?_, ?_⟩
  · have hi : i < s.data.size := by have := (List.getElem?_eq_some_iff.1 hx).1; simpa [bsA] using this
    rw [Array.getElem?_append_left (by simpa using hi)]
    simp [bsA] at hx
    obtain ⟨a, ha, rfl⟩ := hx
    simp [ha]
  · have hz : (Question.appendCap s.size 0 e).forced = false := rfl
    simp only [Conv.stringToBytes, choose, Sem.run_bind, Sem.run, hz, Bool.false_eq_true, if_false, Result.andThen_ok, newRow, newObj, markStringish, shape, World.shape?, freeze]
    simp [Sem.run, World.freeze, push_modify]
    exact ⟨rfl, rfl⟩

theorem isU8 {e : TypeId} {n m : Nat} {z : AV} {q : Bool} (hT : TabOk P tt) (h : tyOf tt e = some ⟨.int .u8, n, m, z, q⟩) : P.underlying e = some (.int .u8) := (hT _ _ h).und

theorem s_convert (src dst : TypeId) (x : Operand) (ho : o.op = .convert src dst x) (hT : TabOk P tt) (h : opA tt ct st (.convert src dst x) K) : Sound1 P st o K := by
  have hx : x ∈ o.op.operands.toList := by simp [ho, Op.operands]
  have hex : ∀ (w w' : World) (ρ : Operand → Value) (r : Value), (convert src dst (ρ x)).run P w = .ok r w' → (execOp ρ o).run P w = .ok (.value r) w' := by
    intro w w' ρ r hr
    simp [execOp, ho, hr]
  simp only [Chk, Bnd, Str, Kn, Drw, opA, convA] at h
  split at h
  · -- to a number
    rename_i k _ _ _ _ hti
    have hd := (hT _ _ hti).und
    split at h
    · rename_i k' n he
      obtain ⟨hs, hK⟩ := h
      obtain ⟨ts, hts⟩ := Option.isSome_iff_exists.1 hs
      have hsu := (hT _ _ hts).und
      refine ⟨_, _, hK _ rfl (rng_wrap _ _), fun B π Z H w ρ hρ hg _ _ => ?_⟩
      have h1 := hρ x hx
      rw [he] at h1
      have e1 := (V_int h1).1
      rw [hex w w ρ (.int k (k.wrap n)) (by rw [e1]; simp [convert, run_underlying hsu, run_underlying hd, Conv.intToInt])]
      exact after_no hg (V_mk_int (rng_wrap _ _))
    · exact h.elim
  · -- to a string
    rename_i _ _ _ _ hti
    have hd := (hT _ _ hti).und
    split at h
    · rename_i s he
      obtain ⟨hs, hK⟩ := h
      have hsu := isStr_ok hT hs
      refine ⟨_, _, hK, fun B π Z H w ρ hρ hg _ _ => ?_⟩
      have h1 := hρ x hx
      rw [he] at h1
      obtain ⟨e1, e2⟩ := V_str h1
      rw [hex w w ρ (.string s) (by rw [e1]; simp [convert, run_underlying hsu, run_underlying hd])]
      exact after_no hg ((V_sc rfl).2 (.str s e2))
    · rename_i he
      split at h
      · rename_i e _ _ _ _ hti2
        split at h
        · rename_i _ _ _ _ hti3
          have hsu := (hT _ _ hti2).und
          have heu := isU8 hT hti3
          refine ⟨_, _, h, fun B π Z H w ρ hρ hg _ _ => ?_⟩
          have h1 := hρ x hx
          rw [he] at h1
          have h2 := (V_sc rfl).1 h1
          generalize hpu : ρ x = u at h2
          cases h2
          rw [hex w w ρ (.string (ofBs [])) (by rw [hpu]; simp [convert, run_underlying hsu, run_underlying hd, run_underlying heu, Conv.bytesToString]; rfl)]
          exact after_no hg ((V_sc rfl).2 (.str _ (by rw [ofBs_size]; simp [maxLen])))
        · exact h.elim
      · exact h.elim
    · rename_i n1 n2
      split at h
      · rename_i e _ _ _ _ hti2
        split at h
        · rename_i _ _ _ _ hti3
          have hsu := (hT _ _ hti2).und
          have heu := isU8 hT hti3
          obtain ⟨k, n, xs, rd, ⟨hk, hK⟩, hrow⟩ := rowI_inv h
          have := kEq_eq hk
          subst this
          refine ⟨_, _, hK, fun B π Z H w ρ hρ hg hrd _ => ?_⟩
          obtain ⟨w1, ao, cap, hu, hnc, hcm, hl, hnil, cs, hcs, hat⟩ := hrow B π Z H w _ hg hrd (hρ x hx)
          obtain ⟨rfl, hr⟩ := cells_ints w1 hcs
          have hlx := arr_len w1
          have hrun : (convert src dst (ρ x)).run P w = .ok (.string (ofBs xs)) w := by
            rw [hu]
            cases ao with
            | none =>
              obtain ⟨rfl, rfl⟩ := hnil rfl
              have : xs = [] := List.eq_nil_of_length_eq_zero hlx
              subst this
              simp [convert, run_underlying hsu, run_underlying hd, run_underlying heu, Conv.bytesToString]
              rfl
            | some a =>
              have hlc := run_loadCells_list (P := P) w a (xs.map (Value.int .u8)) (fun j v hv => hat a rfl j v hv)
              rw [List.length_map, hlx] at hlc
              have hb := run_bytesToString (P := P) w a n cap xs hlc
              rw [ofBs_fold] at hb
              simp [convert, run_underlying hsu, run_underlying hd, run_underlying heu, hb]
          rw [hex w w ρ _ hrun]
          exact after_same hg ((V_sc rfl).2 (.str _ (by rw [ofBs_size]; omega)))
        · exact h.elim
      · exact h.elim
  · -- to bytes
    rename_i e _ _ _ _ hti
    have hd := (hT _ _ hti).und
    split at h
    · rename_i s he
      split at h
      · rename_i _ _ _ _ hti2
        split at h
        · rename_i _ _ _ _ hti3
          obtain ⟨hsz, hK⟩ := h
          have hsu := (hT _ _ hti2).und
          have heu := isU8 hT hti3
          refine ⟨_, _, hK, fun B π Z H w ρ hρ hg _ _ => ?_⟩
          have h1 := hρ x hx
          rw [he] at h1
          have e1 := (V_str h1).1
          obtain ⟨cap, arr, c1, c2, c3, c4⟩ := run_stringToBytes (P := P) (w := w) e s hsz
          rw [hex w _ ρ _ (by rw [e1]; simp only [convert, Sem.run_bind, run_underlying hsu, run_underlying hd, run_underlying heu, Result.andThen_ok]; exact c4)]
          obtain ⟨g1, g2⟩ := good_newZ hg (.cells arr e (arr.size, arr.size + 1)) (w.drawn + 1)
          refine ⟨π, _, g2, fun _ _ h => .inl h, (V_sc rfl).2 (.rs _ _ _ cap (fun i => .int .u8 ((bsA s).getD i 0)) rfl ⟨.ar .u8 s.size, rfl, rfl, bs_len s⟩ c1 c2 (fun i a ha => ?_) (fun i a ha => ?_)), by simpa [Eff.no, hup_nil] using g1⟩
          · simp only [flat, List.getElem?_map, Option.map_eq_some_iff] at ha
            obtain ⟨y, hy, rfl⟩ := ha
            have := c3 i y hy
            simp [zcell, setZ, this, List.getD, hy]
          · simp only [flat, List.getElem?_map, Option.map_eq_some_iff] at ha
            obtain ⟨y, hy, rfl⟩ := ha
            simp only [List.getD, hy, Option.getD_some]
            exact .int _ _ (rng_bs s y (List.mem_of_getElem? hy))
        · exact h.elim
      · exact h.elim
    · rename_i id e1 he
      split at h
      · rename_i k n xs hlk
        split at h
        · rename_i _ _ _ _ hti3
          obtain ⟨hc, hK⟩ := h
          simp only [Bool.and_eq_true] at hc
          have hsd : src = dst := Nat.eq_of_beq_eq_true hc.1
          have hn1 : 1 ≤ n := Nat.le_of_ble_eq_true hc.2
          have heu := isU8 hT hti3
          refine ⟨_, _, hK, fun B π Z H w ρ hρ hg hrd _ => ?_⟩
          have h1 := hρ x hx
          rw [he] at h1
          have h2 := (V_sc rfl).1 h1
          have hH : H id = some (.arr k n xs) := by rw [hrd id (by simp)]; exact hlk
          obtain ⟨l, hl, hok⟩ := hg.objs id _ hH
          generalize hpu : ρ x = u at h2
          cases h2 with
          | owNil _ _ h3 =>
            rw [hl] at h3; cases h3
            have := hok.1
            simp only [rowN, Option.some.injEq] at this
            omega
          | ow _ b sh n' cap _ sz h3 =>
            rw [hl] at h3; cases h3
            obtain ⟨g1, g2, g3, cs, arr, e2, g4, g5, g6, g7, g8, g9, g10, g11, g12⟩ := hok
            simp only [rowOf, Option.some.injEq, Prod.mk.injEq] at g11
            obtain ⟨rfl, rfl⟩ := g11
            obtain ⟨gg, gx⟩ := good_seal hg hH hl g4
            rw [hex w (w.freeze ⟨b, arr.size, none⟩ 1) ρ (.slice (some ⟨b, 0, none⟩) n cap) (by
              rw [hpu]
              subst hsd
              simp [convert, run_underlying hd, run_underlying heu, markStringish, shape, World.shape?, g4, freeze, Sem.run])]
            refine ⟨π, _, gx, fun _ _ h => .inl h, (V_sc rfl).2 (.rs _ _ _ cap (fun i => cs.getD i .nilIface) rfl g2 g9 g10 (fun i a ha => ?_) (fun i a ha => ?_)), gg⟩
            · have hi : i < cs.length := by rw [g6.1]; exact (List.getElem?_eq_some_iff.1 ha).1
              have e3 : arr.toList[i]? = cs[i]? := by
                have : (arr.toList.take cs.length)[i]? = cs[i]? := by rw [g5]
                rw [List.getElem?_take, if_pos hi] at this
                exact this
              simp only [zcell, setZ, if_true, Option.isSome_none, Bool.false_eq_true, if_false, Nat.zero_add]
              rw [← Array.getElem?_toList, e3, List.getElem?_eq_getElem hi, List.getD_eq_getElem?_getD, List.getElem?_eq_getElem hi]; rfl
            · have hi : i < cs.length := by rw [g6.1]; exact (List.getElem?_eq_some_iff.1 ha).1
              have := g6.2 i a cs[i] ha (List.getElem?_eq_getElem hi)
              rw [List.getD_eq_getElem?_getD, List.getElem?_eq_getElem hi]
              exact S.ext gx this
        · exact h.elim
      · exact h.elim
    · exact h.elim
  · exact h.elim

theorem run_firstCells {u : Value} {n m : Nat} {l : List AV} (h : Row π Z w u m 1 l) (hn : n ≤ m) : ∃ cs : List Value, Cells π Z (l.take n) cs ∧ (Builtin.firstCells 1 n u).run P w = .ok cs.toArray w := by
  obtain ⟨ao, cap, rfl, h1, h2, h3, h4, cs, h5, h6⟩ := h
  refine ⟨cs.take n, h5.take n, ?_⟩
  cases ao with
  | none =>
    obtain ⟨rfl, rfl⟩ := h4 rfl
    have : cs = [] := List.eq_nil_of_length_eq_zero (by have := h5.1; omega)
    subst this
    simp [Builtin.firstCells]
  | some a =>
    have hl : (cs.take n).length = n := by
      have e1 := h5.1
      rw [List.length_take]
      omega
    have := run_loadCells_list (P := P) w a (cs.take n) (fun j v hv => by
      rw [List.getElem?_take] at hv
      split at hv
      · exact h6 a rfl j v hv
      · cases hv)
    rw [hl] at this
    simpa [Builtin.firstCells] using this

/-- A source of numbers, told. -/
def SrcOk (P : Program) (w : World) (u : Value) (k : IntKind) (m : Nat) (ys : List Int) : Prop :=
  ys.length = m ∧ (∀ w : World, (Builtin.lenOf u).run P w = .ok m w) ∧ (∀ y ∈ ys, rng k y) ∧ ∀ n, n ≤ m → (Builtin.firstCells 1 n u).run P w = .ok ((ys.take n).map (Value.int k)).toArray w

theorem srcI_inv {x : AV} {K' : IntKind → Nat → List Int → List Nat → Prop} (h : srcI st x K') : ∃ k n xs rd, K' k n xs rd ∧
    ∀ {P : Program} (B : Bs) (π : PM) (Z : ZM) (H : Nat → Option AV) (w : World) (u : Value), Good B π Z H w → (∀ id ∈ rd, H id = lkH st.heap id) → V π Z x u → SrcOk P w u k n xs := by
  unfold srcI at h
  split at h
  · rename_i s
    refine ⟨_, _, _, _, h, fun B π Z H w u hg _ hv => ?_⟩
    obtain ⟨rfl, _⟩ := V_str hv
    refine ⟨bs_len s, fun w => by simp [Builtin.lenOf], rng_bs s, fun n hn => ?_⟩
    simp only [Builtin.firstCells, Sem.run_pure]
    congr 1
    apply Array.ext'
    simp [bsA, List.map_take]
    rfl
  · obtain ⟨k, n, xs, rd, hK, hr⟩ := rowI_inv h
    refine ⟨k, n, xs, rd, hK, fun B π Z H w u hg hrd hv => ?_⟩
    obtain ⟨w1, hrow⟩ := hr B π Z H w u hg hrd hv
    have hl := arr_len w1
    refine ⟨hl, ?_, ?_, fun j hj => ?_⟩
    · obtain ⟨ao, cap, rfl, _⟩ := hrow
      intro w; simp [Builtin.lenOf]
    · obtain ⟨ao, cap, rfl, _, _, _, _, cs, hcs, _⟩ := hrow
      exact (cells_ints w1 hcs).2
    · obtain ⟨cs, c1, c2⟩ := run_firstCells hrow hj
      rw [c2]
      have hw2 : WfA (.arr k j (xs.take j)) := ⟨.ar k j, rfl, rfl, by simp; omega⟩
      rw [← List.map_take] at c1
      rw [(cells_ints hw2 c1).1]

theorem copy_run {ds ty e : TypeId} {te : TI} {u : Value} {d : Value} {k : IntKind} {m len cap b q : Nat} {ys : List Int} {arr : Array Value} {e2 : TypeId} (hu : P.underlying ds = some (.slice e)) (hte : TyOk P e te) (hs1 : te.size = 1)
    (hsrc : SrcOk P w u k m ys) (hd : d = .slice (some ⟨b, q, none⟩) len cap) (hb : w.heap[b]? = some (.cells arr e2 (0, 0))) (hq : q + min m len ≤ arr.size) {ts : TypeId} :
    (Builtin.copy_ #[ds, ts] ty #[d, u]).run P w = .ok (.int .i64 ((min m len : Nat) : Int)) (w.setRow b (arr.toList.take q ++ (ys.take (min m len)).map (Value.int k) ++ arr.toList.drop (q + min m len)).toArray) := by
  obtain ⟨i, hi, his, _⟩ := hte.info
  obtain ⟨c1, c2, c3, c4⟩ := hsrc
  have hf := c4 (min m len) (Nat.min_le_left _ _)
  have hlen : ((ys.take (min m len)).map (Value.int k)).length = min m len := by simp [c1] <;> omega
  have hst := run_storeCells_at (P := P) b q e2 ((ys.take (min m len)).map (Value.int k)) 0 arr w hb (by rw [hlen]; omega) (fun v hv => by
    obtain ⟨x, _, rfl⟩ := List.mem_map.1 hv
    rfl)
  rw [hlen, Nat.add_zero] at hst
  subst hd
  have hmin : Nat.min m len = min m len := rfl
  simp only [Builtin.copy_, List.getElem?_toArray, List.getElem?_cons_zero, List.getElem?_cons_succ, Sem.run_bind, run_underlying hu, Result.andThen_ok, c2 w, run_sizeOf hi, his, hs1, hmin, hf, hst, Sem.run_pure, goInt]

theorem upd_arr {k : IntKind} {n off m : Nat} {xs ys : List Int} (hx : xs.length = n) (hm : m ≤ ys.length) (h : off + m ≤ n) :
    flat (.arr k n (xs.take off ++ (ys.take m ++ xs.drop (off + m)))) = (flat (.arr k n xs)).take off ++ (ys.take m).map (AV.int k) ++ (flat (.arr k n xs)).drop (off + m) ∧ (xs.take off ++ (ys.take m ++ xs.drop (off + m))).length = n := by
  constructor
  · simp [flat, List.map_take, List.map_drop]
  · simp; omega

theorem set_self {α : Type} : ∀ (l : List α) (i : Nat) (d : α), i < l.length → l.set i (l.getD i d) = l
  | a :: l, 0, d, _ => rfl
  | a :: l, i + 1, d, h => by
    have := set_self l i d (by simpa using h)
    simpa using this

theorem upd_self : ∀ (p : List Step) (v : AV) (s : Sh) (o : Nat) (t : Sh), HasSh v s → s.off p = some (o, t) → upd v p (proj v p) = v := by
  intro p
  induction p with
  | nil => intro v s o t _ _; cases v <;> rfl
  | cons x p ih =>
    intro v s o t h ho
    cases x with
    | fld i =>
      cases s with
      | st ss =>
        cases v <;> simp only [HasSh] at h
        rename_i fs
        simp only [Sh.off] at ho
        cases hs : ss[i]? with
        | none => simp [hs] at ho
        | some s' =>
          simp only [hs] at ho
          cases hp : s'.off p with
          | none => simp [hp] at ho
          | some r =>
            simp only [upd, proj]
            rw [ih _ _ _ _ (h.at.2 i s' hs) hp]
            have hi : i < fs.length := by rw [h.at.1]; exact (List.getElem?_eq_some_iff.1 hs).1
            rw [set_self _ _ _ hi]
      | _ => simp [Sh.off] at ho
    | idx i =>
      cases s with
      | ar k n =>
        cases v <;> simp only [HasSh] at h
        rename_i k' n' xs
        cases p with
        | nil =>
          simp only [Sh.off] at ho
          split at ho
          · rename_i hi
            have e : proj (.arr k' n' xs) [.idx i] = .int k' (xs.getD i 0) := rfl
            rw [e]
            show AV.arr k' n' (xs.set i (xs.getD i 0)) = _
            rw [set_self _ _ _ (by omega)]
          · cases ho
        | cons y q => simp [Sh.off] at ho
      | sq sz n s' =>
        cases v <;> simp only [HasSh] at h
        rename_i sz' n' f
        simp only [Sh.off] at ho
        split at ho
        · rename_i hi
          cases hp : s'.off p with
          | none => simp [hp] at ho
          | some r =>
            simp only [upd, proj]
            rw [ih _ _ _ _ (h.2.2.2 i (by omega)) hp]
            congr 1
            funext j
            cases hb : Nat.beq j i with
            | false => rfl
            | true => rw [Nat.eq_of_beq_eq_true hb]; rfl
        · cases ho
      | _ => simp [Sh.off] at ho

theorem s_copy (c : Call) (ho : o.op = .call c) (hc : c.callee = .builtin .copy) (hT : TabOk P tt) (h : opA tt ct st (.call c) K) : Sound1 P st o K := by
  obtain ⟨callee, args, ats⟩ := c
  simp only at hc; subst hc
  simp only [Chk, Bnd, Str, Kn, Drw, opA] at h
  split at h
  · rename_i d x hargs
    split at h
    · rename_i ds ts hts
      obtain ⟨hfe, h⟩ := h
      have e1 := list_two hargs
      have e2 := list_two hts
      subst e1; subst e2
      obtain ⟨e, te, hu, hte, hs1, _⟩ := fitE_ok hT hfe
      have hd : d ∈ o.op.operands.toList := by simp [ho, Op.operands, Call.operands]
      have hx : x ∈ o.op.operands.toList := by simp [ho, Op.operands, Call.operands]
      have hex : ∀ (w w' : World) (ρ : Operand → Value) (r : Value), (Builtin.copy_ #[ds, ts] o.type #[ρ d, ρ x]).run P w = .ok r w' → (execOp ρ o).run P w = .ok (.value r) w' := by
        intro w w' ρ r hr
        simp [execOp, ho, resolve, invoke, builtin, hr]
      -- a part of a tracked object is written
      have main : ∀ (B : Bs) (π : PM) (Z : ZM) (H : Nat → Option AV) (w : World) (id : Nat) (p : List Step) (v : AV) (b : Nat) (sh : Sh) (r) (o' : Nat) (k : IntKind) (n off len m : Nat) (xs ys : List Int) (u dv : Value) (cap : Nat) (rd : List Nat) (nxt : Nat),
          Good B π Z H w → H id = some v → π id = some (.at b sh r) → sh.off p = some (o', .ar k n) → proj v p = .arr k n xs → SrcOk P w u k m ys → off + len ≤ n → min m len ≤ 9223372036854775807 → dv = .slice (some ⟨b, o' + off, none⟩) len cap →
          ∃ w', (Builtin.copy_ #[ds, ts] o.type #[dv, u]).run P w = .ok (.int .i64 ((min m len : Nat) : Int)) w' ∧
            After B π Z H nxt (.int .i64 ((min m len : Nat) : Int)) ⟨[(id, some (upd v p (.arr k n (xs.take off ++ (ys.take (min m len) ++ xs.drop (off + min m len))))))], rd, 0⟩ (.int .i64 ((min m len : Nat) : Int)) w' := by
        intro B π Z H w id p v b sh r o' k n off len m xs ys u dv cap rd nxt hg hH hp hoff hpr hsrc hle hmx hdv
        obtain ⟨l, hl, hok⟩ := hg.objs id v hH
        rw [hp] at hl; cases hl
        obtain ⟨k1, k2, k3, cs, arr, e2, k4, k5, k6, k7⟩ := hok
        obtain ⟨g1, g2, g3⟩ := proj_ok p v sh o' _ k1 hoff
        rw [hpr] at g1 g3
        have hxl : xs.length = n := arr_len ⟨_, g1⟩
        have hmm : min m len ≤ ys.length := by rw [hsrc.1]; omega
        obtain ⟨f1, f2⟩ := upd_arr (k := k) hxl hmm (show off + min m len ≤ n by omega)
        have hnew : HasSh (.arr k n (xs.take off ++ (ys.take (min m len) ++ xs.drop (off + min m len)))) (.ar k n) := ⟨rfl, rfl, f2⟩
        obtain ⟨u1, u2⟩ := upd_ok p v _ sh o' _ k1 hoff hnew
        have hcsl : cs.length = sh.size := by rw [k6.1, flat_len v sh k1]
        have hszz : (Sh.ar k n).size = n := rfl
        have hle2 := take_len k5
        have hrun := copy_run (P := P) (w := w) (ty := o.type) (ts := ts) hu hte hs1 hsrc hdv k4 (by omega)
        refine ⟨_, hrun, π, Z, .refl _ _, fun _ _ h => .inl h, V_mk_int (by simp only [rng]; omega), good_set hg id v _ b sh r hH hp arr _ e2 k4 (fun w' hw' hZ => ?_)⟩
        have hyl : ((ys.take (min m len)).map (Value.int k)).length = min m len := by simp; omega
        have hys : Cells π Z ((ys.take (min m len)).map (AV.int k)) ((ys.take (min m len)).map (Value.int k)) := by
          refine ⟨by simp, fun i a u ha hu => ?_⟩
          simp only [List.getElem?_map, Option.map_eq_some_iff] at ha hu
          obtain ⟨y, hy, rfl⟩ := ha
          obtain ⟨y', hy', rfl⟩ := hu
          rw [hy] at hy'; cases hy'
          exact .int _ _ (hsrc.2.2.1 y (List.mem_of_mem_take (List.mem_of_getElem? hy)))
        have hflat : flat (upd v p (.arr k n (xs.take off ++ (ys.take (min m len) ++ xs.drop (off + min m len))))) = (flat v).take (o' + off) ++ (ys.take (min m len)).map (AV.int k) ++ (flat v).drop (o' + off + min m len) := by
          rw [u2, f1, hszz, ← g3, hszz]
          have hfl : (flat v).length = sh.size := flat_len v sh k1
          have a1 : (((flat v).drop o').take n).take off = ((flat v).drop o').take off := by rw [List.take_take]; congr 1; omega
          have a2 : (((flat v).drop o').take n).drop (off + min m len) = ((flat v).drop (o' + (off + min m len))).take (n - (off + min m len)) := by rw [List.drop_take, List.drop_drop]
          rw [a1, a2]
          have a3 : (flat v).take (o' + off) = (flat v).take o' ++ ((flat v).drop o').take off := by rw [List.take_add]
          have a4 : (flat v).drop (o' + off + min m len) = ((flat v).drop (o' + (off + min m len))).take (n - (off + min m len)) ++ (flat v).drop (o' + n) := by
            have : (flat v).drop (o' + n) = ((flat v).drop (o' + (off + min m len))).drop (n - (off + min m len)) := by rw [List.drop_drop]; congr 1; omega
            rw [this, List.take_append_drop]; congr 1; omega
          rw [a3, a4]
          simp [List.append_assoc]
        refine ⟨u1, ⟨sh, u1⟩, hZ, cs.take (o' + off) ++ (ys.take (min m len)).map (Value.int k) ++ cs.drop (o' + off + min m len), _, e2, hw', ?_, ?_, ?_⟩
        · have hl : (cs.take (o' + off) ++ (ys.take (min m len)).map (Value.int k) ++ cs.drop (o' + off + min m len)).length = cs.length := by
            simp only [List.length_append, List.length_take, List.length_drop, hyl]; omega
          rw [hl]
          exact (splice_take arr.toList _ (o' + off) (min m len) cs.length hyl (by omega) (by simpa using hle2)).trans (by rw [k5])
        · rw [hflat]
          exact ((k6.take _).append hys).append (k6.drop _)
        · cases r with
          | none => trivial
          | some q =>
            obtain ⟨n', cap', e', sz⟩ := q
            obtain ⟨q1, q2, q3, q4, q5, q6⟩ := k7
            refine ⟨q1, ?_, q3, q4, ?_, ?_⟩
            · rw [← q2]; simp only [List.size_toArray, List.length_append, List.length_take, List.length_drop, hyl, Array.length_toList]; omega
            · rw [← q5]; exact rowN_sh u1 k1
            · rw [← q6]; simp only [List.length_append, List.length_take, List.length_drop, hyl]; omega
      have off0 : ∀ s : Sh, s.off [] = some (0, s) := fun s => by cases s <;> rfl
      have proj0 : ∀ v : AV, proj v [] = v := fun v => by cases v <;> rfl
      unfold copyA Chk Bnd at h
      split at h
      · rename_i id p off len hde
        split at h
        · rename_i v hv
          split at h
          · rename_i k n xs hpr
            obtain ⟨k', m, ys, rd, ⟨hk, hmx, hK⟩, hsrc⟩ := srcI_inv h
            have := kEq_eq hk
            subst this
            refine ⟨_, _, hK, fun B π Z H w ρ hρ hg hrd _ => ?_⟩
            have s1 := hsrc (P := P) B π Z H w _ hg (fun j hj => hrd j (by simp [hj])) (hρ x hx)
            have hH := (hrd id (by simp)).trans hv
            have hdv := hρ d hd
            rw [hde] at hdv
            have hds := (V_sc rfl).1 hdv
            obtain ⟨l, hl, hok⟩ := hg.objs id v hH
            generalize hpu : ρ d = du at hds
            cases hds with
            | slNil _ p1 =>
              rw [p1] at hl; cases hl
              have h0 : min m 0 = 0 := by omega
              rw [h0] at hK ⊢
              have hvv : v = .arr k n xs := by rw [← hpr]; exact (proj0 v).symm
              subst hvv
              have hsame : upd (.arr k n xs) [] (.arr k n (xs.take 0 ++ (ys.take 0 ++ xs.drop (0 + 0)))) = .arr k n xs := by simp [upd]
              rw [hsame]
              have : (Builtin.copy_ #[ds, ts] o.type #[.slice none 0 0, ρ x]).run P w = .ok (.int .i64 ((0 : Nat) : Int)) w := by
                obtain ⟨i, hi, his, _⟩ := hte.info
                obtain ⟨c1, c2, c3, c4⟩ := s1
                have hf := c4 0 (Nat.zero_le _)
                have hm0 : Nat.min m 0 = 0 := by omega
                simp only [Builtin.copy_, List.getElem?_toArray, List.getElem?_cons_zero, List.getElem?_cons_succ, Sem.run_bind, run_underlying hu, Result.andThen_ok, c2 w, run_sizeOf hi, his, hs1, hm0, hf, Sem.run_pure, goInt]
              rw [hex w w ρ _ (by rw [hpu]; exact this)]
              refine ⟨π, Z, .refl _ _, fun _ _ h => .inl h, V_mk_int (by simp [rng]), ?_⟩
              have : hup H [(id, some (AV.arr k n xs))] = H := by
                funext j
                rw [hup_one]
                split
                · rename_i e; subst e; exact hH.symm
                · rfl
              rw [this]; exact hg
            | sl _ _ _ _ b sh r o' t' m' sz' cap BB q1 q2 q3 q4 q5 q6 q7 =>
              rw [q1] at hl; cases hl
              obtain ⟨g1, _, _⟩ := proj_ok p v sh o' t' hok.1 q2
              rw [hpr] at g1
              have ht : t' = .ar k n ∧ m' = n ∧ sz' = 1 := by
                rcases q3 with ⟨kk, rfl, rfl⟩ | ⟨s, rfl⟩
                · simp only [HasSh] at g1; obtain ⟨rfl, rfl, _⟩ := g1; exact ⟨rfl, rfl, rfl⟩
                · simp [HasSh] at g1
              obtain ⟨rfl, rfl, rfl⟩ := ht
              by_cases hz : off = 0 ∨ 0 < len
              · have hBB := q7 hz
                subst hBB
                obtain ⟨w', r1, r2⟩ := main B π Z H w id p v b sh r o' k m' off len m xs ys (ρ x) (.slice (some ⟨b, o' + off * 1, none⟩) len cap) cap (id :: rd) st.nxt hg hH q1 q2 hpr s1 q4 hmx (by rw [Nat.mul_one])
                rw [hex w w' ρ _ (by rw [hpu]; exact r1)]
                exact r2
              · have hl0 : len = 0 := by omega
                subst hl0
                obtain ⟨b2, o2, sp⟩ := BB
                have h0 : min m 0 = 0 := by omega
                rw [h0] at hK ⊢
                have : (Builtin.copy_ #[ds, ts] o.type #[.slice (some ⟨b2, o2, sp⟩) 0 cap, ρ x]).run P w = .ok (.int .i64 ((0 : Nat) : Int)) w := by
                  obtain ⟨i, hi, his, _⟩ := hte.info
                  obtain ⟨c1, c2, c3, c4⟩ := s1
                  have hf := c4 0 (Nat.zero_le _)
                  have hm0 : Nat.min m 0 = 0 := by omega
                  simp only [Builtin.copy_, List.getElem?_toArray, List.getElem?_cons_zero, List.getElem?_cons_succ, Sem.run_bind, run_underlying hu, Result.andThen_ok, c2 w, run_sizeOf hi, his, hs1, hm0, hf, Sem.run_pure, goInt, List.take_zero, List.map_nil, storeCells]
                rw [hex w w ρ _ (by rw [hpu]; exact this)]
                refine ⟨π, Z, .refl _ _, fun _ _ h => .inl h, V_mk_int (by simp [rng]), ?_⟩
                have hw := arr_len ⟨_, g1⟩
                have hsame : xs.take off ++ (ys.take 0 ++ xs.drop (off + 0)) = xs := by simp
                rw [hsame]
                have hupd : upd v p (.arr k m' xs) = v := by rw [← hpr]; exact upd_self p v sh o' _ hok.1 q2
                rw [hupd]
                have : hup H [(id, some v)] = H := by
                  funext j
                  rw [hup_one]
                  split
                  · rename_i e; subst e; exact hH.symm
                  · rfl
                rw [this]; exact hg
          · exact h.elim
        · exact h.elim
      · rename_i id eo hde
        split at h
        · rename_i k n xs hv
          obtain ⟨k', m, ys, rd, ⟨hk, hmx, hK⟩, hsrc⟩ := srcI_inv h
          have := kEq_eq hk
          subst this
          refine ⟨_, _, hK, fun B π Z H w ρ hρ hg hrd _ => ?_⟩
          have s1 := hsrc (P := P) B π Z H w _ hg (fun j hj => hrd j (by simp [hj])) (hρ x hx)
          have hH := (hrd id (by simp)).trans hv
          have hdv := hρ d hd
          rw [hde] at hdv
          have hds := (V_sc rfl).1 hdv
          obtain ⟨l, hl, hok⟩ := hg.objs id _ hH
          generalize hpu : ρ d = du at hds
          cases hds with
          | owNil _ _ p1 =>
            rw [p1] at hl; cases hl
            have hN := hok.1
            simp only [rowN, Option.some.injEq] at hN
            subst hN
            have h0 : min m 0 = 0 := by omega
            rw [h0] at hK ⊢
            have hsame : upd (.arr k 0 xs) [] (.arr k 0 (xs.take 0 ++ (ys.take 0 ++ xs.drop (0 + 0)))) = .arr k 0 xs := by simp [upd]
            rw [hsame]
            have : (Builtin.copy_ #[ds, ts] o.type #[.slice none 0 0, ρ x]).run P w = .ok (.int .i64 ((0 : Nat) : Int)) w := by
              obtain ⟨i, hi, his, _⟩ := hte.info
              obtain ⟨c1, c2, c3, c4⟩ := s1
              have hf := c4 0 (Nat.zero_le _)
              have hm0 : Nat.min m 0 = 0 := by omega
              simp only [Builtin.copy_, List.getElem?_toArray, List.getElem?_cons_zero, List.getElem?_cons_succ, Sem.run_bind, run_underlying hu, Result.andThen_ok, c2 w, run_sizeOf hi, his, hs1, hm0, hf, Sem.run_pure, goInt]
            rw [hex w w ρ _ (by rw [hpu]; exact this)]
            refine ⟨π, Z, .refl _ _, fun _ _ h => .inl h, V_mk_int (by simp [rng]), ?_⟩
            have : hup H [(id, some (AV.arr k 0 xs))] = H := by
              funext j
              rw [hup_one]
              split
              · rename_i e; subst e; exact hH.symm
              · rfl
            rw [this]; exact hg
          | ow _ b sh nn cap _ sz' q1 =>
            rw [q1] at hl; cases hl
            have k1 := hok.1
            obtain ⟨_, _, _, _, _, _, _, _, _, _, _, _, _, k11, _⟩ := hok
            simp only [rowOf, Option.some.injEq, Prod.mk.injEq] at k11
            obtain ⟨rfl, rfl⟩ := k11
            have hsh : sh = .ar k n := by
              cases sh <;> simp only [HasSh] at k1
              obtain ⟨rfl, rfl, _⟩ := k1; rfl
            subst hsh
            obtain ⟨w', r1, r2⟩ := main B π Z H w id [] (.arr k n xs) b _ _ 0 k n 0 n m xs ys (ρ x) _ cap (id :: rd) st.nxt hg hH q1 (off0 _) (proj0 _) s1 (by omega) hmx rfl
            rw [hex w w' ρ _ (by rw [hpu]; exact r1)]
            exact r2
        · exact h.elim
      · exact h.elim
    · exact h.elim
  · exact h.elim

end
end Go.Ax

/- All operations. -/
namespace Go.Ax
open Go

section
variable {P : Program} {tt : Tab} {ct : Specs} {st : St} {o : Oper} {K : KV} {B : Bs} {π : PM} {Z : ZM} {w : World} {ρ : Operand → Value}

/-- Values, one by one. -/
def Vs (π : PM) (Z : ZM) (as : List AV) (us : List Value) : Prop := us.length = as.length ∧ ∀ (i : Nat) (a : AV) (u : Value), as[i]? = some a → us[i]? = some u → V π Z a u

/-- A contract that holds. -/
def SpS (P : Program) (f : FuncId) (S : Spec) : Prop :=
  ∀ (st : St) (args : List AV) (K : KV) (B : Bs) (π : PM) (Z : ZM) (w : World) (us : List Value), Vs π Z args us → Good B π Z (lkH st.heap) w → S st args K → ∃ v e, K v e ∧
    ∀ (B : Bs) (π : PM) (Z : ZM) (H : Nat → Option AV) (w : World) (us : List Value), Vs π Z args us → Good B π Z H w → (∀ id ∈ e.rd, H id = lkH st.heap id) → (∀ id, st.nxt ≤ id → id < st.nxt + e.al → π id = none) →
      Calls P f us.toArray w fun r w' => ∃ u, r = .returned u ∧ After B π Z H st.nxt v e u w'

def CallF (P : Program) (f : FuncId) : Prop := ∀ (args : Array Value) (w : World), (callFunc f args).run P w = .ok (.enter f args) w

def SpecsOk (P : Program) (ct : Specs) : Prop := ∀ f S, (f, S) ∈ ct → CallF P f ∧ SpS P f S

theorem spOf_mem : ∀ {ct : Specs} {f : Nat} {st : St} {args : List AV} {K : KV}, spOf ct f st args K → ∃ S, (f, S) ∈ ct ∧ S st args K
  | [], _, _, _, _, h => h.elim
  | (i, S) :: l, f, st, args, K, h => by
    unfold spOf at h
    cases hb : Nat.beq i f with
    | true =>
      rw [hb] at h
      have := Nat.eq_of_beq_eq_true hb
      subst this
      exact ⟨S, by simp, h⟩
    | false =>
      rw [hb] at h
      obtain ⟨S', h1, h2⟩ := spOf_mem h
      exact ⟨S', by simp [h1], h2⟩

theorem evals_eq (l : List Operand) : evals st l = l.map (evalA st) := by
  induction l with
  | nil => rfl
  | cons x l ih => simp [evals, ih]

theorem s_call (f : FuncId) (args : Array Operand) (ats : Array TypeId) (ho : o.op = .call ⟨.value (.func f), args, ats⟩) (hC : SpecsOk P ct) (hρ : ∀ x ∈ o.op.operands.toList, V π Z (evalA st x) (ρ x))
    (hg : Good B π Z (lkH st.heap) w) (hfn : ∀ f, ρ (.func f) = .func (.func f) #[] #[]) (h : opA tt ct st (.call ⟨.value (.func f), args, ats⟩) K) :
    ∃ v e, K v e ∧ ∀ (B : Bs) (π : PM) (Z : ZM) (H : Nat → Option AV) (w : World) (ρ : Operand → Value), (∀ f, ρ (.func f) = .func (.func f) #[] #[]) → (∀ x ∈ o.op.operands.toList, V π Z (evalA st x) (ρ x)) → Good B π Z H w →
    (∀ id ∈ e.rd, H id = lkH st.heap id) → (∀ id, st.nxt ≤ id → id < st.nxt + e.al → π id = none) → Outc P ((execOp ρ o).run P w) (After B π Z H st.nxt v e) := by
  simp only [Chk, Bnd, Str, Kn, Drw, opA] at h
  obtain ⟨S, hS, h⟩ := spOf_mem h
  obtain ⟨hcf, hsp⟩ := hC f S hS
  have hvs : ∀ (π : PM) (Z : ZM) (ρ : Operand → Value), (∀ x ∈ o.op.operands.toList, V π Z (evalA st x) (ρ x)) → Vs π Z (evals st args.toList) (args.toList.map ρ) := by
    intro π Z ρ hρ
    rw [evals_eq]
    refine ⟨by simp, fun i a u ha hu => ?_⟩
    simp only [List.getElem?_map, Option.map_eq_some_iff] at ha hu
    obtain ⟨x, hx, rfl⟩ := ha
    obtain ⟨y, hy, rfl⟩ := hu
    rw [hx] at hy; cases hy
    have : x ∈ args := Array.mem_toList_iff.1 (List.mem_of_getElem? hx)
    exact hρ x (by simp [ho, Op.operands, Call.operands, this])
  obtain ⟨v, e, hK, hrun⟩ := hsp st _ K B π Z w _ (hvs π Z ρ hρ) hg h
  refine ⟨v, e, hK, fun B π Z H w ρ hfn hρ hg hrd hfr => ?_⟩
  have hc := hrun B π Z H w _ (hvs π Z ρ hρ) hg hrd hfr
  have : (execOp ρ o).run P w = .ok (.enter f (args.toList.map ρ).toArray) w := by
    have e1 : (args.toList.map ρ).toArray = args.map ρ := Array.ext' (by simp)
    rw [e1]
    simp [execOp, ho, resolve, hfn, Deferred.ofValue, invoke]
    exact hcf _ _
  rw [this]
  exact hc

/-- What an operation comes to, wherever its operands are as told. -/
def OpS' (P : Program) (st : St) (o : Oper) (v : AV) (e : Eff) : Prop :=
  ∀ (B : Bs) (π : PM) (Z : ZM) (H : Nat → Option AV) (w : World) (ρ : Operand → Value), (∀ f, ρ (.func f) = .func (.func f) #[] #[]) → (∀ x ∈ o.op.operands.toList, V π Z (evalA st x) (ρ x)) → Good B π Z H w →
    (∀ id ∈ e.rd, H id = lkH st.heap id) → (∀ id, st.nxt ≤ id → id < st.nxt + e.al → π id = none) → Outc P ((execOp ρ o).run P w) (After B π Z H st.nxt v e)

theorem op_sound (hT : TabOk P tt) (hC : SpecsOk P ct) (hk : KnOk st) (hfn : ∀ f, ρ (.func f) = .func (.func f) #[] #[]) (hρ : ∀ x ∈ o.op.operands.toList, V π Z (evalA st x) (ρ x)) (hg : Good B π Z (lkH st.heap) w)
    (h : opA tt ct st o.op K) : ∃ v e, K v e ∧ OpS' P st o v e := by
  have lift : Sound1 P st o K → ∃ v e, K v e ∧ OpS' P st o v e := fun ⟨v, e, h1, h2⟩ => ⟨v, e, h1, fun B π Z H w ρ _ => h2 B π Z H w ρ⟩
  cases ho : o.op with
  | move x => rw [ho] at h; exact lift (s_move x ho h)
  | assign x => rw [ho] at h; exact lift (s_assign x ho h)
  | pick c a b => rw [ho] at h; exact lift (s_pick c a b ho hk h)
  | alloc t => rw [ho] at h; exact lift (s_alloc t ho hT h)
  | box t x => rw [ho] at h; exact lift (s_box t x ho h)
  | build t ps => rw [ho] at h; exact lift (s_build t ps ho hT h)
  | buildSlice t n ps => rw [ho] at h; exact lift (s_buildSlice t n ps ho hT h)
  | load t a => rw [ho] at h; exact lift (s_load t a ho hT hρ hg h)
  | store t a x => rw [ho] at h; exact lift (s_store t a x ho hT h)
  | nilCheck x => rw [ho] at h; exact lift (s_nilCheck x ho h)
  | binOp op t x y t' => rw [ho] at h; exact lift (s_binOp op t x y t' ho hT hρ h)
  | unOp op t x => rw [ho] at h; exact lift (s_unOp op t x ho h)
  | convert s d x => rw [ho] at h; exact lift (s_convert s d x ho hT h)
  | makeInterface t x => rw [ho] at h; exact lift (s_makeInterface t x ho hT h)
  | makeSlice t l c => rw [ho] at h; exact lift (s_makeSlice t l c ho hT h)
  | slice t x lo hi mx =>
    rw [ho] at h
    cases mx with
    | none => exact lift (s_slice t x lo hi ho hT h)
    | some m => simp only [Chk, Bnd, Str, Kn, Drw, opA] at h
  | fieldAddr t x f => rw [ho] at h; exact lift (s_fieldAddr t x f ho hT h)
  | field t x f => rw [ho] at h; exact lift (s_field t x f ho hT h)
  | indexAddr t x i => rw [ho] at h; exact lift (s_indexAddr t x i ho hT h)
  | index t x i => rw [ho] at h; exact lift (s_index t x i ho hT hρ h)
  | extract x i => rw [ho] at h; exact lift (s_extract x i ho h)
  | call c =>
    rw [ho] at h
    obtain ⟨cal, args, ats⟩ := c
    cases cal with
    | builtin b =>
      cases b
      case len => exact lift (s_len _ ho rfl hT hρ hg h)
      case append => exact lift (s_append _ ho rfl hT h)
      case copy => exact lift (s_copy _ ho rfl hT h)
      case min => exact lift (s_min _ ho rfl h)
      case max => exact lift (s_max _ ho rfl h)
      all_goals (simp only [Chk, Bnd, Str, Kn, Drw, opA] at h)
    | value f =>
      cases f with
      | func f => exact s_call f args ats ho hC hρ hg hfn h
      | _ => simp only [Chk, Bnd, Str, Kn, Drw, opA] at h
    | invoke r m => simp only [Chk, Bnd, Str, Kn, Drw, opA] at h
  | _ => rw [ho] at h; simp only [Chk, Bnd, Str, Kn, Drw, opA] at h

end
end Go.Ax

/- Regions in the text's order; code. -/
namespace Go.Ax
open Go

/-- What does not turn within a call. -/
structure Cx where
  n : Nat
  B : Bs
  k0 : Nat
  π0 : PM
  Z0 : ZM

structure Rel (c : Cx) (π : PM) (Z : ZM) (st : St) (a : Act) (w : World) : Prop where
  defers : a.defers = []
  size : a.tmps.size = c.n
  env : ∀ t, V π Z (lkE st.env t) (a.tmps.getD t undef)
  good : Good c.B π Z (lkH st.heap) w
  fresh : ∀ id, st.nxt ≤ id → π id = none
  kn : KnOk st
  low : ∀ id, id < c.k0 → π id = c.π0 id
  kle : c.k0 ≤ st.nxt
  z0 : ∀ b o, c.Z0 b = some o → Z b = some o

section
variable {P : Program} {tt : Tab} {ct : Specs} {c : Cx} {st : St} {π : PM} {Z : ZM} {a : Act} {w : World}

theorem leB_ok {a b : Int} (h : leB a b = true) : a ≤ b := by
  unfold leB at h
  split at h
  · rename_i n e; have : (0 : Int) ≤ b - a := by rw [e]; exact Int.natCast_nonneg n
    omega
  · cases h

theorem rngB_ok {k : IntKind} {n : Int} (h : rngB k n = true) : rng k n := by
  cases k <;> simp only [rngB, Bool.and_eq_true] at h <;> exact ⟨leB_ok h.1, leB_ok h.2⟩

theorem V_ofV (v : Value) : V π Z (ofV v) v := by
  unfold ofV
  split
  · exact (V_sc rfl).2 (.bool _)
  · rename_i k n
    cases h : rngB k n with
    | true => exact V_mk_int (rngB_ok h)
    | false => trivial
  · rename_i s
    cases h : Nat.ble s.size 9223372036854775807 with
    | true => exact (V_sc rfl).2 (.str s (by have := Nat.le_of_ble_eq_true h; simp only [maxLen]; omega))
    | false => trivial
  · exact (V_sc rfl).2 .nilp
  · exact (V_sc rfl).2 .nils
  · exact (V_sc rfl).2 .nilm
  · exact (V_sc rfl).2 .nilf
  · exact (V_sc rfl).2 .nili
  · trivial

theorem V_eval (h : ∀ t, V π Z (lkE st.env t) (a.tmps.getD t undef)) (x : Operand) : V π Z (evalA st x) (a.eval x) := by
  cases x with
  | tmp t => exact h t
  | const v => exact V_ofV v
  | global g => exact (V_sc rfl).2 (.glob g)
  | func f => exact (V_sc rfl).2 (.fn _ [] [] [] [] rfl rfl (fun i a u h => by simp at h) (fun i a u h => by simp at h))

theorem upon_outc {o : Oper} {post : Value → World → Prop} {next : Act → World → Prop} {Q : Exit → Act → World → Prop} {r : Result Next} (h : Outc P r post) (hn : ∀ v w', post v w' → next (a.put o.dst v) w') : o.upon P a next Q r := by
  unfold Outc at h
  split at h
  · exact hn _ _ h
  · exact hn _ _ h
  · exact h.mono fun e w' ⟨v, he, hp⟩ => by subst he; exact hn v w' hp
  · exact h.elim

theorem lkE_set {dst : Option Tmp} {v : AV} (t : Nat) : lkE (st.set dst v).env t = if dst = some t then v else lkE st.env t := by
  cases dst with
  | none => simp [St.set]
  | some d =>
    simp only [St.set, lkE]
    by_cases h : d = t
    · subst h; simp
    · have : Nat.beq d t = false := by
        cases hb : Nat.beq d t with
        | false => rfl
        | true => exact absurd (Nat.eq_of_beq_eq_true hb) h
      simp [this, h]

theorem put_getD {dst : Option Tmp} {u : Value} (t : Nat) (hd : ∀ d, dst = some d → d < a.tmps.size) : (a.put dst u).tmps.getD t undef = if dst = some t then u else a.tmps.getD t undef := by
  cases dst with
  | none => simp [Act.put]
  | some d =>
    simp only [Act.put, Array.getD_eq_getD_getElem?, Array.getElem?_setIfInBounds]
    by_cases h : d = t
    · subst h; simp [hd d rfl]
    · simp [h]

theorem put_size {dst : Option Tmp} {u : Value} : (a.put dst u).tmps.size = a.tmps.size ∧ (a.put dst u).defers = a.defers := by
  cases dst <;> simp [Act.put]

theorem knl_drop {kn : List (Nat × Bool)} {d t : Nat} {b : Bool} (h : knl (knDrop kn d) t = some b) : t ≠ d ∧ knl kn t = some b := by
  induction kn with
  | nil => simp [knDrop, knl] at h
  | cons x l ih =>
    obtain ⟨i, c⟩ := x
    simp only [knDrop] at h
    cases hid : Nat.beq i d with
    | true =>
      rw [hid] at h
      obtain ⟨h1, h2⟩ := ih h
      have hi := Nat.eq_of_beq_eq_true hid
      refine ⟨h1, ?_⟩
      have : Nat.beq i t = false := by
        cases hb : Nat.beq i t with
        | false => rfl
        | true => exact absurd ((Nat.eq_of_beq_eq_true hb).symm.trans hi) h1
      simp only [knl, this, cond]; exact h2
    | false =>
      rw [hid] at h
      simp only [cond, knl] at h ⊢
      cases hit : Nat.beq i t with
      | true =>
        rw [hit] at h
        have := Nat.eq_of_beq_eq_true hit
        subst this
        exact ⟨fun e => by subst e; simp at hid, h⟩
      | false =>
        rw [hit] at h
        exact ih h

theorem lkH_app (u h : Heap) (id : Nat) : lkH (u ++ h) id = if known u id then lkH u id else lkH h id := by
  induction u with
  | nil => simp [known]
  | cons x l ih =>
    obtain ⟨i, v⟩ := x
    rcases Bool.eq_false_or_eq_true (Nat.beq i id) with hb | hb <;> simp only [List.cons_append, lkH, known, hb, cond_true, cond_false, if_true]
    exact ih

theorem hup_lkH (u h : Heap) : hup (lkH h) u = lkH (u ++ h) := by
  funext id; rw [lkH_app]; rfl

theorem kn_set (hk : KnOk st) (dst : Option Tmp) (v : AV) : KnOk (st.set dst v) := by
  intro t b h
  cases dst with
  | none => exact hk t b h
  | some d =>
    simp only [St.set] at h
    obtain ⟨h1, h2⟩ := knl_drop h
    rw [lkE_set, if_neg (fun e => h1 (by cases e; rfl))]
    exact hk t b h2

/-- One operation's outcome, taken over. -/
theorem Rel.step (hr : Rel c π Z st a w) {dst : Option Tmp} {v : AV} {e : Eff} {u : Value} {w' : World} (hd : ∀ d, dst = some d → d < c.n) (h : After c.B π Z (lkH st.heap) st.nxt v e u w') :
    ∃ π' Z', Rel c π' Z' ((st.eff e).set dst v) (a.put dst u) w' := by
  obtain ⟨π', Z', hx, hnew, hv, hg⟩ := h
  have hheap : ((st.eff e).set dst v).heap = e.upd ++ st.heap := by cases dst <;> rfl
  have hnxt : ((st.eff e).set dst v).nxt = st.nxt + e.al := by cases dst <;> rfl
  refine ⟨π', Z', by rw [put_size.2]; exact hr.defers, by rw [put_size.1]; exact hr.size, fun t => ?_, by rw [hheap, ← hup_lkH]; exact hg, fun id hid => ?_, kn_set (st := st.eff e) hr.kn dst v, fun id hid => ?_, by rw [hnxt]; have := hr.kle; omega, fun b o h => hx.z b o (hr.z0 b o h)⟩
  · rw [lkE_set, put_getD t (fun d h => by rw [hr.size]; exact hd d h)]
    split
    · exact hv
    · exact (hr.env t).ext hx
  · rw [hnxt] at hid
    cases hp : π' id with
    | none => rfl
    | some l =>
      rcases hnew id l hp with h | h
      · rw [hr.fresh id (by omega)] at h; cases h
      · omega
  · rw [← hr.low id hid]
    cases hp : π id with
    | some l => exact hx.pi id l hp
    | none =>
      cases hp' : π' id with
      | none => rfl
      | some l =>
        rcases hnew id l hp' with h | h
        · rw [hp] at h; cases h
        · have := hr.kle; omega

theorem Rel.skip (hr : Rel c π Z st a w) {dst : Option Tmp} (hd : ∀ d, dst = some d → d < c.n) : Rel c π Z (st.set dst (.tup [])) (a.put dst undef) w := by
  have hheap : (st.set dst (.tup [])).heap = st.heap := by cases dst <;> rfl
  have hnxt : (st.set dst (.tup [])).nxt = st.nxt := by cases dst <;> rfl
  refine ⟨by rw [put_size.2]; exact hr.defers, by rw [put_size.1]; exact hr.size, fun t => ?_, by rw [hheap]; exact hr.good, by rw [hnxt]; exact hr.fresh, kn_set hr.kn dst _, hr.low, by rw [hnxt]; exact hr.kle, hr.z0⟩
  rw [lkE_set, put_getD t (fun d h => by rw [hr.size]; exact hd d h)]
  split
  · exact ⟨[], rfl, rfl, fun i a u h => by simp at h⟩
  · exact hr.env t

theorem Rel.setKn (hr : Rel c π Z st a w) {t : Nat} {b : Bool} (h : lkE st.env t = .bool b) : Rel c π Z (setKn st t b) a w := by
  refine ⟨hr.defers, hr.size, hr.env, hr.good, hr.fresh, fun t' b' h' => ?_, hr.low, hr.kle, hr.z0⟩
  simp only [Ax.setKn, knl] at h'
  cases hb : Nat.beq t t' with
  | true =>
    rw [hb] at h'
    have := Nat.eq_of_beq_eq_true hb
    subst this
    simp only [cond, Option.some.injEq] at h'
    subst h'
    exact h
  | false => rw [hb] at h'; exact hr.kn t' b' h'

theorem dstOf_get : ∀ (l : List Oper) (j : Nat), dstOf l j = (l[j]?).bind (·.dst)
  | [], j => by cases j <;> simp [dstOf]
  | o :: l, 0 => by simp [dstOf]
  | o :: l, j + 1 => by simp [dstOf, dstOf_get l j]

theorem dsts_at {n : Nat} {ops : List Oper} (h : dstsOk n ops = true) {j : Nat} {t : Nat} (hd : dstOf ops j = some t) : t < n := by
  rw [dstOf_get] at hd
  cases ho : ops[j]? with
  | none => simp [ho] at hd
  | some o =>
    simp [ho] at hd
    have := List.all_eq_true.1 h o (List.mem_of_getElem? ho)
    simp only [hd] at this
    simpa [Nat.blt_eq] using this

/-- Is a guarded operation wanted? -/
theorem wanted_iff {ops : Array Oper} {o : Oper} {j : Nat} {want b : Bool} {t : Nat} (hg : o.guard = some (j, want)) (ht : dstOf ops.toList j = some t) (hs : t < a.tmps.size) (hv : a.tmps.getD t undef = .bool b) :
    Region.wanted o (yielded ops a.tmps) = (b == want) := by
  have h1 : (ops[j]?).bind (·.dst) = some t := by rw [dstOf_get] at ht; simpa using ht
  have h2 : a.tmps[t]? = some (.bool b) := by
    rw [Array.getD_eq_getD_getElem?, Array.getElem?_eq_getElem hs] at hv
    rw [Array.getElem?_eq_getElem hs]
    simpa using hv
  simp only [Region.wanted, hg, yielded, h1, Option.bind_some, h2]
  cases b <;> cases want <;> rfl

/-- The guard's two ways, as one: does the operation run, and with what known? -/
def GuardSt (all : List Oper) (o : Oper) (st st1 : St) (run : Bool) : Prop :=
  (o.guard = none ∧ run = true ∧ st1 = st) ∨ (∃ j want t b, o.guard = some (j, want) ∧ dstOf all j = some t ∧ lkE st.env t = .bool b ∧ run = (b == want) ∧ (st1 = st ∨ st1 = setKn st t b)) ∨
  ∃ j want t, o.guard = some (j, want) ∧ dstOf all j = some t ∧ lkE st.env t = .tup [] ∧ run = false ∧ st1 = st

theorem guard_inv {all rest : List Oper} {o : Oper} {log : List Eff} {K : St → List Eff → Prop} (hk : KnOk st) (h : opsA tt ct all (o :: rest) st log K) : ∃ st1 run, GuardSt all o st st1 run ∧
    (if run then opA tt ct st1 o.op fun v e => opsA tt ct all rest ((st1.eff e).set o.dst v) (e :: log) K else opsA tt ct all rest (st1.set o.dst (.tup [])) (.no :: log) K) := by
  rw [opsA_cons] at h
  unfold opsF at h
  simp only [stepF_eq, knF_eq] at h
  have hno : ∀ st : St, st.eff .no = st := fun st => rfl
  simp only [hno] at h
  split at h
  · rename_i hg
    exact ⟨st, true, .inl ⟨hg, rfl, rfl⟩, by simpa using h⟩
  · rename_i j want hg
    split at h
    · exact h.elim
    · rename_i t ht
      split at h
      · rename_i b hb
        refine ⟨st, b == want, .inr (.inl ⟨j, want, t, b, hg, ht, hk t b hb, rfl, .inl rfl⟩), ?_⟩
        cases hbw : (b == want) <;> simpa [hbw] using h
      · split at h
        · rename_i b hb
          have hb' : lkE st.env t = .bool b := hb
          refine ⟨setKn st t b, b == want, .inr (.inl ⟨j, want, t, b, hg, ht, hb', rfl, .inr rfl⟩), ?_⟩
          cases b <;> cases want
          · simpa using h.2 rfl
          · simpa using h.2 rfl
          · simpa using h.1 rfl
          · simpa using h.1 rfl
        · rename_i hb
          exact ⟨st, false, .inr (.inr ⟨j, want, t, hg, ht, hb, rfl, rfl⟩), by simpa using h⟩
        · exact h.elim

theorem wanted_un {ops : Array Oper} {o : Oper} {j : Nat} {want : Bool} {t : Nat} (hg : o.guard = some (j, want)) (ht : dstOf ops.toList j = some t) (hs : t < a.tmps.size) (hv : a.tmps.getD t undef = .tuple #[]) :
    Region.wanted o (yielded ops a.tmps) = false := by
  have h1 : (ops[j]?).bind (·.dst) = some t := by rw [dstOf_get] at ht; simpa using ht
  have h2 : a.tmps[t]? = some (.tuple #[]) := by
    rw [Array.getD_eq_getD_getElem?, Array.getElem?_eq_getElem hs] at hv
    rw [Array.getElem?_eq_getElem hs]
    simpa using hv
  simp only [Region.wanted, hg, yielded, h1, Option.bind_some, h2]
  rfl

theorem GuardSt.rel {all : List Oper} {o : Oper} {st1 : St} {run : Bool} (h : GuardSt all o st st1 run) (hr : Rel c π Z st a w) : Rel c π Z st1 a w := by
  rcases h with ⟨_, _, rfl⟩ | ⟨j, want, t, b, _, _, hb, _, h⟩ | ⟨_, _, _, _, _, _, _, rfl⟩
  · exact hr
  · rcases h with rfl | rfl
    · exact hr
    · exact hr.setKn hb
  · exact hr

theorem GuardSt.same {all : List Oper} {o : Oper} {st1 : St} {run : Bool} (h : GuardSt all o st st1 run) : st1.env = st.env ∧ st1.heap = st.heap ∧ st1.nxt = st.nxt := by
  rcases h with ⟨_, _, rfl⟩ | ⟨j, want, t, b, _, _, hb, _, h⟩ | ⟨_, _, _, _, _, _, _, rfl⟩
  · exact ⟨rfl, rfl, rfl⟩
  · rcases h with rfl | rfl <;> exact ⟨rfl, rfl, rfl⟩
  · exact ⟨rfl, rfl, rfl⟩

theorem GuardSt.wanted {ops : Array Oper} {o : Oper} {st1 : St} {run : Bool} (h : GuardSt ops.toList o st st1 run) (hok : dstsOk c.n ops.toList = true) (hr : Rel c π Z st a w) : Region.wanted o (yielded ops a.tmps) = run := by
  rcases h with ⟨hg, rfl, _⟩ | ⟨j, want, t, b, hg, ht, hb, rfl, _⟩ | ⟨j, want, t, hg, ht, hb, rfl, _⟩
  · simp [Region.wanted, hg]
  · have := hr.env t
    rw [hb] at this
    exact wanted_iff hg ht (by rw [hr.size]; exact dsts_at hok ht) (V_bool this)
  · have := hr.env t
    rw [hb] at this
    obtain ⟨vs, hv, hl, _⟩ := this
    have hvs : vs = [] := List.eq_nil_of_length_eq_zero hl
    subst hvs
    exact wanted_un hg ht (by rw [hr.size]; exact dsts_at hok ht) hv

/-- A region in the text's order. -/
theorem ops_seq (hT : TabOk P tt) (hC : SpecsOk P ct) {ops : Array Oper} (hok : dstsOk c.n ops.toList = true) {Q : Exit → Act → World → Prop} {K : St → List Eff → Prop}
    (hQ : ∀ st log π Z a w, K st log → Rel c π Z st a w → Q .normal a w) : ∀ (rest : List Oper) (i : Nat) (st : St) (log : List Eff) (π : PM) (Z : ZM) (a : Act) (w : World), ops.toList.drop i = rest → opsA tt ct ops.toList rest st log K → Rel c π Z st a w →
      wpOps P ops Q (List.range' i rest.length) a w := by
  intro rest
  induction rest with
  | nil =>
    intro i st log π Z a w _ h hr
    rw [opsA_nil] at h
    simpa [wpOps] using hQ st log π Z a w h hr
  | cons o rest ih =>
    intro i st log π Z a w hdrop h hr
    have hi : i < ops.toList.length := by
      rcases Nat.lt_or_ge i ops.toList.length with h | h
      · exact h
      · rw [List.drop_eq_nil_of_le h] at hdrop; cases hdrop
    rw [List.drop_eq_getElem_cons hi] at hdrop
    simp only [List.cons.injEq] at hdrop
    obtain ⟨ho, hrest⟩ := hdrop
    have hoi : ops[i]? = some o := by
      have : ops.toList[i]? = some o := by rw [List.getElem?_eq_getElem hi, ho]
      simpa using this
    have hd : ∀ d, o.dst = some d → d < c.n := fun d h => dsts_at hok (j := i) (by rw [dstOf_get, List.getElem?_eq_getElem hi, ho]; simpa using h)
    obtain ⟨st1, run, hgs, h⟩ := guard_inv hr.kn h
    have hr1 := hgs.rel hr
    simp only [List.length_cons, List.range'_succ, wpOps, hoi, hgs.wanted hok hr]
    cases run with
    | true =>
      simp only [if_true] at h ⊢
      left
      have hV : ∀ x, V π Z (evalA st1 x) (a.eval x) := V_eval hr1.env
      obtain ⟨v, e, hK, hop⟩ := op_sound (ρ := a.eval) hT hC hr1.kn (fun f => rfl) (fun x _ => hV x) hr1.good h
      have hout := hop c.B π Z (lkH st1.heap) w a.eval (fun f => rfl) (fun x _ => hV x) hr1.good (fun _ _ => rfl) (fun id h1 _ => hr1.fresh id h1)
      refine upon_outc hout fun u w' haft => ?_
      obtain ⟨π', Z', hr'⟩ := hr1.step hd haft
      exact ih (i + 1) _ _ π' Z' _ _ hrest hK hr'
    | false =>
      simp only [Bool.false_eq_true, if_false] at h ⊢
      exact ih (i + 1) _ _ π Z _ _ hrest h (hr1.skip hd)

end
end Go.Ax

/- Regions that draw their order. -/
namespace Go.Ax
open Go

/-! Writes, some of them made. -/
section
variable {κ β : Type}

def app (s : κ → β) (w : κ → Option β) : κ → β := fun k => (w k).getD (s k)

def foldD (D : Nat → Bool) (s : κ → β) : List (κ → Option β) → κ → β
  | [] => s
  | w :: ws => foldD (fun j => D (j + 1)) (if D 0 then app s w else s) ws

theorem foldD_base {D : Nat → Bool} {s s' : κ → β} {k : κ} (h : s k = s' k) : ∀ {ws : List (κ → Option β)}, foldD D s ws k = foldD D s' ws k := by
  intro ws
  induction ws generalizing D s s' with
  | nil => exact h
  | cons w ws ih =>
    simp only [foldD]
    refine ih ?_
    split
    · simp [app, h]
    · exact h

theorem foldD_agree {k : κ} : ∀ {ws : List (κ → Option β)} {D D' : Nat → Bool} {s : κ → β}, (∀ j w, ws[j]? = some w → D j ≠ D' j → w k = none) → foldD D s ws k = foldD D' s ws k := by
  intro ws
  induction ws with
  | nil => intros; rfl
  | cons w ws ih =>
    intro D D' s h
    simp only [foldD]
    rw [ih (D' := fun j => D' (j + 1)) (fun j x hj hne => h (j + 1) x (by simpa using hj) hne)]
    refine foldD_base ?_
    have h0 := h 0 w rfl
    cases hd : D 0 <;> cases hd' : D' 0 <;> simp [hd, hd'] at h0 ⊢
    · simp [app, h0]
    · simp [app, h0]

theorem foldD_set {k : κ} : ∀ {ws : List (κ → Option β)} {D D' : Nat → Bool} {s : κ → β} {i : Nat} {wi : κ → Option β}, ws[i]? = some wi → D i = false → D' i = true → (∀ j, j ≠ i → D' j = D j) →
    (∀ j w, ws[j]? = some w → i < j → D j = true → (wi k).isSome = true → w k = none) → foldD D' s ws k = app (foldD D s ws) wi k := by
  intro ws
  induction ws with
  | nil => intro D D' s i wi hi; simp at hi
  | cons w ws ih =>
    intro D D' s i wi hi h0 h1 hs hl
    cases i with
    | zero =>
      simp only [List.getElem?_cons_zero, Option.some.injEq] at hi
      subst hi
      simp only [foldD, h0, h1, if_true, Bool.false_eq_true, if_false]
      have e : (fun j => D' (j + 1)) = fun j => D (j + 1) := funext fun j => hs (j + 1) (by simp)
      rw [e]
      cases hw : w k with
      | none =>
        simp only [app, hw, Option.getD_none]
        exact foldD_base (by simp [app, hw])
      | some b =>
        simp only [app, hw, Option.getD_some]
        have : ∀ (ws : List (κ → Option β)) (D : Nat → Bool) (s : κ → β), s k = b → (∀ j x, ws[j]? = some x → D j = true → x k = none) → foldD D s ws k = b := by
          intro ws
          induction ws with
          | nil => intro D s hb _; exact hb
          | cons x ws ih2 =>
            intro D s hb hn
            simp only [foldD]
            refine ih2 _ _ ?_ (fun j y hj hd => hn (j + 1) y (by simpa using hj) hd)
            split
            · rename_i hd; simp [app, hn 0 x rfl hd, hb]
            · exact hb
        exact this ws _ _ (by simp [app, hw]) (fun j x hj hd => hl (j + 1) x (by simpa using hj) (by omega) hd (by simp [hw]))
    | succ i =>
      simp only [foldD]
      rw [hs 0 (by simp)]
      exact ih (D := fun j => D (j + 1)) (D' := fun j => D' (j + 1)) (by simpa using hi) h0 h1 (fun j hj => hs (j + 1) (by omega)) (fun j x hj hlt hd hk => hl (j + 1) x (by simpa using hj) (by omega) hd hk)
end

def unl : Nat → (Nat → Bool) → Nat
  | 0, _ => 0
  | n + 1, f => unl n f + (if f n then 0 else 1)

theorem unl_zero : ∀ {n : Nat} {f : Nat → Bool}, unl n f = 0 → ∀ i, i < n → f i = true
  | 0, _, _, i, hi => absurd hi (Nat.not_lt_zero i)
  | n + 1, f, h, i, hi => by
    simp only [unl] at h
    by_cases hin : i = n
    · subst hin
      cases hf : f i with
      | true => rfl
      | false => simp [hf] at h
    · exact unl_zero (n := n) (f := f) (by omega) i (by omega)

theorem unl_congr : ∀ {n : Nat} {f g : Nat → Bool}, (∀ j, j < n → f j = g j) → unl n f = unl n g
  | 0, _, _, _ => rfl
  | n + 1, f, g, h => by simp only [unl]; rw [unl_congr (fun j hj => h j (by omega)), h n (by omega)]

theorem unl_set : ∀ {n : Nat} {f g : Nat → Bool} {i : Nat}, i < n → f i = false → g i = true → (∀ j, j ≠ i → g j = f j) → unl n g + 1 = unl n f
  | n + 1, f, g, i, hi, hf, hg, h => by
    simp only [unl]
    by_cases hin : i = n
    · subst hin
      rw [unl_congr (f := g) (g := f) (fun j hj => h j (by omega))]
      simp [hf, hg]
    · have := unl_set (n := n) (by omega) hf hg h
      rw [h n (fun e => hin e.symm)]
      omega

theorem unl_none {n : Nat} : ∀ {f : Nat → Bool}, (∀ j, j < n → f j = false) → unl n f = n := by
  induction n with
  | zero => intros; rfl
  | succ n ih => intro f h; simp only [unl]; rw [ih (fun j hj => h j (by omega)), h n (by omega)]; simp

theorem blt_no {a b : Nat} (h : b ≤ a) : Nat.blt a b = false := by
  cases hb : Nat.blt a b with
  | false => rfl
  | true =>
    rw [Nat.blt_eq] at hb
    omega

theorem blt_yes {a b : Nat} (h : a < b) : Nat.blt a b = true := by rw [Nat.blt_eq]; exact h

/-- One operation of the text's order. -/
structure Ent where
  o : Oper
  st : St
  run : Bool
  v : AV
  e : Eff

inductive Trace (P : Program) (all : List Oper) : List Oper → St → List Ent → St → Prop where
  | nil (st : St) : Trace P all [] st [] st
  | cons {o : Oper} {rest : List Oper} {st st1 stE : St} {run : Bool} {v : AV} {e : Eff} {es : List Ent} : GuardSt all o st st1 run → (run = true → OpS' P st o v e) → (run = false → v = .tup [] ∧ e = .no) →
      Trace P all rest ((st1.eff e).set o.dst v) es stE → Trace P all (o :: rest) st (⟨o, st, run, v, e⟩ :: es) stE

theorem evalA_congr {st st' : St} (h : st'.env = st.env) (x : Operand) : evalA st' x = evalA st x := by
  cases x <;> simp [evalA, h]

theorem OpS'.congr {P : Program} {st st' : St} {o : Oper} {v : AV} {e : Eff} (h : OpS' P st' o v e) (he : st'.env = st.env) (hh : st'.heap = st.heap) (hn : st'.nxt = st.nxt) : OpS' P st o v e := by
  intro B π Z H w ρ hf hρ hg hrd hfr
  rw [← hn]
  exact h B π Z H w ρ hf (fun x hx => by rw [evalA_congr he]; exact hρ x hx) hg (by rw [hh]; exact hrd) (by rw [hn]; exact hfr)

section
variable {P : Program} {tt : Tab} {ct : Specs} {c : Cx}

theorem outc_world {r : Result Next} {post : Value → World → Prop} (h : Outc P r post) : ∃ v w', post v w' := by
  unfold Outc at h
  split at h
  · exact ⟨_, _, h⟩
  · exact ⟨_, _, h⟩
  · obtain ⟨e, w', fr, ⟨v, _, hp⟩, _⟩ := h []
    exact ⟨v, w', hp⟩
  · exact h.elim

theorem trace_of (hT : TabOk P tt) (hC : SpecsOk P ct) {ops : Array Oper} (hok : dstsOk c.n ops.toList = true) {K : St → List Eff → Prop} : ∀ (rest : List Oper) (i : Nat) (st : St) (log : List Eff) (π : PM) (Z : ZM) (a : Act) (w : World),
    ops.toList.drop i = rest → opsA tt ct ops.toList rest st log K → Rel c π Z st a w → ∃ es stE, Trace P ops.toList rest st es stE ∧ K stE ((es.map (·.e)).reverse ++ log) ∧ KnOk stE := by
  intro rest
  induction rest with
  | nil =>
    intro i st log π Z a w _ h hr
    exact ⟨[], st, .nil st, by simpa [opsA_nil] using h, hr.kn⟩
  | cons o rest ih =>
    intro i st log π Z a w hdrop h hr
    have hi : i < ops.toList.length := by
      rcases Nat.lt_or_ge i ops.toList.length with h | h
      · exact h
      · rw [List.drop_eq_nil_of_le h] at hdrop; cases hdrop
    rw [List.drop_eq_getElem_cons hi] at hdrop
    simp only [List.cons.injEq] at hdrop
    obtain ⟨ho, hrest⟩ := hdrop
    have hd : ∀ d, o.dst = some d → d < c.n := fun d h => dsts_at hok (j := i) (by rw [dstOf_get, List.getElem?_eq_getElem hi, ho]; simpa using h)
    obtain ⟨st1, run, hgs, h⟩ := guard_inv hr.kn h
    have hr1 := hgs.rel hr
    obtain ⟨s1, s2, s3⟩ := hgs.same
    cases run with
    | true =>
      simp only [if_true] at h
      have hV : ∀ x, V π Z (evalA st1 x) (a.eval x) := V_eval hr1.env
      obtain ⟨v, e, hK, hop⟩ := op_sound (ρ := a.eval) hT hC hr1.kn (fun f => rfl) (fun x _ => hV x) hr1.good h
      have hout := hop c.B π Z (lkH st1.heap) w a.eval (fun f => rfl) (fun x _ => hV x) hr1.good (fun _ _ => rfl) (fun id h1 _ => hr1.fresh id h1)
      obtain ⟨u, w', haft⟩ := outc_world hout
      obtain ⟨π', Z', hr'⟩ := hr1.step hd haft
      obtain ⟨es, stE, h1, h2, h3⟩ := ih (i + 1) _ _ π' Z' _ _ hrest hK hr'
      exact ⟨_, stE, .cons hgs (fun _ => hop.congr s1 s2 s3) (fun h => by cases h) h1, by simpa using h2, h3⟩
    | false =>
      simp only [Bool.false_eq_true, if_false] at h
      obtain ⟨es, stE, h1, h2, h3⟩ := ih (i + 1) _ _ π Z _ _ hrest h (hr1.skip hd)
      exact ⟨_, stE, .cons (v := .tup []) (e := .no) hgs (fun h => by cases h) (fun _ => ⟨rfl, rfl⟩) h1, by simpa using h2, h3⟩

def wE (E : Ent) : Nat → Option AV := fun t => if E.o.dst = some t then some E.v else none
def wH (E : Ent) : Nat → Option (Option AV) := fun id => if known E.e.upd id then some (lkH E.e.upd id) else none
def alTo : List Ent → Nat → Nat
  | [], _ => 0
  | _, 0 => 0
  | E :: es, n + 1 => E.e.al + alTo es n

theorem after_env {st st1 : St} {o : Oper} {v : AV} {e : Eff} (s1 : st1.env = st.env) {run : Bool} : lkE ((st1.eff e).set o.dst v).env = app (lkE st.env) (wE ⟨o, st, run, v, e⟩) := by
  funext t
  rw [lkE_set]
  simp only [St.eff, s1, app, wE]
  split <;> rfl

theorem after_heap {st st1 : St} {o : Oper} {v : AV} {e : Eff} (s2 : st1.heap = st.heap) {run : Bool} : lkH ((st1.eff e).set o.dst v).heap = app (lkH st.heap) (wH ⟨o, st, run, v, e⟩) := by
  have hheap : ((st1.eff e).set o.dst v).heap = e.upd ++ st1.heap := by cases o.dst <;> rfl
  funext id
  rw [hheap, lkH_app, s2]
  simp only [app, wH]
  split <;> rfl

theorem after_nxt {st st1 : St} {o : Oper} {v : AV} {e : Eff} (s3 : st1.nxt = st.nxt) : ((st1.eff e).set o.dst v).nxt = st.nxt + e.al := by
  cases o.dst <;> simp [St.set, St.eff, s3]

theorem Trace.length {all rest : List Oper} {st stE : St} {es : List Ent} (h : Trace P all rest st es stE) : es.length = rest.length := by
  induction h with
  | nil => rfl
  | cons _ _ _ _ ih => simp [ih]

/-- What each operation finds in the text's order. -/
theorem Trace.at {all rest : List Oper} {st stE : St} {es : List Ent} (h : Trace P all rest st es stE) : ∀ (i : Nat) (E : Ent), es[i]? = some E →
    rest[i]? = some E.o ∧ (∃ st1, GuardSt all E.o E.st st1 E.run) ∧ (E.run = true → OpS' P E.st E.o E.v E.e) ∧ (E.run = false → E.v = .tup [] ∧ E.e = .no) ∧
    lkE E.st.env = foldD (fun j => Nat.blt j i) (lkE st.env) (es.map wE) ∧ lkH E.st.heap = foldD (fun j => Nat.blt j i) (lkH st.heap) (es.map wH) ∧ E.st.nxt = st.nxt + alTo es i := by
  have e0 : ∀ {κ β : Type} (s : κ → β) (ws : List (κ → Option β)), foldD (fun j => Nat.blt j 0) s ws = s := by
    intro κ β s ws
    have hf : (fun j => Nat.blt j 0) = fun _ => false := by funext j; simp [Nat.blt, Nat.ble]
    rw [hf]
    induction ws with
    | nil => rfl
    | cons w ws ih => simpa [foldD] using ih
  induction h with
  | nil => intro i E hE; simp at hE
  | cons hg hr hs ht ih =>
    rename_i o rest st st1 stE run v e es
    intro i E hE
    obtain ⟨s1, s2, s3⟩ := hg.same
    cases i with
    | zero =>
      simp only [List.getElem?_cons_zero, Option.some.injEq] at hE
      subst hE
      exact ⟨rfl, ⟨st1, hg⟩, hr, hs, (e0 _ _).symm, (e0 _ _).symm, by simp [alTo]⟩
    | succ i =>
      simp only [List.getElem?_cons_succ] at hE
      obtain ⟨h1, h2, h3, h4, h5, h6, h7⟩ := ih i E hE
      have hb : (fun j => Nat.blt (j + 1) (i + 1)) = fun j => Nat.blt j i := by funext j; simp [Nat.blt, Nat.ble]
      refine ⟨by simpa using h1, h2, h3, h4, ?_, ?_, ?_⟩
      · rw [h5, after_env s1 (run := run)]
        simp only [List.map_cons, foldD, hb]
        rfl
      · rw [h6, after_heap s2 (run := run)]
        simp only [List.map_cons, foldD, hb]
        rfl
      · rw [h7, after_nxt s3]
        simp only [alTo]
        omega

theorem Trace.end {all rest : List Oper} {st stE : St} {es : List Ent} (h : Trace P all rest st es stE) : lkE stE.env = foldD (fun _ => true) (lkE st.env) (es.map wE) ∧
    lkH stE.heap = foldD (fun _ => true) (lkH st.heap) (es.map wH) ∧ stE.nxt = st.nxt + alTo es es.length := by
  induction h with
  | nil => exact ⟨rfl, rfl, rfl⟩
  | cons hg hr hs ht ih =>
    rename_i o rest st st1 stE run v e es
    obtain ⟨s1, s2, s3⟩ := hg.same
    obtain ⟨h1, h2, h3⟩ := ih
    refine ⟨?_, ?_, ?_⟩
    · rw [h1, after_env s1 (run := run)]; simp [foldD]
    · rw [h2, after_heap s2 (run := run)]; simp [foldD]
    · rw [h3, after_nxt s3]
      simp only [List.length_cons, alTo]
      omega

theorem alTo_mono : ∀ {es : List Ent} {i j : Nat}, i ≤ j → alTo es i ≤ alTo es j
  | [], _, _, _ => by simp [alTo]
  | _ :: _, 0, _, _ => by simp [alTo]
  | E :: es, i + 1, j + 1, h => by simp only [alTo]; have := alTo_mono (es := es) (i := i) (j := j) (by omega); omega

theorem alTo_succ : ∀ {es : List Ent} {i : Nat} {E : Ent}, es[i]? = some E → alTo es (i + 1) = alTo es i + E.e.al
  | [], _, _, h => by simp at h
  | E :: es, 0, E', h => by simp at h; subst h; cases es <;> simp [alTo]
  | E :: es, i + 1, E', h => by
    have := alTo_succ (es := es) (i := i) (E := E') (by simpa using h)
    simp only [alTo] at this ⊢
    omega

/-! What the check says. -/
theorem meets_false {a b : List Nat} (h : meets a b = false) {x : Nat} (h1 : x ∈ a) (h2 : x ∈ b) : False := by
  have : meets a b = true := List.any_eq_true.2 ⟨x, h1, List.any_eq_true.2 ⟨x, h2, by simp⟩⟩
  rw [this] at h; cases h

theorem pairsOk_spec {all : List Oper} {x : Oper} {ex : Eff} {bit : Nat} : ∀ {ys : List Oper} {es : List Eff} {bs : List Nat}, pairsOk all x ex bit ys es bs = true → ∀ (j : Nat) (y : Oper) (ey : Eff) (b : Nat),
    ys[j]? = some y → es[j]? = some ey → bs[j]? = some b → b.testBit bit = true ∨ clash all x ex y ey = false
  | [], _, _, _, j, y, ey, b, h1, _, _ => by simp at h1
  | y :: ys, [], bs, h, _, _, _, _, _, _, _ => by simp [pairsOk] at h
  | y :: ys, e :: es, [], h, _, _, _, _, _, _, _ => by simp [pairsOk] at h
  | y :: ys, e :: es, b :: bs, h, j, y', ey, b', h1, h2, h3 => by
    simp only [pairsOk, Bool.and_eq_true, Bool.or_eq_true, Bool.not_eq_true'] at h
    cases j with
    | zero => simp at h1 h2 h3; subst h1; subst h2; subst h3; exact h.1
    | succ j => exact pairsOk_spec h.2 j y' ey b' (by simpa using h1) (by simpa using h2) (by simpa using h3)

theorem indep_spec {all : List Oper} : ∀ {xs : List Oper} {es : List Eff} {bs : List Nat} {i0 : Nat}, indep all xs es bs i0 = true → ∀ (i j : Nat) (x y : Oper) (ex ey : Eff) (b : Nat), i < j →
    xs[i]? = some x → es[i]? = some ex → xs[j]? = some y → es[j]? = some ey → bs[j]? = some b → b.testBit (i0 + i) = true ∨ clash all x ex y ey = false
  | [], _, _, _, _, i, j, x, y, ex, ey, b, _, h1, _, _, _, _ => by simp at h1
  | x :: xs, [], bs, _, h, _, _, _, _, _, _, _, _, _, _, _, _, _ => by simp [indep] at h
  | x :: xs, e :: es, [], _, h, _, _, _, _, _, _, _, _, _, _, _, _, _ => by simp [indep] at h
  | x :: xs, e :: es, b :: bs, i0, h, i, j, x', y, ex, ey, b', hlt, h1, h2, h3, h4, h5 => by
    simp only [indep, Bool.and_eq_true] at h
    cases j with
    | zero => omega
    | succ j =>
      cases i with
      | zero =>
        simp at h1 h2
        subst h1; subst h2
        simpa using pairsOk_spec h.1 j y ey b' (by simpa using h3) (by simpa using h4) (by simpa using h5)
      | succ i =>
        have := indep_spec h.2 i j x' y ex ey b' (by omega) (by simpa using h1) (by simpa using h2) (by simpa using h3) (by simpa using h4) (by simpa using h5)
        rw [show i0 + (i + 1) = i0 + 1 + i by omega]
        exact this


theorem bef_fold {acc : List Nat} {i : Nat} : ∀ (l : List Edge) (s : Nat), (l.foldl (fun s e => cond (Region.binds .any e) (s ||| 2 ^ e.on ||| acc.getD e.on 0) s) s).testBit i = true →
    s.testBit i = true ∨ ∃ e ∈ l, Region.binds .any e = true ∧ (e.on = i ∨ (acc.getD e.on 0).testBit i = true)
  | [], s, h => .inl h
  | e :: l, s, h => by
    simp only [List.foldl_cons] at h
    rcases bef_fold l _ h with h | ⟨e', h1, h2⟩
    · cases hb : Region.binds .any e with
      | false => rw [hb] at h; exact .inl h
      | true =>
        rw [hb] at h
        simp only [cond_true, Nat.testBit_or, Bool.or_eq_true, Nat.testBit_two_pow, decide_eq_true_eq] at h
        rcases h with (h | h) | h
        · exact .inl h
        · exact .inr ⟨e, by simp, hb, .inl h⟩
        · exact .inr ⟨e, by simp, hb, .inr h⟩
    · exact .inr ⟨e', by simp [h1], h2⟩

theorem befs_spec {D : Nat → Bool} : ∀ (l : List Oper) (acc : List Nat), (∀ (k : Nat) (o : Oper), l[k]? = some o → D (acc.length + k) = true → ∀ e ∈ o.after.toList, Region.binds .any e = true → D e.on = true) →
    (∀ (j b i : Nat), acc[j]? = some b → b.testBit i = true → D j = true → D i = true) → ∀ (j b i : Nat), (befs l acc)[j]? = some b → b.testBit i = true → D j = true → D i = true
  | [], acc, _, h, j, b, i, h1, h2, h3 => h j b i h1 h2 h3
  | o :: l, acc, hc, h, j, b, i, h1, h2, h3 => by
    refine befs_spec l _ (fun k o' ho' hd => hc (k + 1) o' (by simpa using ho') (by simpa [Nat.add_assoc, Nat.add_comm 1 k] using hd)) (fun j b i hb ht hd => ?_) j b i h1 h2 h3
    rw [List.getElem?_append] at hb
    split at hb
    · exact h j b i hb ht hd
    · rename_i hge
      have hj : j = acc.length := by
        rcases Nat.lt_or_ge (j - acc.length) 1 with h | h
        · omega
        · rw [List.getElem?_eq_none (by simpa using h)] at hb; cases hb
      subst hj
      simp only [Nat.sub_self, List.getElem?_cons_zero, Option.some.injEq] at hb
      subst hb
      rcases bef_fold _ _ ht with h0 | ⟨e, he, hbd, h1 | h1⟩
      · simp at h0
      · subst h1; exact hc 0 o rfl (by simpa using hd) e he hbd
      · have hde := hc 0 o rfl (by simpa using hd) e he hbd
        cases hac : acc[e.on]? with
        | none => simp [hac] at h1
        | some b' =>
          simp [hac] at h1
          exact h e.on b' i hac h1 hde

theorem edgesOk_spec {all : List Oper} : ∀ {l : List Oper} {i0 : Nat}, edgesOk all l i0 = true → ∀ (k : Nat) (o : Oper), l[k]? = some o → ∀ e ∈ o.after.toList, Region.binds .any e = true → e.on < i0 + k
  | [], _, _, k, o, h, _, _, _ => by simp at h
  | o :: l, i0, h, k, o', hk, e, he, hb => by
    simp only [edgesOk, Bool.and_eq_true] at h
    cases k with
    | zero =>
      simp at hk; subst hk
      have := List.all_eq_true.1 h.1.1 e he
      simp [hb, Nat.blt_eq] at this
      simpa using this
    | succ k =>
      have := edgesOk_spec h.2 k o' (by simpa using hk) e he hb
      omega

theorem befs_length : ∀ (l : List Oper) (acc : List Nat), (befs l acc).length = acc.length + l.length
  | [], acc => by simp [befs]
  | o :: l, acc => by simp only [befs]; rw [befs_length l]; simp; omega

structure Inv (c : Cx) (ops : Array Oper) (st : St) (es : List Ent) (D : Nat → Bool) (π : PM) (Z : ZM) (a : Act) (w : World) : Prop where
  defers : a.defers = []
  size : a.tmps.size = c.n
  env : ∀ t, V π Z (foldD D (lkE st.env) (es.map wE) t) (a.tmps.getD t undef)
  good : Good c.B π Z (foldD D (lkH st.heap) (es.map wH)) w
  fresh : ∀ id l, π id = some l → id < st.nxt ∨ ∃ j E, es[j]? = some E ∧ D j = true ∧ st.nxt + alTo es j ≤ id ∧ id < st.nxt + alTo es j + E.e.al
  low : ∀ id, id < c.k0 → π id = c.π0 id
  kle : c.k0 ≤ st.nxt
  z0 : ∀ b o, c.Z0 b = some o → Z b = some o
  closed : ∀ (j : Nat) (o : Oper), ops.toList[j]? = some o → D j = true → ∀ e ∈ o.after.toList, Region.binds .any e = true → D e.on = true

theorem wpAny_ax {ops : Array Oper} (hok : dstsOk c.n ops.toList = true) {st stE : St} {es : List Ent} (ht : Trace P ops.toList ops.toList st es stE) (hchk : drawOk ops.toList (es.map (·.e)).reverse = true)
    (hkE : KnOk stE) {Q : Exit → Act → World → Prop} (hQ : ∀ π Z a w, Rel c π Z stE a w → Q .normal a w) : ∀ (fuel : Nat) (listed : Array Bool) (π : PM) (Z : ZM) (a : Act) (w : World), listed.size = ops.size →
      unl ops.size (fun i => listed.getD i false) = fuel → Inv c ops st es (fun i => listed.getD i false) π Z a w → wpAny P .any ops Q fuel listed a w := by
  simp only [drawOk, Bool.and_eq_true, List.reverse_reverse] at hchk
  obtain ⟨hedge, hind⟩ := hchk
  have hlen := ht.length
  have hdone : ∀ (listed : Array Bool) (π : PM) (Z : ZM) (a : Act) (w : World), listed.size = ops.size → (∀ i, i < ops.size → listed.getD i false = true) → Inv c ops st es (fun i => listed.getD i false) π Z a w → Q .normal a w := by
    intro listed π Z a w hsz hall hI
    obtain ⟨h1, h2, h3⟩ := ht.end
    have hag : ∀ {κ β : Type} (s : κ → β) (wf : Ent → κ → Option β), foldD (fun i => listed.getD i false) s (es.map wf) = foldD (fun _ => true) s (es.map wf) := by
      intro κ β s wf
      funext k
      refine foldD_agree fun j x hj hne => ?_
      have : j < es.length := by simpa using (List.getElem?_eq_some_iff.1 hj).1
      exact absurd (hall j (by rw [hlen] at this; simpa using this)) hne
    refine hQ π Z a w ⟨hI.defers, hI.size, fun t => ?_, ?_, fun id hid => ?_, hkE, hI.low, by rw [h3]; have := hI.kle; omega, hI.z0⟩
    · rw [h1, ← hag]; exact hI.env t
    · rw [h2, ← hag]; exact hI.good
    · cases hp : π id with
      | none => rfl
      | some l =>
        rw [h3] at hid
        rcases hI.fresh id l hp with h | ⟨j, E, hE, _, _, h⟩
        · omega
        · have hj : j < es.length := (List.getElem?_eq_some_iff.1 hE).1
          have := alTo_succ hE
          have := alTo_mono (es := es) (i := j + 1) (j := es.length) (by omega)
          omega
  intro fuel
  induction fuel with
  | zero =>
    intro listed π Z a w hsz hu hI
    have hall := unl_zero hu
    refine ⟨?_, hdone listed π Z a w hsz hall hI⟩
    rw [List.eq_nil_iff_forall_not_mem]
    intro i hi
    obtain ⟨h0, o, ho, _⟩ := mem_ready.1 hi
    have hlt : i < ops.size := (Array.getElem?_eq_some_iff.1 ho).1
    have h1 := hall i hlt
    have hl : i < listed.size := by omega
    simp [hl] at h0 h1
    rw [h0] at h1; cases h1
  | succ fuel ih =>
    intro listed π Z a w hsz hu hI
    refine ⟨fun hr => hdone listed π Z a w hsz ?_ hI, fun i hi => ?_⟩
    · intro i
      induction i using Nat.strongRecOn with
      | _ i ihi =>
        intro hlt
        cases hd : listed.getD i false with
        | true => rfl
        | false =>
          exfalso
          have hl : i < listed.size := by omega
          have : i ∈ Region.ready .any ops listed := by
            refine mem_ready.2 ⟨by simp [hl] at hd ⊢; exact hd, ops[i], Array.getElem?_eq_getElem hlt, fun e he hb => ?_⟩
            have := edgesOk_spec hedge i ops[i] (by rw [Array.getElem?_toList]; exact Array.getElem?_eq_getElem hlt) e (by simpa using he) hb
            exact ihi e.on (by omega) (by omega)
          rw [hr] at this; cases this
    · obtain ⟨h0, o, ho, hedges⟩ := mem_ready.1 hi
      have hlt : i < ops.size := (Array.getElem?_eq_some_iff.1 ho).1
      have hl : i < listed.size := by omega
      have hDi : listed.getD i false = false := by simp [hl] at h0 ⊢; exact h0
      have hie : i < es.length := by rw [hlen]; simpa using hlt
      obtain ⟨E, hE⟩ : ∃ E, es[i]? = some E := ⟨_, List.getElem?_eq_getElem hie⟩
      obtain ⟨t1, ⟨st1, t2⟩, t3, t4, t5, t6, t7⟩ := ht.at i E hE
      have hoE : E.o = o := by
        rw [Array.getElem?_toList, ho] at t1
        exact (Option.some.inj t1).symm
      let D : Nat → Bool := fun j => listed.getD j false
      let D' : Nat → Bool := fun j => (listed.setIfInBounds i true).getD j false
      have hD'i : D' i = true := by simp [D', hl]
      have hD'j : ∀ j, j ≠ i → D' j = D j := fun j hj => by simp only [D', D]; exact getD_set_ne false (Ne.symm hj)
      have hclosed' : ∀ (j : Nat) (o : Oper), ops.toList[j]? = some o → D' j = true → ∀ e ∈ o.after.toList, Region.binds .any e = true → D' e.on = true := by
        intro j oj hj hd e he hb
        have : D e.on = true := by
          by_cases hji : j = i
          · subst hji
            rw [Array.getElem?_toList, ho] at hj
            cases hj
            exact hedges e (by simpa using he) hb
          · rw [hD'j j hji] at hd
            exact hI.closed j oj hj hd e he hb
        exact getD_set_true this
      have hbef : ∀ {G : Nat → Bool}, (∀ (j : Nat) (o : Oper), ops.toList[j]? = some o → G j = true → ∀ e ∈ o.after.toList, Region.binds .any e = true → G e.on = true) →
          ∀ (j b k : Nat), (befs ops.toList [])[j]? = some b → b.testBit k = true → G j = true → G k = true :=
        fun hG j b k => befs_spec ops.toList [] (fun k o h hd => hG k o h (by simpa using hd)) (fun j b i h => by simp at h) j b k
      have hb_at : ∀ j, j < ops.size → ∃ b, (befs ops.toList [])[j]? = some b := fun j hj => ⟨_, List.getElem?_eq_getElem (by rw [befs_length]; simpa using hj)⟩
      have hEat : ∀ (j : Nat) (Ej : Ent), es[j]? = some Ej → ops.toList[j]? = some Ej.o ∧ (es.map (·.e))[j]? = some Ej.e ∧ j < ops.size := fun j Ej hj => by
        refine ⟨(ht.at j Ej hj).1, by simp [hj], ?_⟩
        have := (List.getElem?_eq_some_iff.1 hj).1
        rw [hlen] at this; simpa using this
      have hearly : ∀ (j : Nat) (Ej : Ent), es[j]? = some Ej → j < i → D j = false → clash ops.toList Ej.o Ej.e E.o E.e = false := by
        intro j Ej hj hji hd
        obtain ⟨b, hb⟩ := hb_at i hlt
        obtain ⟨a1, a2, _⟩ := hEat j Ej hj
        obtain ⟨b1, b2, _⟩ := hEat i E hE
        rcases indep_spec hind j i Ej.o E.o Ej.e E.e b hji a1 a2 b1 b2 hb with h | h
        · have := hbef hclosed' i b j hb (by simpa using h) hD'i
          rw [hD'j j (by omega), hd] at this; cases this
        · exact h
      have hlate : ∀ (j : Nat) (Ej : Ent), es[j]? = some Ej → i < j → D j = true → clash ops.toList E.o E.e Ej.o Ej.e = false := by
        intro j Ej hj hji hd
        obtain ⟨a1, a2, a3⟩ := hEat j Ej hj
        obtain ⟨b, hb⟩ := hb_at j a3
        obtain ⟨b1, b2, _⟩ := hEat i E hE
        rcases indep_spec hind i j E.o Ej.o E.e Ej.e b hji b1 b2 a1 a2 hb with h | h
        · have := hbef hI.closed j b i hb (by simpa using h) hd
          rw [hDi] at this; cases this
        · exact h
      have hEo := hoE
      have hlook : ∀ t, t ∈ opTmps o ++ guardTmp ops.toList o → foldD D (lkE st.env) (es.map wE) t = lkE E.st.env t := by
        intro t htm
        rw [t5]
        refine foldD_agree fun j x hj hne => ?_
        simp only [List.getElem?_map, Option.map_eq_some_iff] at hj
        obtain ⟨Ej, hEj, rfl⟩ := hj
        simp only [wE]
        split
        · rename_i hdst
          exfalso
          rcases Nat.lt_trichotomy j i with hji | hji | hji
          · have hd : D j = false := by
              cases hd : D j with
              | false => rfl
              | true => exact absurd (hd.trans (blt_yes hji).symm) hne
            have := hearly j Ej hEj hji hd
            simp only [clash, Bool.or_eq_false_iff] at this
            exact meets_false (x := t) this.1.1.1 (by simp [hdst]) (by rw [hoE]; exact List.mem_append_left _ htm)
          · subst hji
            exact hne (hDi.trans (blt_no (Nat.le_refl _)).symm)
          · have hd : D j = true := by
              cases hd : D j with
              | true => rfl
              | false => exact absurd (hd.trans (blt_no (Nat.le_of_lt hji)).symm) hne
            have := hlate j Ej hEj hji hd
            simp only [clash, Bool.or_eq_false_iff] at this
            exact meets_false (x := t) this.1.1.2 (by simp [hdst]) (by rw [hoE]; exact htm)
        · rfl
      have hrd : ∀ id ∈ E.e.rd, foldD D (lkH st.heap) (es.map wH) id = lkH E.st.heap id := by
        intro id hid
        rw [t6]
        refine foldD_agree fun j x hj hne => ?_
        simp only [List.getElem?_map, Option.map_eq_some_iff] at hj
        obtain ⟨Ej, hEj, rfl⟩ := hj
        simp only [wH]
        split
        · rename_i hk
          exfalso
          have hmem : id ∈ updIds Ej.e := by
            clear hne hEj
            have : ∀ (u : Heap), known u id = true → id ∈ u.map (·.1) := by
              intro u
              induction u with
              | nil => simp [known]
              | cons x l ih =>
                obtain ⟨k, v⟩ := x
                intro h
                unfold known at h
                cases hb : Nat.beq k id with
                | true => simp [Nat.eq_of_beq_eq_true hb]
                | false => rw [hb] at h; exact List.mem_cons_of_mem _ (ih h)
            exact this _ hk
          rcases Nat.lt_trichotomy j i with hji | hji | hji
          · have hd : D j = false := by
              cases hd : D j with
              | false => rfl
              | true => exact absurd (hd.trans (blt_yes hji).symm) hne
            have := hearly j Ej hEj hji hd
            simp only [clash, Bool.or_eq_false_iff] at this
            exact meets_false (x := id) this.1.2 hmem (List.mem_append_left _ hid)
          · subst hji
            exact hne (hDi.trans (blt_no (Nat.le_refl _)).symm)
          · have hd : D j = true := by
              cases hd : D j with
              | true => rfl
              | false => exact absurd (hd.trans (blt_no (Nat.le_of_lt hji)).symm) hne
            have := hlate j Ej hEj hji hd
            simp only [clash, Bool.or_eq_false_iff] at this
            exact meets_false (x := id) this.2 hmem hid
        · rfl
      have hmemU : ∀ (u : Heap) (id : Nat), known u id = true → id ∈ u.map (·.1) := by
        intro u id
        induction u with
        | nil => simp [known]
        | cons x l ih =>
          obtain ⟨k, v⟩ := x
          intro h
          unfold known at h
          cases hb : Nat.beq k id with
          | true => simp [Nat.eq_of_beq_eq_true hb]
          | false => rw [hb] at h; exact List.mem_cons_of_mem _ (ih h)
      have hsetE : foldD D' (lkE st.env) (es.map wE) = app (foldD D (lkE st.env) (es.map wE)) (wE E) := by
        funext t
        refine foldD_set (i := i) (by simp [hE]) hDi hD'i hD'j fun j x hj hij hd hs => ?_
        simp only [List.getElem?_map, Option.map_eq_some_iff] at hj
        obtain ⟨Ej, hEj, rfl⟩ := hj
        simp only [wE] at hs ⊢
        split at hs
        · rename_i h1
          rw [if_neg]
          intro h2
          have := hlate j Ej hEj hij hd
          simp only [clash, Bool.or_eq_false_iff] at this
          exact meets_false (x := t) this.1.1.1 (by simp [h1]) (by simp [h2])
        · simp at hs
      have hsetH : foldD D' (lkH st.heap) (es.map wH) = hup (foldD D (lkH st.heap) (es.map wH)) E.e.upd := by
        funext id
        have : foldD D' (lkH st.heap) (es.map wH) id = app (foldD D (lkH st.heap) (es.map wH)) (wH E) id := by
          refine foldD_set (i := i) (by simp [hE]) hDi hD'i hD'j fun j x hj hij hd hs => ?_
          simp only [List.getElem?_map, Option.map_eq_some_iff] at hj
          obtain ⟨Ej, hEj, rfl⟩ := hj
          simp only [wH] at hs ⊢
          split at hs
          · rename_i h1
            rw [if_neg]
            intro h2
            have := hlate j Ej hEj hij hd
            simp only [clash, Bool.or_eq_false_iff] at this
            exact meets_false (x := id) this.1.2 (hmemU _ _ h1) (List.mem_append_right _ (hmemU _ _ h2))
          · simp at hs
        rw [this]
        simp only [app, wH, hup]
        split <;> rfl
      have hV : ∀ x ∈ o.op.operands.toList, V π Z (evalA E.st x) (a.eval x) := by
        intro x hx
        cases x with
        | tmp t =>
          have := hI.env t
          have hm : t ∈ opTmps o := List.mem_filterMap.2 ⟨.tmp t, hx, rfl⟩
          rw [hlook t (List.mem_append_left _ hm)] at this
          exact this
        | const v => exact V_ofV v
        | global g => exact (V_sc rfl).2 (.glob g)
        | func f => exact (V_sc rfl).2 (.fn _ [] [] [] [] rfl rfl (fun i a u h => by simp at h) (fun i a u h => by simp at h))
      have hwant : Region.wanted o (yielded ops a.tmps) = E.run := by
        rw [hoE] at t2
        rcases t2 with ⟨hg, hr, _⟩ | ⟨j, want, t, b, hg, htd, hb, hr, _⟩ | ⟨j, want, t, hg, htd, hb, hr, _⟩
        · simp [Region.wanted, hg, hr]
        · have hv := hI.env t
          rw [hlook t (List.mem_append_right _ (by simp [guardTmp, hg, htd])), hb] at hv
          rw [hr]
          exact wanted_iff hg htd (by rw [hI.size]; exact dsts_at hok htd) (V_bool hv)
        · have hv := hI.env t
          rw [hlook t (List.mem_append_right _ (by simp [guardTmp, hg, htd])), hb] at hv
          obtain ⟨vs, hv, hl, _⟩ := hv
          have hvs : vs = [] := List.eq_nil_of_length_eq_zero hl
          subst hvs
          rw [hr]
          exact wanted_un hg htd (by rw [hI.size]; exact dsts_at hok htd) hv
      have hd : ∀ d, o.dst = some d → d < c.n := fun d h => dsts_at hok (j := i) (by rw [dstOf_get, Array.getElem?_toList, ho]; simpa using h)
      have hsz' : (listed.setIfInBounds i true).size = ops.size := by simpa using hsz
      have hun' : unl ops.size D' = fuel := by
        have := unl_set (n := ops.size) (f := D) (g := D') hlt hDi hD'i hD'j
        have hu' : unl ops.size D = fuel + 1 := hu
        omega
      have hnext : ∀ (π' : PM) (Z' : ZM) (u : Value) (w' : World), Ext π π' Z Z' → (∀ id l, π' id = some l → π id = some l ∨ (E.st.nxt ≤ id ∧ id < E.st.nxt + E.e.al)) → V π' Z' E.v u →
          Good c.B π' Z' (hup (foldD D (lkH st.heap) (es.map wH)) E.e.upd) w' → wpAny P .any ops Q fuel (listed.setIfInBounds i true) (a.put o.dst u) w' := by
        intro π' Z' u w' hx hnew hv hg
        refine ih _ π' Z' _ _ hsz' hun' ⟨by rw [put_size.2]; exact hI.defers, by rw [put_size.1]; exact hI.size, fun t => ?_, ?_, fun id l hp => ?_, fun id hid => ?_, hI.kle, fun b o h => hx.z b o (hI.z0 b o h), hclosed'⟩
        · show V π' Z' (foldD D' (lkE st.env) (es.map wE) t) _
          rw [hsetE, put_getD t (fun d h => by rw [hI.size]; exact hd d h)]
          simp only [app, wE, hoE]
          split
          · exact hv
          · exact (hI.env t).ext hx
        · show Good c.B π' Z' (foldD D' (lkH st.heap) (es.map wH)) _
          rw [hsetH]; exact hg
        · rcases hnew id l hp with h | h
          · rcases hI.fresh id l h with h | ⟨j, Ej, h1, h2, h3⟩
            · exact .inl h
            · exact .inr ⟨j, Ej, h1, by
                by_cases hji : j = i
                · subst hji; exact hD'i
                · exact (hD'j j hji).trans h2, h3⟩
          · exact .inr ⟨i, E, hE, hD'i, by rw [t7] at h; exact h⟩
        · rw [← hI.low id hid]
          cases hp : π id with
          | some l => exact hx.pi id l hp
          | none =>
            cases hp' : π' id with
            | none => rfl
            | some l =>
              rcases hnew id l hp' with h | h
              · rw [hp] at h; cases h
              · have := hI.kle
                have : st.nxt ≤ E.st.nxt := by rw [t7]; omega
                omega
      unfold wpOp
      simp only [ho, hwant]
      cases hrun : E.run with
      | true =>
        simp only [if_true]
        left
        have hop := t3 hrun
        rw [hoE] at hop
        have hout := hop c.B π Z (foldD D (lkH st.heap) (es.map wH)) w a.eval (fun f => rfl) hV hI.good hrd (fun id h1 h2 => by
          cases hp : π id with
          | none => rfl
          | some l =>
            exfalso
            rw [t7] at h1 h2
            rcases hI.fresh id l hp with h | ⟨j, Ej, hEj, hdj, h3, h4⟩
            · omega
            · rcases Nat.lt_trichotomy j i with hji | hji | hji
              · have := alTo_succ hEj
                have := alTo_mono (es := es) (i := j + 1) (j := i) (by omega)
                omega
              · subst hji; rw [hDi] at hdj; cases hdj
              · have := alTo_succ hE
                have := alTo_mono (es := es) (i := i + 1) (j := j) (by omega)
                omega)
        exact upon_outc hout fun u w' ⟨π', Z', hx, hnew, hv, hg⟩ => hnext π' Z' u w' hx hnew hv hg
      | false =>
        simp only [Bool.false_eq_true, if_false]
        obtain ⟨h1, h2⟩ := t4 hrun
        exact hnext π Z undef w (.refl _ _) (fun _ _ h => .inl h) (by rw [h1]; exact ⟨[], rfl, rfl, fun i a u h => by simp at h⟩) (by rw [h2]; show Good c.B π Z (hup _ []) w; rw [hup_nil]; exact hI.good)

/-- A region, whatever its order. -/
theorem region_ax (hT : TabOk P tt) (hC : SpecsOk P ct) (hm : P.follows .mixedOrders = true) {id : Nat} {ops : Array Oper} {draw : Bool} (hok : dstsOk c.n ops.toList = true) {Q : Exit → Act → World → Prop} {K : St → Prop} {st : St}
    {π : PM} {Z : ZM} {a : Act} {w : World} (hQ : ∀ st π Z a w, K st → Rel c π Z st a w → Q .normal a w)
    (h : opsA tt ct ops.toList ops.toList st [] fun st log => cond draw (drawOk ops.toList log = true ∧ K st) (K st)) (hr : Rel c π Z st a w) : (Code.region id ops draw).wp P Q a w := by
  cases draw with
  | false =>
    refine wp_region ?_
    have := ops_seq hT hC hok (Q := Q) (K := fun st _ => K st) (fun st _ π Z a w hk hr => hQ st π Z a w hk hr) ops.toList 0 st [] π Z a w rfl h hr
    rw [List.range_eq_range']
    simpa using this
  | true =>
    refine wp_region_any hm ?_
    obtain ⟨es, stE, h1, ⟨h2, h3⟩, h4⟩ := trace_of hT hC hok ops.toList 0 st [] π Z a w rfl h hr
    rw [List.append_nil] at h2
    have hf : ∀ i, (Array.replicate ops.size false).getD i false = false := by
      intro i
      simp only [Array.getD_eq_getD_getElem?, Array.getElem?_replicate]
      split <;> rfl
    have e0 : ∀ {κ β : Type} (s : κ → β) (ws : List (κ → Option β)), foldD (fun i => (Array.replicate ops.size false).getD i false) s ws = s := by
      intro κ β s ws
      have hf : (fun i => (Array.replicate ops.size false).getD i false) = fun _ => false := funext hf
      rw [hf]
      induction ws with
      | nil => rfl
      | cons w ws ih => simpa [foldD] using ih
    refine wpAny_ax hok h1 h2 h4 (fun π Z a w hr => hQ stE π Z a w h3 hr) ops.size _ π Z a _ (by simp) (unl_none fun j _ => hf j) ⟨hr.defers, hr.size, fun t => by rw [e0]; exact hr.env t, ?_, fun id l hp => ?_, hr.low, hr.kle, hr.z0, fun j o _ hd => ?_⟩
    · rw [e0]; exact ⟨hr.good.os, hr.good.tape, hr.good.output, hr.good.size, hr.good.zin, hr.good.objs, hr.good.apart, hr.good.zs, hr.good.mine, hr.good.keep⟩
    · rcases Nat.lt_or_ge id st.nxt with h | h
      · exact .inl h
      · rw [hr.fresh id h] at hp; cases hp
    · simp only [hf] at hd; cases hd

end
end Go.Ax

/- Other names for what is tracked; code, and its loops. -/
namespace Go.Ax
open Go

mutual
def ren (σ : Nat → Nat) : AV → AV
  | .ptr id p => .ptr (σ id) p
  | .ow id e => .ow (σ id) e
  | .sl id p o n => .sl (σ id) p o n
  | .rs v => .rs (ren σ v)
  | .rp v => .rp (ren σ v)
  | .mp id => .mp (σ id)
  | .fn f a b => .fn f (rens σ a) (rens σ b)
  | .ifc t v => .ifc t (ren σ v)
  | .st fs => .st (rens σ fs)
  | .seq sz n f => .seq sz n (fun j => ren σ (f j))
  | .tup vs => .tup (rens σ vs)
  | .un => .un
  | .bool b => .bool b
  | .int k n => .int k n
  | .str s => .str s
  | .nilp => .nilp
  | .nils => .nils
  | .nilm => .nilm
  | .nilf => .nilf
  | .nili => .nili
  | .glob g => .glob g
  | .arr k n xs => .arr k n xs
def rens (σ : Nat → Nat) : List AV → List AV
  | [] => []
  | a :: l => ren σ a :: rens σ l
end

theorem rens_eq (σ : Nat → Nat) : ∀ l, rens σ l = l.map (ren σ)
  | [] => rfl
  | a :: l => by simp [rens, rens_eq σ l]

mutual
theorem flat_ren (σ : Nat → Nat) : ∀ v, flat (ren σ v) = (flat v).map (ren σ)
  | .st fs => by simp only [ren, flat]; exact flats_ren σ fs
  | .arr k n xs => by simp [ren, flat]
  | .seq sz n f => by
    simp only [ren, flat, List.map_flatMap]
    exact congrArg (fun g => List.flatMap g (List.range n)) (funext fun j => flat_ren σ (f j))
  | .un | .bool _ | .int _ _ | .str _ | .nilp | .ptr _ _ | .nils | .ow _ _ | .sl _ _ _ _ | .rs _ | .rp _ | .nilm | .mp _ | .nilf | .fn _ _ _ | .nili | .ifc _ _ | .glob _ | .tup _ => by simp [ren, flat]
theorem flats_ren (σ : Nat → Nat) : ∀ l, flats (rens σ l) = (flats l).map (ren σ)
  | [] => rfl
  | a :: l => by simp only [rens, flats, List.map_append, flat_ren σ a, flats_ren σ l]
end

mutual
theorem hasSh_ren (σ : Nat → Nat) : ∀ v s, HasSh (ren σ v) s = HasSh v s
  | .st fs, s => by
    cases s with
    | st ss => simp only [ren, HasSh]; exact hasShs_ren σ fs ss
    | _ => simp [ren, HasSh]
  | .arr k n xs, s => by simp only [ren]
  | .seq sz n f, s => by
    cases s with
    | sq sz' m s => simp only [ren, HasSh, hasSh_ren σ]
    | _ => simp [ren, HasSh]
  | .un, s | .bool _, s | .int _ _, s | .str _, s | .nilp, s | .ptr _ _, s | .nils, s | .ow _ _, s | .sl _ _ _ _, s | .rs _, s | .rp _, s | .nilm, s | .mp _, s | .nilf, s | .fn _ _ _, s | .nili, s | .ifc _ _, s | .glob _, s | .tup _, s => by
    cases s <;> simp [ren, HasSh]
theorem hasShs_ren (σ : Nat → Nat) : ∀ l ss, HasShs (rens σ l) ss = HasShs l ss
  | [], ss => by simp [rens]
  | a :: l, ss => by
    cases ss with
    | nil => simp [rens, HasShs]
    | cons s ss => simp only [rens, HasShs, hasSh_ren σ a, hasShs_ren σ l]
end

theorem wf_ren {σ : Nat → Nat} {v : AV} : WfA (ren σ v) = WfA v := by unfold WfA; simp only [hasSh_ren]
theorem rowN_ren {σ : Nat → Nat} {v : AV} : rowN (ren σ v) = rowN v := by cases v <;> simp [ren, rowN]
theorem rowOf_ren {σ : Nat → Nat} {v : AV} : rowOf (ren σ v) = rowOf v := by cases v <;> simp [ren, rowOf]
theorem isAgg_ren {σ : Nat → Nat} {v : AV} : isAggA (ren σ v) = isAggA v := by cases v <;> simp [ren, isAggA]

theorem flat_ren_at {σ : Nat → Nat} {v a : AV} {i : Nat} (h : (flat v)[i]? = some a) : (flat (ren σ v))[i]? = some (ren σ a) := by
  rw [flat_ren]; simp [h]

theorem S.ren {σ : Nat → Nat} {π π' : PM} {Z : ZM} (hπ : ∀ id l, π (σ id) = some l → π' id = some l) {x : AV} {u : Value} (h : S π Z x u) : ∀ a, Ax.ren σ a = x → S π' Z a u := by
  induction h with
  | bool b => intro a e; cases a <;> simp [Ax.ren] at e; subst e; exact .bool _
  | int k n hr => intro a e; cases a <;> simp [Ax.ren] at e; obtain ⟨rfl, rfl⟩ := e; exact .int _ _ hr
  | str s hs => intro a e; cases a <;> simp [Ax.ren] at e; subst e; exact .str _ hs
  | nilp => intro a e; cases a <;> simp [Ax.ren] at e; exact .nilp
  | ptr id p b sh r o t h1 h2 => intro a e; cases a <;> simp [Ax.ren] at e; obtain ⟨rfl, rfl⟩ := e; exact .ptr _ _ b sh r o t (hπ _ _ h1) h2
  | nils => intro a e; cases a <;> simp [Ax.ren] at e; exact .nils
  | owNil id e h1 => intro a e; cases a <;> simp [Ax.ren] at e; obtain ⟨rfl, rfl⟩ := e; exact .owNil _ _ (hπ _ _ h1)
  | ow id b sh n cap e sz h1 => intro a e; cases a <;> simp [Ax.ren] at e; obtain ⟨rfl, rfl⟩ := e; exact .ow _ b sh n cap _ sz (hπ _ _ h1)
  | sl id p off len b sh r o t m sz cap B h1 h2 h3 h4 h5 h6 h7 =>
    intro a e; cases a <;> simp [Ax.ren] at e; obtain ⟨rfl, rfl, rfl, rfl⟩ := e
    exact .sl _ _ _ _ b sh r o t m sz cap B (hπ _ _ h1) h2 h3 h4 h5 h6 h7
  | slNil id h1 => intro a e; cases a <;> simp [Ax.ren] at e; obtain ⟨rfl, rfl, rfl, rfl⟩ := e; exact .slNil _ (hπ _ _ h1)
  | rsNil v h1 h2 => intro a e; cases a <;> simp [Ax.ren] at e; subst e; rw [rowN_ren] at h1; rw [wf_ren] at h2; exact .rsNil _ h1 h2
  | rs v B n cap us h1 h2 h3 h4 h5 _ ih =>
    intro a e; cases a <;> simp [Ax.ren] at e; subst e; rw [rowN_ren] at h1; rw [wf_ren] at h2
    exact .rs _ B n cap us h1 h2 h3 h4 (fun i a ha => h5 i _ (flat_ren_at ha)) (fun i a ha => ih i _ (flat_ren_at ha) a rfl)
  | rp v B us h1 h2 h3 _ ih =>
    intro a e; cases a <;> simp [Ax.ren] at e; subst e; rw [wf_ren] at h1
    exact .rp _ B us h1 h2 (fun i a ha => h3 i _ (flat_ren_at ha)) (fun i a ha => ih i _ (flat_ren_at ha) a rfl)
  | nilm => intro a e; cases a <;> simp [Ax.ren] at e; exact .nilm
  | mp id b r h1 => intro a e; cases a <;> simp [Ax.ren] at e; subst e; exact .mp _ b r (hπ _ _ h1)
  | nilf => intro a e; cases a <;> simp [Ax.ren] at e; exact .nilf
  | fn f first cap fs cs h1 h2 _ _ ih1 ih2 =>
    intro a e; cases a <;> simp [Ax.ren, rens_eq] at e
    obtain ⟨rfl, rfl, rfl⟩ := e
    exact .fn _ _ _ fs cs (by simpa using h1) (by simpa using h2) (fun i a u ha hu => ih1 i _ u (by simp [ha]) hu a rfl) (fun i a u ha hu => ih2 i _ u (by simp [ha]) hu a rfl)
  | nili => intro a e; cases a <;> simp [Ax.ren] at e; exact .nili
  | ifc t a u _ ih => intro b e; cases b <;> simp [Ax.ren] at e; obtain ⟨rfl, rfl⟩ := e; exact .ifc _ _ u (ih _ rfl)
  | glob g => intro a e; cases a <;> simp [Ax.ren] at e; subst e; exact .glob _

section
variable {σ : Nat → Nat} {π π' : PM} {Z : ZM}

theorem Cells.ren (hπ : ∀ id l, π (σ id) = some l → π' id = some l) {l : List AV} {cs : List Value} (h : Cells π Z (l.map (Ax.ren σ)) cs) : Cells π' Z l cs :=
  ⟨by simpa using h.1, fun i a u ha hu => (h.2 i _ u (by simp [ha]) hu).ren hπ a rfl⟩

theorem VA.ren (hπ : ∀ id l, π (σ id) = some l → π' id = some l) {a : AV} {u : Value} (h : VA π Z (Ax.ren σ a) u) : VA π' Z a u := by
  unfold VA at *
  rw [isAgg_ren] at h
  split
  · rename_i hg
    rw [if_pos hg] at h
    obtain ⟨cs, h1, h2, h3⟩ := h
    rw [flat_ren] at h3
    exact ⟨cs, h1, by rw [wf_ren] at h2; exact h2, h3.ren hπ⟩
  · rename_i hg
    rw [if_neg hg] at h
    exact h.ren hπ a rfl

theorem V.ren (hπ : ∀ id l, π (σ id) = some l → π' id = some l) {a : AV} {u : Value} (h : V π Z (Ax.ren σ a) u) : V π' Z a u := by
  cases a with
  | un => trivial
  | tup as =>
    simp only [Ax.ren, V, rens_eq] at h ⊢
    obtain ⟨vs, h1, h2, h3⟩ := h
    refine ⟨vs, h1, by simpa using h2, fun i a u ha hu => ?_⟩
    rcases h3 i (Ax.ren σ a) u (by simp [ha]) hu with h | h
    · left; cases a <;> simp [Ax.ren] at h; rfl
    · exact .inr (h.ren hπ)
  | _ => exact VA.ren hπ h

theorem ObjOk.ren (hπ : ∀ id l, π (σ id) = some l → π' id = some l) {v : AV} {l : Loc} {w : World} (h : ObjOk π Z (Ax.ren σ v) l w) : ObjOk π' Z v l w := by
  cases l with
  | nil => exact ⟨by have := h.1; rw [rowN_ren] at this; exact this, by have := h.2; rw [wf_ren] at this; exact this⟩
  | «at» b sh r =>
    obtain ⟨h1, h2, h3, cs, arr, e, h4, h5, h6, h7⟩ := h
    rw [hasSh_ren] at h1; rw [wf_ren] at h2; rw [flat_ren] at h6; rw [rowOf_ren] at h7
    exact ⟨h1, h2, h3, cs, arr, e, h4, h5, h6.ren hπ, h7⟩
end

/-- Names that must be one. -/
def IdE (i j : Nat) : Prop := i = j

mutual
/-- Two trees that are one, told by their parts. -/
def eqA : AV → AV → Prop
  | .nils, .nils => True
  | .nilp, .nilp => True
  | .nili, .nili => True
  | .nilf, .nilf => True
  | .nilm, .nilm => True
  | .bool a, .bool b => a = b
  | .int k n, .int k' n' => kEq k k' = true ∧ n = n'
  | .str s, .str t => s = t
  | .ptr i p, .ptr j q => IdE i j ∧ p = q
  | .ow i e, .ow j f => IdE i j ∧ IdE e f
  | .sl i p o n, .sl j q o' n' => IdE i j ∧ p = q ∧ o = o' ∧ n = n'
  | .rs v, .rs u => eqA v u
  | .rp v, .rp u => eqA v u
  | .mp i, .mp j => IdE i j
  | .fn f a b, .fn g c d => f = g ∧ eqAs a c ∧ eqAs b d
  | .ifc t v, .ifc t' u => IdE t t' ∧ eqA v u
  | .glob g, .glob g' => IdE g g'
  | .st a, .st b => eqAs a b
  | .arr k n xs, .arr k' n' ys => kEq k k' = true ∧ n = n' ∧ xs = ys
  | .seq s n f, .seq s' n' g => IdE s s' ∧ n = n' ∧ ∀ j, eqA (f j) (g j)
  | .tup a, .tup b => eqAs a b
  | a, b => a = b
def eqAs : List AV → List AV → Prop
  | [], [] => True
  | a :: l, b :: m => eqA a b ∧ eqAs l m
  | _, _ => False
end

mutual
theorem eqA_ok : ∀ (a b : AV), eqA a b → a = b
  | .un, b, h => by cases b <;> first | rfl | (simp only [eqA] at h; exact h)
  | .bool _, b, h => by cases b <;> simp_all [eqA]
  | .int _ _, b, h => by
    cases b <;> simp only [eqA] at h <;> try cases h
    rename_i h1 h2; subst h2; rw [kEq_eq h1]
  | .str _, b, h => by cases b <;> simp_all [eqA]
  | .nilp, b, h => by cases b <;> simp_all [eqA]
  | .ptr _ _, b, h => by cases b <;> simp_all [eqA, IdE]
  | .nils, b, h => by cases b <;> simp_all [eqA]
  | .ow _ _, b, h => by cases b <;> simp_all [eqA, IdE]
  | .sl _ _ _ _, b, h => by cases b <;> simp_all [eqA, IdE]
  | .rs v, b, h => by
    cases b <;> simp only [eqA] at h <;> try cases h
    exact congrArg AV.rs (eqA_ok v _ h)
  | .rp v, b, h => by
    cases b <;> simp only [eqA] at h <;> try cases h
    exact congrArg AV.rp (eqA_ok v _ h)
  | .nilm, b, h => by cases b <;> simp_all [eqA]
  | .mp _, b, h => by cases b <;> simp_all [eqA, IdE]
  | .nilf, b, h => by cases b <;> simp_all [eqA]
  | .fn _ x y, b, h => by
    cases b <;> simp only [eqA] at h <;> try cases h
    rename_i h1 h2
    rw [h1, eqAs_ok x _ h2.1, eqAs_ok y _ h2.2]
  | .nili, b, h => by cases b <;> simp_all [eqA]
  | .ifc _ v, b, h => by
    cases b <;> simp only [eqA, IdE] at h <;> try cases h
    rename_i h1 h2
    rw [h1, eqA_ok v _ h2]
  | .glob _, b, h => by cases b <;> simp_all [eqA, IdE]
  | .st fs, b, h => by
    cases b <;> simp only [eqA] at h <;> try cases h
    exact congrArg AV.st (eqAs_ok fs _ h)
  | .arr _ _ _, b, h => by
    cases b <;> simp only [eqA] at h <;> try cases h
    rename_i h1 h2; rw [kEq_eq h1, h2.1, h2.2]
  | .seq _ _ f, b, h => by
    cases b <;> simp only [eqA, IdE] at h <;> try cases h
    rename_i h1 h2
    rw [h1, h2.1, funext fun j => eqA_ok (f j) _ (h2.2 j)]
  | .tup vs, b, h => by
    cases b <;> simp only [eqA] at h <;> try cases h
    exact congrArg AV.tup (eqAs_ok vs _ h)
theorem eqAs_ok : ∀ (l m : List AV), eqAs l m → l = m
  | [], m, h => by cases m <;> simp_all [eqAs]
  | a :: l, m, h => by
    cases m <;> simp only [eqAs] at h <;> try cases h
    rename_i h1 h2
    rw [eqA_ok a _ h1, eqAs_ok l _ h2]
end

def memN : List Nat → Nat → Bool
  | [], _ => false
  | i :: l, k => cond (Nat.beq i k) true (memN l k)

mutual
/-- A state's value, as a lay-out tells it: a nil row may be told as a row of none. -/
def wkA (σ : Nat → Nat) (nl : List Nat) : AV → AV → Prop
  | .ow id e, a => match memN nl id with
    | true => (match a with | .nils => True | _ => False)
    | false => eqA a (.ow (σ id) e)
  | .st gs, a => match a with
    | .st fs => wkAs σ nl gs fs
    | _ => False
  | b, a => eqA a (ren σ b)
def wkAs (σ : Nat → Nat) (nl : List Nat) : List AV → List AV → Prop
  | [], [] => True
  | b :: m, a :: l => wkA σ nl b a ∧ wkAs σ nl m l
  | _, _ => False
end

def wkTs (σ : Nat → Nat) (nl : List Nat) : List AV → List AV → Prop
  | [], [] => True
  | b :: m, a :: l => (match b with | .un => True | b => wkA σ nl b a) ∧ wkTs σ nl m l
  | _, _ => False

def wkT (σ : Nat → Nat) (nl : List Nat) (b a : AV) : Prop :=
  match b with
  | .un => True
  | .tup gs => match a with
    | .tup fs => wkTs σ nl gs fs
    | _ => False
  | b => wkA σ nl b a

section
variable {σ : Nat → Nat} {nl : List Nat} {π π' : PM} {Z : ZM}

/-- Where the names stand. -/
structure WkC (σ : Nat → Nat) (nl : List Nat) (π π' : PM) : Prop where
  old : ∀ id l, π (σ id) = some l → π' id = some l
  nil : ∀ id, memN nl id = true → π' id = some .nil

mutual
theorem wkA_sh : ∀ (b a : AV) (s : Sh), wkA σ nl b a → HasSh a s → HasSh b s
  | .ow id e, a, s, h, hs => by
    simp only [wkA] at h
    split at h
    · split at h
      · cases s <;> simp_all [HasSh]
      · exact h.elim
    · rw [eqA_ok _ _ h] at hs; cases s <;> simp_all [HasSh]
  | .st gs, a, s, h, hs => by
    simp only [wkA] at h
    split at h
    · cases s <;> simp only [HasSh] at hs ⊢
      exact wkAs_sh gs _ _ h hs
    · exact h.elim
  | .un, a, s, h, hs | .bool _, a, s, h, hs | .int _ _, a, s, h, hs | .str _, a, s, h, hs | .nilp, a, s, h, hs | .ptr _ _, a, s, h, hs | .nils, a, s, h, hs | .sl _ _ _ _, a, s, h, hs | .rs _, a, s, h, hs | .rp _, a, s, h, hs
  | .nilm, a, s, h, hs | .mp _, a, s, h, hs | .nilf, a, s, h, hs | .fn _ _ _, a, s, h, hs | .nili, a, s, h, hs | .ifc _ _, a, s, h, hs | .glob _, a, s, h, hs | .arr _ _ _, a, s, h, hs | .seq _ _ _, a, s, h, hs | .tup _, a, s, h, hs => by
    simp only [wkA] at h
    rw [eqA_ok _ _ h, hasSh_ren] at hs
    exact hs
theorem wkAs_sh : ∀ (m l : List AV) (ss : List Sh), wkAs σ nl m l → HasShs l ss → HasShs m ss
  | [], l, ss, h, hs => by cases l <;> simp_all [wkAs]
  | b :: m, l, ss, h, hs => by
    cases l <;> simp only [wkAs] at h <;> try cases h
    rename_i a l h1 h2
    cases ss <;> simp only [HasShs] at hs ⊢
    exact ⟨wkA_sh b a _ h1 hs.1, wkAs_sh m l _ h2 hs.2⟩
end

theorem wkA_wf {b a : AV} (h : wkA σ nl b a) (hw : WfA a) : WfA b := by
  obtain ⟨s, hs⟩ := hw
  exact ⟨s, wkA_sh b a s h hs⟩

theorem wkA_row {b a : AV} (h : wkA σ nl b a) : rowOf b = rowOf a ∧ rowN b = rowN a := by
  cases b <;> simp only [wkA] at h
  case ow id e =>
    split at h
    · split at h
      · exact ⟨rfl, rfl⟩
      · exact h.elim
    · rw [eqA_ok _ _ h]; exact ⟨rfl, rfl⟩
  case st gs =>
    split at h
    · exact ⟨rfl, rfl⟩
    · exact h.elim
  all_goals (rw [eqA_ok _ _ h, rowOf_ren, rowN_ren]; exact ⟨rfl, rfl⟩)

theorem wkA_agg {b a : AV} (h : wkA σ nl b a) : isAggA b = isAggA a := by
  cases b <;> simp only [wkA] at h
  case ow id e =>
    split at h
    · split at h
      · rfl
      · exact h.elim
    · rw [eqA_ok _ _ h]; rfl
  case st gs =>
    split at h
    · rfl
    · exact h.elim
  all_goals (rw [eqA_ok _ _ h, isAgg_ren])

theorem cells_ren (hC : WkC σ nl π π') {b : AV} {cs : List Value} (h : Cells π Z (flat (ren σ b)) cs) : Cells π' Z (flat b) cs := by
  rw [flat_ren] at h
  exact h.ren hC.old

mutual
theorem wkA_cells (hC : WkC σ nl π π') : ∀ (b a : AV) (cs : List Value), wkA σ nl b a → Cells π Z (flat a) cs → Cells π' Z (flat b) cs
  | .ow id e, a, cs, h, hs => by
    simp only [wkA] at h
    split at h
    · rename_i hm
      split at h
      · simp only [flat] at hs ⊢
        refine ⟨hs.1, fun i x u hx hu => ?_⟩
        cases i with
        | zero =>
          have := hs.2 0 _ u rfl hu
          simp at hx; subst hx
          cases this
          exact .owNil _ _ (hC.nil id hm)
        | succ i => simp at hx
      · exact h.elim
    · rw [eqA_ok _ _ h] at hs
      exact cells_ren hC (b := .ow id e) hs
  | .st gs, a, cs, h, hs => by
    simp only [wkA] at h
    split at h
    · simp only [flat] at hs ⊢
      exact wkAs_cells hC gs _ cs h hs
    · exact h.elim
  | .un, a, cs, h, hs | .bool _, a, cs, h, hs | .int _ _, a, cs, h, hs | .str _, a, cs, h, hs | .nilp, a, cs, h, hs | .ptr _ _, a, cs, h, hs | .nils, a, cs, h, hs | .sl _ _ _ _, a, cs, h, hs | .rs _, a, cs, h, hs | .rp _, a, cs, h, hs
  | .nilm, a, cs, h, hs | .mp _, a, cs, h, hs | .nilf, a, cs, h, hs | .fn _ _ _, a, cs, h, hs | .nili, a, cs, h, hs | .ifc _ _, a, cs, h, hs | .glob _, a, cs, h, hs | .arr _ _ _, a, cs, h, hs | .seq _ _ _, a, cs, h, hs | .tup _, a, cs, h, hs => by
    simp only [wkA] at h
    rw [eqA_ok _ _ h] at hs
    exact cells_ren hC hs
theorem wkAs_cells (hC : WkC σ nl π π') : ∀ (m l : List AV) (cs : List Value), wkAs σ nl m l → Cells π Z (flats l) cs → Cells π' Z (flats m) cs
  | [], l, cs, h, hs => by
    cases l <;> simp only [wkAs] at h
    exact ⟨hs.1, fun i a u ha hu => by simp [flats] at ha⟩
  | b :: m, l, cs, h, hs => by
    cases l <;> simp only [wkAs] at h <;> try cases h
    rename_i a l h1 h2
    simp only [flats] at hs ⊢
    have e1 : cs = cs.take (flat a).length ++ cs.drop (flat a).length := (List.take_append_drop _ _).symm
    have hl := hs.1
    simp only [List.length_append] at hl
    have c1 : Cells π Z (flat a) (cs.take (flat a).length) := by
      have := hs.take (flat a).length
      rwa [List.take_left] at this
    have c2 : Cells π Z (flats l) (cs.drop (flat a).length) := by
      have := hs.drop (flat a).length
      rwa [List.drop_left] at this
    rw [e1]
    exact (wkA_cells hC b a _ h1 c1).append (wkAs_cells hC m l _ h2 c2)
end

theorem wkA_VA (hC : WkC σ nl π π') {b a : AV} {u : Value} (h : wkA σ nl b a) (hv : VA π Z a u) : VA π' Z b u := by
  unfold VA at *
  rw [wkA_agg h]
  cases hg : isAggA a with
  | true =>
    rw [hg] at hv
    obtain ⟨cs, h1, h2, h3⟩ := hv
    exact ⟨cs, h1, wkA_wf h h2, wkA_cells hC b a cs h h3⟩
  | false =>
    rw [hg] at hv
    simp only [Bool.false_eq_true, if_false] at hv ⊢
    have hc := wkA_cells hC b a [u] h (by rw [flat_sc hg]; exact Cells.one hv)
    rw [flat_sc (by rw [wkA_agg h]; exact hg)] at hc
    exact hc.2 0 b u rfl rfl

theorem wkTs_at : ∀ {m l : List AV}, wkTs σ nl m l → m.length = l.length ∧ ∀ (i : Nat) (b a : AV), m[i]? = some b → l[i]? = some a → b = .un ∨ wkA σ nl b a
  | [], [], _ => ⟨rfl, fun i b a h => by simp at h⟩
  | [], _ :: _, h => h.elim
  | _ :: _, [], h => h.elim
  | b :: m, a :: l, h => by
    obtain ⟨h1, h2⟩ := h
    obtain ⟨g1, g2⟩ := wkTs_at h2
    refine ⟨by simp [g1], fun i y x hy hx => ?_⟩
    cases i with
    | zero =>
      simp at hy hx; subst hy; subst hx
      split at h1
      · exact .inl rfl
      · exact .inr h1
    | succ i => exact g2 i y x (by simpa using hy) (by simpa using hx)

theorem wkA_un {a : AV} {u : Value} (h : wkA σ nl a .un) (hn : a ≠ .un) : False := by
  cases a <;> simp only [wkA] at h
  case ow id e =>
    split at h
    · cases h
    · exact absurd (eqA_ok _ _ h) (by simp)
  all_goals first | exact hn rfl | exact absurd (eqA_ok _ _ h) (by simp [ren])

theorem wkA_tup {b : AV} {vs : List AV} (h : wkA σ nl b (.tup vs)) : ∃ gs, b = .tup gs := by
  cases b <;> simp only [wkA] at h
  case ow id e =>
    split at h
    · cases h
    · exact absurd (eqA_ok _ _ h) (by simp)
  all_goals first | exact ⟨_, rfl⟩ | exact absurd (eqA_ok _ _ h) (by simp [ren])

theorem wkT_V (hC : WkC σ nl π π') {b a : AV} {u : Value} (h : wkT σ nl b a) (hv : V π Z a u) : V π' Z b u := by
  by_cases hu : b = .un
  · subst hu; trivial
  by_cases ht : ∃ gs, b = .tup gs
  · obtain ⟨gs, rfl⟩ := ht
    simp only [wkT] at h
    split at h
    · rename_i fs
      obtain ⟨vs, h1, h2, h3⟩ := hv
      obtain ⟨g1, g2⟩ := wkTs_at h
      refine ⟨vs, h1, by omega, fun i b u hb hu => ?_⟩
      have hi : i < fs.length := by
        have := (List.getElem?_eq_some_iff.1 hb).1
        omega
      have hf := List.getElem?_eq_getElem hi
      rcases g2 i b _ hb hf with e | e
      · exact .inl e
      · rcases h3 i _ u hf hu with k | k
        · rw [k] at e
          by_cases hbu : b = .un
          · exact .inl hbu
          · exact (wkA_un (u := u) e hbu).elim
        · exact .inr (wkA_VA hC e k)
    · exact h.elim
  · have hA : wkA σ nl b a := by
      cases b <;> first | exact h | exact absurd rfl hu | exact absurd ⟨_, rfl⟩ ht
    have hau : a ≠ .un := fun e => by subst e; exact wkA_un (u := u) hA hu
    have hat : ∀ l, a ≠ .tup l := fun l e => by subst e; exact ht (wkA_tup hA)
    exact VA_V (wkA_VA hC hA ((V_VA hau hat).1 hv))

theorem wkA_obj (hC : WkC σ nl π π') {b a : AV} {l : Loc} {w : World} (h : wkA σ nl b a) (ho : ObjOk π Z a l w) : ObjOk π' Z b l w := by
  obtain ⟨r1, r2⟩ := wkA_row h
  cases l with
  | nil => exact ⟨by rw [r2]; exact ho.1, wkA_wf h ho.2⟩
  | «at» bb sh r =>
    obtain ⟨h1, h2, h3, cs, arr, e, h4, h5, h6, h7⟩ := ho
    refine ⟨wkA_sh b a sh h h1, wkA_wf h h2, h3, cs, arr, e, h4, h5, wkA_cells hC b a cs h h6, ?_⟩
    rw [r1]; exact h7
end

def lkI : List (Nat × Nat) → Nat → Option Nat
  | [], _ => none
  | (i, j) :: l, k => cond (Nat.beq i k) (some j) (lkI l k)

/-- The names of a layout, in those of a state. -/
def sig (l : List (Nat × Nat)) (k0 nx : Nat) : Nat → Nat := fun id => match lkI l id with
  | some j => j
  | none => cond (Nat.blt id k0) id (id + nx)

def subE (σ : Nat → Nat) (nl : List Nat) (env : Env) : Env → Prop
  | [] => True
  | (t, v) :: l => wkT σ nl v (lkE env t) ∧ subE σ nl env l

/-- A row of none. -/
def nilOk : AV → Prop
  | .arr _ n xs => n = 0 ∧ xs = []
  | .seq _ n _ => n = 0
  | _ => False

def subH (σ : Nat → Nat) (nl : List Nat) (heap : Heap) : Heap → Prop
  | [] => True
  | (id, v) :: l => (match v with
    | some v => match memN nl id with
      | true => nilOk v
      | false => match lkH heap (σ id) with
        | some a => wkA σ nl v a
        | none => False
    | none => False) ∧ subH σ nl heap l

/-- No two of a layout's names name one. -/
def injL (σ : Nat → Nat) (k : Nat) : Heap → Bool
  | [] => true
  | (id, _) :: l => (Nat.beq id k || !(Nat.beq (σ id) (σ k))) && injL σ k l
def injH (σ : Nat → Nat) : Heap → Bool
  | [] => true
  | (id, _) :: l => injL σ id l && injH σ l

def okL (k0 nxt nxt' : Nat) : List (Nat × Nat) → Bool
  | [] => true
  | (i, j) :: l => (Nat.ble k0 i && (Nat.blt i nxt' || Nat.ble nxt j)) && okL k0 nxt nxt' l

def okN (k0 nxt' : Nat) (l : List (Nat × Nat)) : List Nat → Bool
  | [] => true
  | i :: nl => (Nat.ble k0 i && Nat.blt i nxt' && (lkI l i).isNone) && okN k0 nxt' l nl

def isNil {α : Type} : List α → Bool
  | [] => true
  | _ => false

/-- What of a lay-out is closed. -/
def subC (k0 : Nat) (l : List (Nat × Nat)) (nl : List Nat) (st st' : St) : Bool :=
  okL k0 st.nxt st'.nxt l && okN k0 st'.nxt l nl && Nat.ble k0 st'.nxt && isNil st'.kn && injH (sig l k0 st.nxt) st'.heap

/-- A state is as a layout says, by other names. -/
def Sub (k0 : Nat) (st st' : St) : Prop :=
  ∃ l nl, Chk (subC k0 l nl st st') (subE (sig l k0 st.nxt) nl st.env st'.env ∧ subH (sig l k0 st.nxt) nl st.heap st'.heap)

theorem subE_at {σ : Nat → Nat} {nl : List Nat} {env : Env} : ∀ {e : Env}, subE σ nl env e → ∀ t, wkT σ nl (lkE e t) (lkE env t)
  | [], _, t => trivial
  | (i, v) :: l, h, t => by
    simp only [lkE]
    cases hb : Nat.beq i t with
    | true =>
      have := Nat.eq_of_beq_eq_true hb
      subst this
      simpa using h.1
    | false => simpa using subE_at h.2 t

theorem subH_at {σ : Nat → Nat} {nl : List Nat} {heap : Heap} : ∀ {e : Heap}, subH σ nl heap e → ∀ id v, lkH e id = some v → (memN nl id = true ∧ nilOk v) ∨ (memN nl id = false ∧ ∃ a, lkH heap (σ id) = some a ∧ wkA σ nl v a)
  | [], _, _, _, h => by simp [lkH] at h
  | (i, x) :: l, h, id, v, hv => by
    simp only [lkH] at hv
    cases hb : Nat.beq i id with
    | true =>
      have := Nat.eq_of_beq_eq_true hb
      subst this
      simp at hv
      subst hv
      have h1 := h.1
      simp only at h1
      split at h1
      · rename_i hm; exact .inl ⟨hm, h1⟩
      · rename_i hm
        split at h1
        · rename_i a ha; exact .inr ⟨hm, a, ha, h1⟩
        · exact h1.elim
    | false =>
      rw [hb] at hv
      exact subH_at h.2 id v hv

theorem injL_at {σ : Nat → Nat} {k : Nat} : ∀ {e : Heap}, injL σ k e = true → ∀ id v, lkH e id = some v → id = k ∨ σ id ≠ σ k
  | [], _, _, _, h => by simp [lkH] at h
  | (i, x) :: l, h, id, v, hv => by
    simp only [injL, Bool.and_eq_true] at h
    simp only [lkH] at hv
    cases hb : Nat.beq i id with
    | true =>
      have := Nat.eq_of_beq_eq_true hb
      subst this
      have h1 := h.1
      simp only [Bool.or_eq_true, Bool.not_eq_true'] at h1
      rcases h1 with h1 | h1
      · exact .inl (Nat.eq_of_beq_eq_true h1)
      · exact .inr (fun e => by rw [e] at h1; simp at h1)
    | false =>
      rw [hb] at hv
      exact injL_at h.2 id v hv

theorem injH_at {σ : Nat → Nat} : ∀ {e : Heap}, injH σ e = true → ∀ i j v u, lkH e i = some v → lkH e j = some u → σ i = σ j → i = j
  | [], _, _, _, _, _, h, _, _ => by simp [lkH] at h
  | (k, x) :: l, h, i, j, v, u, hv, hu, e => by
    simp only [injH, Bool.and_eq_true] at h
    simp only [lkH] at hv hu
    cases hbi : Nat.beq k i with
    | true =>
      have hi := Nat.eq_of_beq_eq_true hbi
      cases hbj : Nat.beq k j with
      | true => exact hi.symm.trans (Nat.eq_of_beq_eq_true hbj)
      | false =>
        rw [hbj] at hu
        subst hi
        rcases injL_at h.1 j u hu with h | h
        · exact h.symm
        · exact absurd e.symm h
    | false =>
      rw [hbi] at hv
      cases hbj : Nat.beq k j with
      | true =>
        have hj := Nat.eq_of_beq_eq_true hbj
        subst hj
        rcases injL_at h.1 i v hv with h | h
        · exact h
        · exact absurd e h
      | false => rw [hbj] at hu; exact injH_at h.2 i j v u hv hu e

theorem okL_at {k0 nxt nxt' : Nat} : ∀ {l : List (Nat × Nat)}, okL k0 nxt nxt' l = true → ∀ i j, lkI l i = some j → k0 ≤ i ∧ (i < nxt' ∨ nxt ≤ j)
  | [], _, _, _, h => by simp [lkI] at h
  | (a, b) :: l, h, i, j, hv => by
    simp only [okL, Bool.and_eq_true, Bool.or_eq_true] at h
    simp only [lkI] at hv
    cases hb : Nat.beq a i with
    | true =>
      have := Nat.eq_of_beq_eq_true hb
      subst this
      simp at hv; subst hv
      exact ⟨Nat.le_of_ble_eq_true h.1.1, h.1.2.imp (fun h => Nat.le_of_ble_eq_true h) (fun h => Nat.le_of_ble_eq_true h)⟩
    | false => rw [hb] at hv; exact okL_at h.2 i j hv

theorem okN_at {k0 nxt' : Nat} {l : List (Nat × Nat)} : ∀ {nl : List Nat}, okN k0 nxt' l nl = true → ∀ i, memN nl i = true → k0 ≤ i ∧ i < nxt' ∧ lkI l i = none
  | [], _, _, h => by simp [memN] at h
  | a :: nl, h, i, hv => by
    simp only [okN, Bool.and_eq_true] at h
    simp only [memN] at hv
    cases hb : Nat.beq a i with
    | true =>
      have := Nat.eq_of_beq_eq_true hb
      subst this
      exact ⟨Nat.le_of_ble_eq_true h.1.1.1, Nat.le_of_ble_eq_true h.1.1.2, by simpa using h.1.2⟩
    | false => rw [hb] at hv; exact okN_at h.2 i hv

theorem nilOk_row {v : AV} (h : nilOk v) : rowN v = some 0 ∧ WfA v := by
  cases v <;> simp only [nilOk] at h
  case arr k n xs => obtain ⟨rfl, rfl⟩ := h; exact ⟨rfl, .ar k 0, rfl, rfl, rfl⟩
  case seq sz n f => subst h; exact ⟨rfl, .sq sz 0 (.ar .u8 sz), rfl, rfl, rfl, fun j hj => by omega⟩

theorem Rel.sub {c : Cx} {π : PM} {Z : ZM} {st st' : St} {a : Act} {w : World} (hr : Rel c π Z st a w) (h : Sub c.k0 st st') : ∃ π', Rel c π' Z st' a w := by
  obtain ⟨l, nl, hc, h4, h5⟩ := h
  simp only [subC, Bool.and_eq_true] at hc
  obtain ⟨⟨⟨⟨h1, hN⟩, h2⟩, h3⟩, h6⟩ := hc
  have h2 : c.k0 ≤ st'.nxt := Nat.le_of_ble_eq_true h2
  have h3 : st'.kn = [] := by cases hk : st'.kn with | nil => rfl | cons x y => rw [hk] at h3; cases h3
  have hlo : ∀ id, memN nl id = true → π (sig l c.k0 st.nxt id) = none := by
    intro id hm
    obtain ⟨g1, g2, g3⟩ := okN_at hN id hm
    refine hr.fresh _ ?_
    unfold sig
    rw [g3]
    simp only
    rw [blt_no (by omega)]; simp
  let π' : PM := fun id => match memN nl id with | true => some .nil | false => π (sig l c.k0 st.nxt id)
  have e0 : ∀ id, memN nl id = false → π' id = π (sig l c.k0 st.nxt id) := fun id h => by show (match memN nl id with | true => _ | false => _) = _; rw [h]
  have e1 : ∀ id, memN nl id = true → π' id = some .nil := fun id h => by show (match memN nl id with | true => _ | false => _) = _; rw [h]
  have hW : WkC (sig l c.k0 st.nxt) nl π π' := by
    refine ⟨fun id lc h => ?_, e1⟩
    cases hm : memN nl id with
    | true => rw [hlo id hm] at h; cases h
    | false => rw [e0 id hm]; exact h
  have hat : ∀ id b s r, π' id = some (.at b s r) → memN nl id = false ∧ π (sig l c.k0 st.nxt id) = some (.at b s r) := by
    intro id b s r h
    cases hm : memN nl id with
    | true => rw [e1 id hm] at h; cases h
    | false => rw [e0 id hm] at h; exact ⟨rfl, h⟩
  refine ⟨π', hr.defers, hr.size, fun t => wkT_V hW (subE_at h4 t) (hr.env t), ?_, fun id hid => ?_, fun t b h => ?_, fun id hid => ?_, h2, hr.z0⟩
  · refine ⟨hr.good.os, hr.good.tape, hr.good.output, hr.good.size, hr.good.zin, fun id v hv => ?_, fun i j v u b s r s' r' hij hi hj pi pj => ?_, hr.good.zs, fun id b s r hp => hr.good.mine _ b s r (hat id b s r hp).2, hr.good.keep⟩
    · rcases subH_at h5 id v hv with ⟨hm, hn⟩ | ⟨hm, a, ha, hwk⟩
      · exact ⟨.nil, e1 id hm, nilOk_row hn⟩
      · obtain ⟨lc, p1, p2⟩ := hr.good.objs _ _ ha
        exact ⟨lc, (e0 id hm).trans p1, wkA_obj hW hwk p2⟩
    · obtain ⟨mi, pi⟩ := hat i b s r pi
      obtain ⟨mj, pj⟩ := hat j b s' r' pj
      rcases subH_at h5 i v hi with ⟨hm, _⟩ | ⟨_, x, hx, _⟩
      · rw [mi] at hm; cases hm
      rcases subH_at h5 j u hj with ⟨hm, _⟩ | ⟨_, y, hy, _⟩
      · rw [mj] at hm; cases hm
      exact hr.good.apart _ _ _ _ b s r s' r' (fun e => hij (injH_at h6 i j v u hi hj e)) hx hy pi pj
  · have hm : memN nl id = false := by
      cases hm : memN nl id with
      | true => have := (okN_at hN id hm).2.1; omega
      | false => rfl
    rw [e0 id hm]
    refine hr.fresh _ ?_
    unfold sig
    cases hl : lkI l id with
    | some j => rcases (okL_at h1 id j hl).2 with h | h
                · omega
                · exact h
    | none => simp only; rw [blt_no (by omega)]; simp
  · rw [h3] at h; simp [knl] at h
  · have hm : memN nl id = false := by
      cases hm : memN nl id with
      | true => have := (okN_at hN id hm).1; omega
      | false => rfl
    rw [e0 id hm]
    rw [← hr.low id hid]
    unfold sig
    cases hl : lkI l id with
    | some j => have := (okL_at h1 id j hl).1; omega
    | none => simp only; rw [blt_yes hid]; rfl

end Go.Ax

/- Code: what is to be shown of it, and that this is enough. -/
namespace Go.Ax
open Go

/-- Which slots a piece of code writes. -/
def dstsO : List Oper → List Nat → List Nat
  | [], acc => acc
  | o :: l, acc => match o.dst with
    | some d => dstsO l (d :: acc)
    | none => dstsO l acc

def dstsC : Code → List Nat → List Nat
  | .region _ ops _, acc => dstsO ops.toList acc
  | .seq a b, acc => dstsC a (dstsC b acc)
  | .cond _ a b, acc => dstsC a (dstsC b acc)
  | .block _ c, acc => dstsC c acc
  | .scope c, acc => dstsC c acc
  | .loop c, acc => dstsC c acc
  | _, acc => acc

def killE : List Nat → Env → Env
  | _, [] => []
  | ds, (t, v) :: l => cond (memN ds t) (killE ds l) ((t, v) :: killE (t :: ds) l)

def killH : List Nat → Heap → Heap
  | _, [] => []
  | ds, (i, none) :: l => killH (i :: ds) l
  | ds, (i, some v) :: l => cond (memN ds i) (killH ds l) ((i, some v) :: killH (i :: ds) l)

def keysE : Env → List Nat → List Nat
  | [], acc => acc
  | (t, _) :: l, acc => t :: keysE l acc

def keysH : Heap → List Nat
  | [] => []
  | (t, _) :: l => t :: keysH l

/-- A state with some of it told anew. -/
def layU (ds : List Nat) (st : St) (ce : Env) (ch : Heap) (nx : Nat) : St := ⟨ce ++ killE (keysE ce ds) st.env, ch ++ killH (keysH ch) st.heap, nx, []⟩

/-- Does code part ways? -/
def branchy : Code → Bool
  | .region _ _ _ => false
  | .skip => false
  | .label _ => false
  | .ret => false
  | .exit _ => false
  | _ => true

/-- One piece behind the other: as it comes, or by a lay-out between. -/
def SeqP (k0 : Nat) (ds : List Nat) (st : St) (a b : St → (AExit → St → Prop) → Prop) (Q : AExit → St → Prop) : Prop :=
  (a st fun e st => match e with
    | .normal => b st Q
    | .exit i => Q (.exit i) st
    | .ret => Q .ret st) ∨
  (∃ (X : Type) (I : X → Prop) (lay : X → St), (a st fun e st' => match e with
      | .normal => ∃ y, I y ∧ Sub k0 st' (lay y)
      | .exit i => Q (.exit i) st'
      | .ret => Q .ret st') ∧ ∀ y, I y → b (lay y) Q)

def LoopP (k0 : Nat) (ds : List Nat) (st : St) (c : St → (AExit → St → Prop) → Prop) (Q : AExit → St → Prop) : Prop :=
  ∃ (X : Type) (I : X → Prop) (lay : X → St) (μ : X → Nat) (x0 : X), I x0 ∧ Sub k0 st (lay x0) ∧ ∀ x, I x → c (lay x) fun e st' => match e with
    | .normal => ∃ y, I y ∧ μ y < μ x ∧ Sub k0 st' (lay y)
    | .exit i => Q (.exit i) st'
    | .ret => Q .ret st'

section
variable (tt : Tab) (ct : Specs) (k0 : Nat)
abbrev KC := St → (AExit → St → Prop) → Prop
def cSkip : KC := fun st Q => Q .normal st
noncomputable def cReg (_ : Nat) (ops : Array Oper) (draw : Bool) : KC := fun st Q => opsA tt ct ops.toList ops.toList st [] fun st log => cond draw (Drw (drawOk ops.toList log) <| Q .normal st) (Q .normal st)
def cSeq (a : Code) (_ : Code) (iha ihb : KC) : KC := fun st Q => match branchy a with
  | true => SeqP k0 (dstsC a []) st iha ihb Q
  | false => iha st fun e st => match e with
    | .normal => ihb st Q
    | .exit i => Q (.exit i) st
    | .ret => Q .ret st
def cCond (c : Operand) (_ _ : Code) (iha ihb : KC) : KC := fun st Q =>
  match (match c with | .tmp t => knl st.kn t | _ => none) with
  | some true => iha st Q
  | some false => ihb st Q
  | none => match evalA st c with
    | .bool v => askB v (iha st Q) (ihb st Q)
    | _ => False
def cBlock (id : Nat) (_ : Code) (ih : KC) : KC := fun st Q => ih st fun e st => match e with
  | .exit i => cond (Nat.beq i id) (Q .normal st) (Q (.exit i) st)
  | .normal => Q .normal st
  | .ret => Q .ret st
def cLoop (c : Code) (ih : KC) : KC := fun st Q => LoopP k0 (dstsC c []) st ih Q
def cNo : KC := fun _ _ => False

noncomputable def codeB (c : Code) : KC :=
  Code.rec (motive := fun _ => KC) cSkip (cReg tt ct) (cSeq k0) cCond cBlock (cLoop k0) (fun _ _ _ _ _ _ => cNo) (fun id st Q => Q (.exit id) st) (fun _ ih => ih) (fun _ => cSkip) (fun _ => cNo) (fun st Q => Q .ret st) (fun _ => cNo) c
end

section
variable {tt : Tab} {ct : Specs} {k0 : Nat} {st : St} {Q : AExit → St → Prop}
theorem codeB_seq {a b : Code} : codeB tt ct k0 (.seq a b) st Q = cSeq k0 a b (codeB tt ct k0 a) (codeB tt ct k0 b) st Q := rfl
theorem codeB_cond {c : Operand} {a b : Code} : codeB tt ct k0 (.cond c a b) st Q = cCond c a b (codeB tt ct k0 a) (codeB tt ct k0 b) st Q := rfl
theorem codeB_loop {c : Code} : codeB tt ct k0 (.loop c) st Q = LoopP k0 (dstsC c []) st (codeB tt ct k0 c) Q := rfl
end

def toExit : AExit → Exit
  | .normal => .normal
  | .exit i => .exit i
  | .ret => .ret

section
variable {P : Program} {tt : Tab} {ct : Specs} {c : Cx}

theorem code_sound (hT : TabOk P tt) (hC : SpecsOk P ct) (hm : P.follows .mixedOrders = true) : ∀ (code : Code) (st : St) (K : AExit → St → Prop) (π : PM) (Z : ZM) (a : Act) (w : World) (Q : Exit → Act → World → Prop),
    codeOk c.n code = true → codeB tt ct c.k0 code st K → Rel c π Z st a w → (∀ e st π Z a w, K e st → Rel c π Z st a w → Q (toExit e) a w) → code.wp P Q a w := by
  intro code
  induction code with
  | skip => intro st K π Z a w Q _ h hr hQ; exact wp_skip (hQ .normal st π Z a w h hr)
  | region id ops draw =>
    intro st K π Z a w Q hok h hr hQ
    exact region_ax hT hC hm hok (K := fun st => K .normal st) (fun st π Z a w hk hr => hQ .normal st π Z a w hk hr) h hr
  | seq x y ihx ihy =>
    intro st K π Z a w Q hok h hr hQ
    simp only [codeOk, Bool.and_eq_true] at hok
    have go : (codeB tt ct c.k0 x st fun e st => match e with
      | .normal => codeB tt ct c.k0 y st K
      | .exit i => K (.exit i) st
      | .ret => K .ret st) → (Code.seq x y).wp P Q a w := by
      intro h
      refine wp_seq (ihx st _ π Z a w _ hok.1 h hr fun e st π Z a w hk hr => ?_)
      cases e with
      | normal => exact ihy st K π Z a w Q hok.2 hk hr hQ
      | exit i => exact hQ (.exit i) st π Z a w hk hr
      | ret => exact hQ .ret st π Z a w hk hr
    rw [codeB_seq] at h
    unfold cSeq at h
    split at h
    · rcases h with h | ⟨X, I, lay, h1, h2⟩
      · exact go h
      · refine wp_seq (ihx st _ π Z a w _ hok.1 h1 hr fun e st π Z a w hk hr => ?_)
        cases e with
        | normal =>
          obtain ⟨y, g1, g2⟩ := hk
          obtain ⟨π', hr'⟩ := hr.sub g2
          exact ihy (lay y) K π' Z a w Q hok.2 (h2 y g1) hr' hQ
        | exit i => exact hQ (.exit i) st π Z a w hk hr
        | ret => exact hQ .ret st π Z a w hk hr
    · exact go h
  | cond o x y ihx ihy =>
    intro st K π Z a w Q hok h hr hQ
    simp only [codeOk, Bool.and_eq_true] at hok
    have hV := V_eval (π := π) (Z := Z) (a := a) hr.env o
    have fin : ∀ b, evalA st o = .bool b → (b = true → codeB tt ct c.k0 x st K) → (b = false → codeB tt ct c.k0 y st K) → (Code.cond o x y).wp P Q a w := by
      intro b hb h1 h2
      rw [hb] at hV
      refine wp_cond_split (V_bool hV) (fun hb => ihx st K π Z a w Q hok.1 (h1 hb) hr hQ) (fun hb => ihy st K π Z a w Q hok.2 (h2 hb) hr hQ)
    rw [codeB_cond] at h
    unfold cCond at h
    have hkn : ∀ b, (match o with | .tmp t => knl st.kn t | _ => none) = some b → evalA st o = .bool b := by
      intro b hb
      cases o with
      | tmp t => exact hr.kn t b hb
      | _ => cases hb
    split at h
    · rename_i hk; exact fin true (hkn _ hk) (fun _ => h) (fun h => by cases h)
    · rename_i hk; exact fin false (hkn _ hk) (fun h => by cases h) (fun _ => h)
    · split at h
      · rename_i b hb; exact fin b hb h.1 h.2
      · exact h.elim
  | block id x ih =>
    intro st K π Z a w Q hok h hr hQ
    refine wp_block (ih st _ π Z a w _ hok h hr fun e st π Z a w hk hr => ?_)
    cases e with
    | normal => exact hQ .normal st π Z a w hk hr
    | exit i =>
      simp only [toExit, Exit.inBlock]
      cases hb : Nat.beq i id with
      | true =>
        simp only [hb, cond_true] at hk
        rw [if_pos (Nat.eq_of_beq_eq_true hb)]
        exact hQ .normal st π Z a w hk hr
      | false =>
        simp only [hb, cond_false] at hk
        rw [if_neg (fun e => by subst e; simp at hb)]
        exact hQ (.exit i) st π Z a w hk hr
    | ret => exact hQ .ret st π Z a w hk hr
  | exit id => intro st K π Z a w Q _ h hr hQ; exact wp_exit (hQ (.exit id) st π Z a w h hr)
  | scope x ih =>
    intro st K π Z a w Q hok h hr hQ
    refine wp_scope_straight (ih st K π Z a w _ hok h hr fun e st π Z a w hk hr => ?_)
    cases e <;> exact hQ _ st π Z a w hk hr
  | label l => intro st K π Z a w Q _ h hr hQ; exact wp_label (hQ .normal st π Z a w h hr)
  | ret => intro st K π Z a w Q _ h hr hQ; exact wp_ret (hQ .ret st π Z a w h hr)
  | loop x ih =>
    intro st K π Z a w Q hok h hr hQ
    rw [codeB_loop] at h
    unfold LoopP at h
    obtain ⟨X, I, lay, μ, x0, hI, hsub, hround⟩ := h
    suffices H : ∀ n x0 π Z a w, μ x0 < n → I x0 → Rel c π Z (lay x0) a w → Code.rounds P x Q n a w by
      obtain ⟨π', hr'⟩ := hr.sub hsub
      exact wp_loop_rounds (μ x0 + 1) (H (μ x0 + 1) x0 π' Z a w (Nat.lt_succ_self _) hI hr')
    intro n
    induction n with
    | zero => intro x0 π Z a w hlt; exact absurd hlt (Nat.not_lt_zero _)
    | succ n ihn =>
      intro x0 π Z a w hlt hI hr
      rw [rounds_succ]
      refine ih (lay x0) _ π Z a w _ hok (hround x0 hI) hr fun e st π Z a w hk hr => ?_
      cases e with
      | normal =>
        obtain ⟨y, h1, h2, h3⟩ := hk
        obtain ⟨π', hr'⟩ := hr.sub h3
        exact ihn y π' Z a w (by omega) h1 hr'
      | exit i => exact hQ (.exit i) st π Z a w hk hr
      | ret => exact hQ .ret st π Z a w hk hr
  | _ => intro st K π Z a w Q _ h; exact h.elim

/-! A function's end: what it gives. -/
def resA (tt : Tab) (st : St) : List ResultVar → (List AV → Prop) → Prop
  | [], K => K []
  | .tmp t :: l, K => match lkE st.env t with
    | .un => False
    | .tup _ => False
    | v => resA tt st l fun vs => K (v :: vs)
  | .cell a t :: l, K => match lkE st.env a with
    | .ptr id p => match lkH st.heap id with
      | some v => Chk (fitsT tt t (proj v p)) <| withR (proj v p) fun u => resA tt st l fun vs => K (u :: vs)
      | none => False
    | .rp v => Chk (fitsT tt t v) <| withR v fun u => resA tt st l fun vs => K (u :: vs)
    | _ => False

def one (vs : List AV) : AV :=
  match vs with
  | [v] => v
  | vs => .tup vs


def resF (tmps : Array Value) : ResultVar → Sem Value
  | .tmp t => pure (tmps.getD t undef)
  | .cell a t => do loadVar t (← asAddr (tmps.getD a undef))

theorem results_eq (fn : Func) (tmps : Array Value) : results fn tmps = (do
    let vs ← fn.results.mapM (resF tmps)
    pure (if h : vs.size = 1 then vs[0] else .tuple vs)) := by
  unfold results
  congr

theorem res_sound (hT : TabOk P tt) {st : St} {π : PM} {Z : ZM} {a : Act} {w : World} (hr : Rel c π Z st a w) : ∀ (l : List ResultVar) (K : List AV → Prop), resA tt st l K →
    ∃ (vs : List AV) (us : List Value), K vs ∧ us.length = vs.length ∧ (∀ (i : Nat) (x : AV) (u : Value), vs[i]? = some x → us[i]? = some u → VA π Z x u ∧ x ≠ .un ∧ ∀ ts, x ≠ .tup ts) ∧
      (l.mapM (resF a.tmps)).run P w = .ok us w
  | [], K, h => ⟨[], [], h, rfl, fun i x u h => by simp at h, by simp⟩
  | .tmp t :: l, K, h => by
    have hv := hr.env t
    have fin : ∀ x, lkE st.env t = x → x ≠ .un → (∀ ts, x ≠ .tup ts) → resA tt st l (fun vs => K (x :: vs)) → ∃ (vs : List AV) (us : List Value), K vs ∧ us.length = vs.length ∧ (∀ (i : Nat) (x : AV) (u : Value), vs[i]? = some x → us[i]? = some u → VA π Z x u ∧ x ≠ .un ∧ ∀ ts, x ≠ .tup ts) ∧
        ((ResultVar.tmp t :: l).mapM (resF a.tmps)).run P w = .ok us w := by
      intro x hx h1 h2 h
      obtain ⟨vs, us, g1, g2, g3, g4⟩ := res_sound hT hr l _ h
      rw [hx] at hv
      have hva : VA π Z x (a.tmps.getD t undef) := by
        cases x <;> first | exact absurd rfl h1 | exact absurd rfl (h2 _) | exact hv
      refine ⟨x :: vs, a.tmps.getD t undef :: us, g1, by simp [g2], fun i y u hy hu => ?_, by simp [List.mapM_cons, resF, g4]⟩
      cases i with
      | zero => simp at hy hu; subst hy; subst hu; exact ⟨by simpa using hva, h1, h2⟩
      | succ i => exact g3 i y u (by simpa using hy) (by simpa using hu)
    cases hx : lkE st.env t <;> simp only [resA, hx] at h <;> first | exact h.elim | exact fin _ hx (by simp) (by simp) h
  | .cell b t :: l, K, h => by
    have hv := hr.env b
    have fin : ∀ x u, VA π Z x u → x ≠ .un → (asAddr (a.tmps.getD b undef) >>= fun A => loadVar t A).run P w = .ok u w → resA tt st l (fun vs => K (x :: vs)) → ∃ (vs : List AV) (us : List Value), K vs ∧ us.length = vs.length ∧ (∀ (i : Nat) (x : AV) (u : Value), vs[i]? = some x → us[i]? = some u → VA π Z x u ∧ x ≠ .un ∧ ∀ ts, x ≠ .tup ts) ∧
        ((ResultVar.cell b t :: l).mapM (resF a.tmps)).run P w = .ok us w := by
      intro x u hva h1 hx h
      obtain ⟨vs, us, g1, g2, g3, g4⟩ := res_sound hT hr l _ h
      have h2 : ∀ ts, x ≠ .tup ts := by
        intro ts e; subst e
        unfold VA at hva
        simp only [isAggA, Bool.false_eq_true, if_false] at hva
        cases hva
      refine ⟨x :: vs, u :: us, g1, by simp [g2], fun i y u hy hu => ?_, ?_⟩
      · cases i with
        | zero => simp at hy hu; subst hy; subst hu; exact ⟨hva, h1, h2⟩
        | succ i => exact g3 i y u (by simpa using hy) (by simpa using hu)
      · rw [List.mapM_cons]
        simp only [Sem.run_bind, resF]
        have hx' : (do loadVar t (← asAddr (a.tmps.getD b undef)) : Sem Value).run P w = .ok u w := hx
        simp only [Sem.run_bind] at hx'
        rw [hx']
        simp [g4]
    simp only [resA] at h
    split at h
    · rename_i id p he
      rw [he] at hv
      split at h
      · rename_i v hlk
        obtain ⟨hf, h⟩ := h
        obtain ⟨ti, ht, hs, ha⟩ := fits_ok hT hf
        obtain ⟨bb, sh, r, o', t', h1, h2, h3, h4, hok⟩ := ptr_inv hr.good hlk hv
        obtain ⟨cs, g1, g2, g3⟩ := part_cells hok h2
        obtain ⟨x, hx, hva⟩ := load_of ht hs ha g1 ⟨bb, o', none⟩ rfl cs g2 g3
        obtain ⟨hK, hun⟩ := withR_inv h (rng_of_VA hva)
        exact fin _ x hva hun (by rw [h3]; simpa [asAddr] using hx) hK
      · exact h.elim
    · rename_i v he
      rw [he] at hv
      obtain ⟨hf, h⟩ := h
      obtain ⟨ti, ht, hs, ha⟩ := fits_ok hT hf
      obtain ⟨A, cs, h3, g0, g1, g2, g3⟩ := rp_inv hr.good hv
      obtain ⟨x, hx, hva⟩ := load_of ht hs ha g1 A g0 cs g2 g3
      obtain ⟨hK, hun⟩ := withR_inv h (rng_of_VA hva)
      exact fin _ x hva hun (by rw [h3]; simpa [asAddr] using hx) hK
    · exact h.elim

/-- What a function's code comes to. -/
def bodyA (tt : Tab) (ct : Specs) (k0 : Nat) (code : Code) (results : List ResultVar) (st : St) (Q : St → AV → Prop) : Prop :=
  codeB tt ct k0 code st fun e st => match e with
    | .exit _ => False
    | .normal => resA tt st results fun vs => Q st (one vs)
    | .ret => resA tt st results fun vs => Q st (one vs)

def argsE : Nat → List AV → Env
  | _, [] => []
  | i, a :: l => (i, a) :: argsE (i + 1) l

theorem argsE_lk : ∀ (l : List AV) (i t : Nat), lkE (argsE i l) t = if i ≤ t then l.getD (t - i) .un else .un
  | [], i, t => by simp [argsE, lkE]
  | a :: l, i, t => by
    simp only [argsE, lkE]
    cases hb : Nat.beq i t with
    | true =>
      have := Nat.eq_of_beq_eq_true hb
      subst this
      simp
    | false =>
      have hne : i ≠ t := fun e => by subst e; simp at hb
      simp only [cond_false]
      rw [argsE_lk l (i + 1) t]
      by_cases h : i ≤ t
      · rw [if_pos h, if_pos (by omega)]
        have : t - i = (t - (i + 1)) + 1 := by omega
        rw [this]; rfl
      · rw [if_neg h, if_neg (by omega)]

theorem body_sound (hT : TabOk P tt) (hC : SpecsOk P ct) (hm : P.follows .mixedOrders = true) {f : FuncId} {fn : Func} {code : Code} (hf : P.funcs[f]? = some fn) (hb : fn.body = some code) (hok : codeOk fn.ntmps code = true)
    {B : Bs} {π : PM} {Z : ZM} {H : Heap} {k0 : Nat} {w : World} {args : List AV} {us : List Value} (ha : Vs π Z args us) (hn : args.length ≤ fn.ntmps) (hg : Good B π Z (lkH H) w) (hfr : ∀ id, k0 ≤ id → π id = none) {Q : St → AV → Prop}
    (h : bodyA tt ct k0 code fn.results.toList ⟨argsE 0 args, H, k0, []⟩ Q) :
    Calls P f us.toArray w fun r w' => ∃ u, r = .returned u ∧ ∃ st v π' Z', Q st v ∧ (∀ id, id < k0 → π' id = π id) ∧ (∀ b o, Z b = some o → Z' b = some o) ∧ (∀ id, st.nxt ≤ id → π' id = none) ∧ V π' Z' v u ∧ v ≠ .un ∧ Good B π' Z' (lkH st.heap) w' := by
  refine calls_of_wp hf hb ?_
  let c : Cx := ⟨fn.ntmps, B, k0, π, Z⟩
  have hr : Rel c π Z ⟨argsE 0 args, H, k0, []⟩ { tmps := us.toArray ++ Array.replicate (fn.ntmps - us.toArray.size) undef, defers := [] } w := by
    refine ⟨rfl, ?_, fun t => ?_, hg, hfr, fun t b h => by simp [knl] at h, fun _ _ => rfl, Nat.le_refl _, fun _ _ h => h⟩
    · simp only [Array.size_append, Array.size_replicate, List.size_toArray]
      have := ha.1
      show _ = fn.ntmps
      omega
    · rw [argsE_lk, if_pos (Nat.zero_le _), Nat.sub_zero]
      rcases Nat.lt_or_ge t args.length with h | h
      · have h' : t < us.length := by rw [ha.1]; exact h
        have := ha.2 t args[t] us[t] (List.getElem?_eq_getElem h) (List.getElem?_eq_getElem h')
        simp only [Array.getD_eq_getD_getElem?, List.getD_eq_getElem?_getD, List.getElem?_eq_getElem h, Option.getD_some]
        rw [Array.getElem?_append_left (by simpa using h')]
        simpa [List.getElem?_eq_getElem h'] using this
      · rw [List.getD_eq_getElem?_getD, List.getElem?_eq_none h]
        trivial
  refine code_sound (c := c) hT hC hm code _ _ π Z _ w _ hok h hr fun e st π' Z' a w' hk hr => ?_
  have fin : resA tt st fn.results.toList (fun vs => Q st (one vs)) → a.defers = [] ∧ ∃ v, (results fn a.tmps).run P w' = .ok v w' ∧ ∃ u, Ending.returned v = .returned u ∧ ∃ st v π' Z', Q st v ∧ (∀ id, id < k0 → π' id = π id) ∧ (∀ b o, Z b = some o → Z' b = some o) ∧ (∀ id, st.nxt ≤ id → π' id = none) ∧ V π' Z' v u ∧ v ≠ .un ∧ Good B π' Z' (lkH st.heap) w' := by
    intro h
    obtain ⟨vs, us', g1, g2, g3, g4⟩ := res_sound hT hr _ _ h
    refine ⟨hr.defers, if h : us'.toArray.size = 1 then us'.toArray[0] else .tuple us'.toArray, ?_, _, rfl, st, one vs, π', Z', g1, hr.low, hr.z0, hr.fresh, ?_, ?_, hr.good⟩
    · rw [results_eq, Array.mapM_eq_mapM_toList]
      simp only [Sem.run_bind, Sem.run_map, g4]
      rfl
    · match vs, us', g2, g3 with
      | [x], [u], _, g3 =>
        obtain ⟨q1, q2, q3⟩ := g3 0 x u rfl rfl
        simpa [one] using VA_V q1
      | [], [], _, _ => exact ⟨[], rfl, rfl, fun i a u h => by simp at h⟩
      | x :: y :: vs, u :: u2 :: us', g2, g3 =>
        exact ⟨u :: u2 :: us', by simp, g2, fun i a u ha hu => .inr (g3 i a u ha hu).1⟩
    · match vs, us', g2, g3 with
      | [x], [u], _, g3 => exact (g3 0 x u rfl rfl).2.1
      | [], _, _, _ => simp [one]
      | x :: y :: vs, _, _, _ => simp [one]
  cases e with
  | exit i => exact hk.elim
  | normal => exact fin hk
  | ret => exact fin hk

end
end Go.Ax

/- What a callee gives back, in its caller's names. -/
namespace Go.Ax
open Go

def idx : List Nat → Nat → Option Nat
  | [], _ => none
  | i :: l, k => cond (Nat.beq i k) (some 0) (match idx l k with | some j => some (j + 1) | none => none)

def subR (v : AV) (off len : Nat) : AV :=
  match v with
  | .arr k _ xs => .arr k len ((xs.drop off).take len)
  | .seq sz _ f => .seq sz len (fun j => f (off + j))
  | _ => .un

/-- What was tracked is told by its content, but for some that keep a name. -/
def fz (nx : Nat) (ks : List Nat) (H : Nat → Option AV) : Nat → AV → AV
  | 0, _ => .un
  | n + 1, a => match a with
    | .st fs => .st (fs.map (fz nx ks H n))
    | .tup vs => .tup (vs.map (fz nx ks H n))
    | .seq sz m f => .seq sz m (fun j => fz nx ks H n (f j))
    | .ow id e => match idx ks id with
      | some j => .ow (nx + j) e
      | none => match H id with
        | some u => .rs (fz nx ks H n u)
        | none => .un
    | .sl id p off len => match idx ks id with
      | some j => .sl (nx + j) p off len
      | none => match H id with
        | some u => .rs (fz nx ks H n (subR (proj u p) off len))
        | none => .un
    | .ptr id p => match idx ks id with
      | some j => .ptr (nx + j) p
      | none => match H id with
        | some u => .rp (fz nx ks H n (proj u p))
        | none => .un
    | .mp id => match idx ks id with
      | some j => .mp (nx + j)
      | none => .un
    | .rs v => .rs (fz nx ks H n v)
    | .rp v => .rp (fz nx ks H n v)
    | .ifc t v => .ifc t (fz nx ks H n v)
    | .fn f a b => .fn f (a.map (fz nx ks H n)) (b.map (fz nx ks H n))
    | a => a

mutual
/-- Told whole. -/
def okF : AV → Prop
  | .un => False
  | .st fs => okFs fs
  | .tup vs => okFs vs
  | .seq _ n f => ∀ j, j < n → okF (f j)
  | .rs v => okF v
  | .rp v => okF v
  | .ifc _ v => okF v
  | .fn _ a b => okFs a ∧ okFs b
  | _ => True
def okFs : List AV → Prop
  | [] => True
  | a :: l => okF a ∧ okFs l
end

theorem okFs_at : ∀ {l : List AV}, okFs l → ∀ (i : Nat) (a : AV), l[i]? = some a → okF a
  | [], _, i, a, h => by simp at h
  | b :: l, h, 0, a, e => by simp at e; subst e; exact h.1
  | b :: l, h, i + 1, a, e => okFs_at h.2 i a (by simpa using e)

/-- Two rows, one by one. -/
def All2 (R : AV → AV → Prop) (l l' : List AV) : Prop := l'.length = l.length ∧ ∀ (i : Nat) (a a' : AV), l[i]? = some a → l'[i]? = some a' → R a a'

theorem All2.append {R : AV → AV → Prop} {l m l' m' : List AV} (h : All2 R l l') (h' : All2 R m m') : All2 R (l ++ m) (l' ++ m') := by
  refine ⟨by simp [h.1, h'.1], fun i a a' ha ha' => ?_⟩
  by_cases hi : i < l.length
  · rw [List.getElem?_append_left hi] at ha
    rw [List.getElem?_append_left (by rw [h.1]; exact hi)] at ha'
    exact h.2 i a a' ha ha'
  · rw [List.getElem?_append_right (by omega)] at ha
    rw [List.getElem?_append_right (by rw [h.1]; omega), h.1] at ha'
    exact h'.2 _ a a' ha ha'

theorem All2.one {R : AV → AV → Prop} {a a' : AV} (h : R a a') : All2 R [a] [a'] :=
  ⟨rfl, fun i x y hx hy => by cases i with | zero => simp at hx hy; subst hx; subst hy; exact h | succ i => simp at hx⟩

theorem All2.flatMap {R : AV → AV → Prop} {f g : Nat → List AV} : ∀ (l : List Nat), (∀ j ∈ l, All2 R (f j) (g j)) → All2 R (l.flatMap f) (l.flatMap g)
  | [], _ => ⟨rfl, fun i a a' h => by simp at h⟩
  | j :: l, h => by
    simp only [List.flatMap_cons]
    exact (h j (by simp)).append (All2.flatMap l fun j hj => h j (by simp [hj]))

theorem All2.imp {R R' : AV → AV → Prop} {l l' : List AV} (h : All2 R l l') (hi : ∀ a a', R a a' → R' a a') : All2 R' l l' := ⟨h.1, fun i a a' h1 h2 => hi _ _ (h.2 i a a' h1 h2)⟩

theorem Cells.all2 {π π' : PM} {Z Z' : ZM} {R : AV → AV → Prop} {l l' : List AV} {cs : List Value} (h : Cells π Z l cs) (h2 : All2 R l l') (hR : ∀ a a' u, R a a' → S π Z a u → S π' Z' a' u) : Cells π' Z' l' cs := by
  refine ⟨by rw [h2.1]; exact h.1, fun i a' u ha' hu => ?_⟩
  have hi : i < l.length := by
    have := (List.getElem?_eq_some_iff.1 ha').1
    rw [h2.1] at this; exact this
  have ha := List.getElem?_eq_getElem hi
  exact hR _ _ _ (h2.2 i _ a' ha ha') (h.2 i _ u ha hu)

section
variable {nx : Nat} {ks : List Nat} {H : Nat → Option AV}

theorem hasShs_map : ∀ {f : AV → AV} {l : List AV} {ss : List Sh}, (∀ a s, a ∈ l → HasSh a s → HasSh (f a) s) → HasShs l ss → HasShs (l.map f) ss
  | f, [], [], _, _ => trivial
  | f, [], _ :: _, _, h => by simp [HasShs] at h
  | f, a :: l, [], _, h => by simp [HasShs] at h
  | f, a :: l, s :: ss, hf, h => ⟨hf a s (by simp) h.1, hasShs_map (fun b s hb => hf b s (by simp [hb])) h.2⟩

theorem okFs_map {f : AV → AV} : ∀ {l : List AV}, okFs (l.map f) → ∀ a ∈ l, okF (f a)
  | [], _, a, h => by simp at h
  | b :: l, h, a, ha => by
    simp at ha
    rcases ha with rfl | ha
    · exact h.1
    · exact okFs_map h.2 a ha

theorem hasSh_fz : ∀ (n : Nat) (v : AV) (s : Sh), HasSh v s → okF (fz nx ks H n v) → HasSh (fz nx ks H n v) s := by
  intro n
  induction n with
  | zero => intro v s _ h; exact h.elim
  | succ n ih =>
    intro v s hs hok
    cases v with
    | st fs =>
      cases s with
      | st ss =>
        simp only [fz, HasSh] at hs ⊢
        simp only [fz, okF] at hok
        exact hasShs_map (fun a s ha hs => ih a s hs (okFs_map hok a ha)) hs
      | _ => simp [HasSh] at hs
    | seq sz m f =>
      cases s with
      | sq sz' m' s =>
        simp only [fz, HasSh] at hs ⊢
        simp only [fz, okF] at hok
        exact ⟨hs.1, hs.2.1, hs.2.2.1, fun j hj => ih _ s (hs.2.2.2 j hj) (hok j hj)⟩
      | _ => simp [HasSh] at hs
    | ow id e =>
      simp only [fz] at hok ⊢
      have hc : s = .c := by cases s <;> simp [HasSh] at hs; rfl
      subst hc
      cases h1 : idx ks id with
      | some j => simp [HasSh]
      | none => cases h2 : H id with
        | some u => simp [HasSh]
        | none => simp [h1, h2, okF] at hok
    | sl id p off len =>
      simp only [fz] at hok ⊢
      have hc : s = .c := by cases s <;> simp [HasSh] at hs; rfl
      subst hc
      cases h1 : idx ks id with
      | some j => simp [HasSh]
      | none => cases h2 : H id with
        | some u => simp [HasSh]
        | none => simp [h1, h2, okF] at hok
    | ptr id p =>
      simp only [fz] at hok ⊢
      have hc : s = .c := by cases s <;> simp [HasSh] at hs; rfl
      subst hc
      cases h1 : idx ks id with
      | some j => simp [HasSh]
      | none => cases h2 : H id with
        | some u => simp [HasSh]
        | none => simp [h1, h2, okF] at hok
    | mp id =>
      simp only [fz] at hok ⊢
      have hc : s = .c := by cases s <;> simp [HasSh] at hs; rfl
      subst hc
      cases h1 : idx ks id with
      | some j => simp [HasSh]
      | none => simp [h1, okF] at hok
    | tup vs => simp [HasSh] at hs
    | un => simp [HasSh] at hs
    | rs v => cases s <;> simp [HasSh] at hs; simp [fz, HasSh]
    | rp v => cases s <;> simp [HasSh] at hs; simp [fz, HasSh]
    | ifc t v => cases s <;> simp [HasSh] at hs; simp [fz, HasSh]
    | fn f a b => cases s <;> simp [HasSh] at hs; simp [fz, HasSh]
    | _ => exact hs

theorem wf_fz {n : Nat} {v : AV} (h : WfA v) (hok : okF (fz nx ks H n v)) : WfA (fz nx ks H n v) := let ⟨s, hs⟩ := h; ⟨s, hasSh_fz n v s hs hok⟩

theorem rowOf_fz {n : Nat} {v : AV} {r : Nat × Nat} (h : rowOf v = some r) (hok : okF (fz nx ks H n v)) : rowOf (fz nx ks H n v) = some r := by
  cases n with
  | zero => exact hok.elim
  | succ n => cases v <;> simp [rowOf] at h <;> simp [fz, rowOf, h]

theorem rowN_fz {n : Nat} {v : AV} {r : Nat} (h : rowN v = some r) (hok : okF (fz nx ks H n v)) : rowN (fz nx ks H n v) = some r := by
  cases n with
  | zero => exact hok.elim
  | succ n => cases v <;> simp [rowN] at h <;> simp [fz, rowN, h]

theorem isAgg_fz {n : Nat} {v : AV} (hok : okF (fz nx ks H n v)) : isAggA (fz nx ks H n v) = isAggA v := by
  cases n with
  | zero => exact hok.elim
  | succ n =>
    cases v with
    | ow id e => cases h1 : idx ks id <;> cases h2 : H id <;> simp [fz, h1, h2, isAggA]
    | sl id p off len => cases h1 : idx ks id <;> cases h2 : H id <;> simp [fz, h1, h2, isAggA]
    | ptr id p => cases h1 : idx ks id <;> cases h2 : H id <;> simp [fz, h1, h2, isAggA]
    | mp id => cases h1 : idx ks id <;> simp [fz, h1, isAggA]
    | _ => rfl

/-- Its cells are those of what was. -/
def FzR (nx : Nat) (ks : List Nat) (H : Nat → Option AV) (n : Nat) (a a' : AV) : Prop := ∃ m, m ≤ n ∧ a' = fz nx ks H m a ∧ okF a'

theorem flat_fz : ∀ (n : Nat) (v : AV), okF (fz nx ks H n v) → All2 (FzR nx ks H n) (flat v) (flat (fz nx ks H n v)) := by
  intro n
  induction n with
  | zero => intro v h; exact h.elim
  | succ n ih =>
    intro v hok
    have up : ∀ a a', FzR nx ks H n a a' → FzR nx ks H (n + 1) a a' := fun a a' ⟨m, h1, h2⟩ => ⟨m, by omega, h2⟩
    have self : ∀ v, flat v = [v] → flat (fz nx ks H (n + 1) v) = [fz nx ks H (n + 1) v] → okF (fz nx ks H (n + 1) v) → All2 (FzR nx ks H (n + 1)) (flat v) (flat (fz nx ks H (n + 1) v)) := by
      intro v h1 h2 h3
      rw [h1, h2]
      exact .one ⟨n + 1, Nat.le_refl _, rfl, h3⟩
    cases v with
    | st fs =>
      simp only [fz, flat]
      simp only [fz, okF] at hok
      have : ∀ (l : List AV), (∀ a ∈ l, okF (fz nx ks H n a)) → All2 (FzR nx ks H (n + 1)) (flats l) (flats (l.map (fz nx ks H n))) := by
        intro l
        induction l with
        | nil => intro _; exact ⟨rfl, fun i a a' h => by simp [flats] at h⟩
        | cons a l ihl =>
          intro h
          simp only [List.map_cons, flats]
          exact ((ih a (h a (by simp))).imp up).append (ihl fun b hb => h b (by simp [hb]))
      exact this fs (okFs_map hok)
    | seq sz m f =>
      simp only [fz, flat]
      simp only [fz, okF] at hok
      exact All2.flatMap _ fun j hj => (ih _ (hok j (by simpa using hj))).imp up
    | arr k m xs =>
      simp only [fz, flat]
      refine ⟨rfl, fun i a a' ha ha' => ?_⟩
      rw [ha] at ha'; cases ha'
      have : a = fz nx ks H 1 a := by
        simp only [List.getElem?_map, Option.map_eq_some_iff] at ha
        obtain ⟨z, _, rfl⟩ := ha
        rfl
      refine ⟨1, by omega, this, ?_⟩
      simp only [List.getElem?_map, Option.map_eq_some_iff] at ha
      obtain ⟨z, _, rfl⟩ := ha
      trivial
    | ow id e => exact self (.ow id e) rfl (by cases h1 : idx ks id <;> cases h2 : H id <;> simp [fz, h1, h2, flat]) hok
    | sl id p off len => exact self (.sl id p off len) rfl (by cases h1 : idx ks id <;> cases h2 : H id <;> simp [fz, h1, h2, flat]) hok
    | ptr id p => exact self (.ptr id p) rfl (by cases h1 : idx ks id <;> cases h2 : H id <;> simp [fz, h1, h2, flat]) hok
    | mp id => exact self (.mp id) rfl (by cases h1 : idx ks id <;> simp [fz, h1, flat]) hok
    | _ => exact self _ rfl rfl hok

/-- Where both worlds meet. -/
structure FzC (nx : Nat) (ks : List Nat) (H : Nat → Option AV) (π : PM) (Z : ZM) (w : World) (π' : PM) (Z' : ZM) : Prop where
  objs : ∀ id v, H id = some v → ∃ l, π id = some l ∧ ObjOk π Z v l w
  kept : ∀ id j, idx ks id = some j → π' (nx + j) = π id
  z : ∀ b o, Z b = some o → Z' b = some o
  fro : ∀ id v b sh r, H id = some v → idx ks id = none → π id = some (.at b sh r) → Z' b = w.heap[b]?

variable {π π' : PM} {Z Z' : ZM} {w : World}

theorem zcell_block {Z : ZM} {b o i : Nat} {arr : Array Value} {e : TypeId} {fr : Nat × Nat} {u : Value} (h : Z b = some (.cells arr e fr)) (hu : arr[o + i]? = some u) : zcell Z ⟨b, o, none⟩ i = some u := by
  unfold zcell
  simp [h, hu]

theorem proj_nil (v : AV) : proj v [] = v := by cases v <;> rfl

theorem subR_row {v : AV} {n sz off len : Nat} (hw : WfA v) (hr : rowOf v = some (n, sz)) (h : off + len ≤ n) : WfA (subR v off len) ∧ rowN (subR v off len) = some len ∧ flat (subR v off len) = ((flat v).drop (off * sz)).take (len * sz) := by
  obtain ⟨s, hs⟩ := hw
  cases v <;> simp [rowOf] at hr
  case arr k m xs =>
    obtain ⟨rfl, rfl⟩ := hr
    cases s <;> simp [HasSh] at hs
    refine ⟨⟨.ar k len, by simp only [subR, HasSh]; refine ⟨trivial, trivial, ?_⟩; simp; omega⟩, rfl, ?_⟩
    simp [subR, flat, List.map_drop, List.map_take]
  case seq sz' m f =>
    obtain ⟨rfl, rfl⟩ := hr
    cases s with
    | sq sz'' m' s =>
      simp only [HasSh] at hs
      obtain ⟨h1, h2, h3, h4⟩ := hs
      refine ⟨⟨.sq sz' len s, by simp only [subR, HasSh]; exact ⟨trivial, trivial, h3, fun j hj => h4 _ (by omega)⟩⟩, rfl, ?_⟩
      simp only [subR, flat]
      have hl : ∀ j, j < m → (flat (f j)).length = sz' := fun j hj => by rw [flat_len _ s (h4 j hj)]; exact h3
      have key : ∀ (len off m : Nat) (f : Nat → AV), off + len ≤ m → (∀ j, j < m → (flat (f j)).length = sz') → ((List.range len).flatMap fun j => flat (f (off + j))) = (((List.range m).flatMap fun j => flat (f j)).drop (off * sz')).take (len * sz') := by
        intro len off m f hle hl
        have e1 : List.range m = List.range off ++ ((List.range len).map (off + ·) ++ (List.range (m - off - len)).map (off + len + ·)) := by
          rw [show m = off + (len + (m - off - len)) by omega, List.range_add, List.range_add]
          simp [List.map_map, Function.comp_def, Nat.add_assoc]
        have flen : ∀ (l : List Nat) (g : Nat → AV), (∀ j ∈ l, (flat (g j)).length = sz') → (l.flatMap fun j => flat (g j)).length = l.length * sz' := by
          intro l g
          induction l with
          | nil => simp
          | cons a l ih =>
            intro h
            simp only [List.flatMap_cons, List.length_append, List.length_cons]
            rw [ih fun j hj => h j (by simp [hj]), h a (by simp), Nat.add_mul]
            omega
        rw [e1, List.flatMap_append, List.flatMap_append, List.flatMap_map]
        have h1 : (((List.range off).flatMap fun j => flat (f j))).length = off * sz' := by
          rw [flen _ _ fun j hj => hl j (by simp at hj; omega)]; simp
        have h2 : ((List.range len).flatMap fun j => flat (f (off + j))).length = len * sz' := by
          rw [flen _ (fun j => f (off + j)) fun j hj => hl _ (by simp at hj; omega)]; simp
        rw [← h1, List.drop_left, ← h2, List.take_left]
      exact key len off m f h hl
    | _ => simp [HasSh] at hs


theorem S_fz (hc : FzC nx ks H π Z w π' Z') : ∀ (n : Nat) (a : AV) (u : Value), S π Z a u → okF (fz nx ks H n a) → S π' Z' (fz nx ks H n a) u := by
  intro n
  induction n using Nat.strongRecOn with
  | _ n ih =>
  intro a u hS hok
  cases n with
  | zero => exact hok.elim
  | succ n =>
  have cellOk : ∀ {l l' : List AV} {cs : List Value}, Cells π Z l cs → All2 (FzR nx ks H n) l l' → Cells π' Z' l' cs := fun h h2 => h.all2 h2 fun a a' u ⟨m, hm, e, hk⟩ hs => by
    subst e; exact ih m (by omega) a u hs hk
  have mkRs : ∀ (v : AV) (b o cap m : Nat) (arr : Array Value) (e : TypeId) (fr : Nat × Nat) (cs : List Value), rowN v = some m → WfA v → m ≤ cap → cap ≤ maxLen → Z' b = some (.cells arr e fr) → Cells π Z (flat v) cs →
      (∀ (i : Nat) (x : Value), cs[i]? = some x → arr[o + i]? = some x) → okF (fz nx ks H n v) → S π' Z' (.rs (fz nx ks H n v)) (.slice (some ⟨b, o, none⟩) m cap) := by
    intro v b o cap m arr e fr cs h1 h2 h3 h4 h5 h6 h7 hk
    have hcl := cellOk h6 (flat_fz n v hk)
    refine .rs _ _ _ _ (fun i => cs.getD i undef) (rowN_fz h1 hk) (wf_fz h2 hk) h3 h4 (fun i a ha => ?_) (fun i a ha => ?_)
    · have hi : i < cs.length := by rw [hcl.1]; exact (List.getElem?_eq_some_iff.1 ha).1
      have := h7 i cs[i] (List.getElem?_eq_getElem hi)
      refine zcell_block h5 ?_
      rw [this]; simp [List.getElem?_eq_getElem hi]
    · have hi : i < cs.length := by rw [hcl.1]; exact (List.getElem?_eq_some_iff.1 ha).1
      exact hcl.2 i a _ ha (by simp [List.getElem?_eq_getElem hi])
  cases hS with
  | bool b => exact .bool b
  | int k z hr => exact .int k z hr
  | str s hs => exact .str s hs
  | nilp => exact .nilp
  | nils => exact .nils
  | nilm => exact .nilm
  | nilf => exact .nilf
  | nili => exact .nili
  | glob g => exact .glob g
  | ptr id p b sh r o t h1 h2 =>
    cases hk : idx ks id with
    | some j =>
      simp only [fz, hk]
      exact .ptr _ p b sh r o t ((hc.kept id j hk).trans h1) h2
    | none =>
      cases hH : H id with
      | none => simp [fz, hk, hH, okF] at hok
      | some v =>
        simp only [fz, hk, hH, okF] at hok ⊢
        obtain ⟨l, hl, hobj⟩ := hc.objs id v hH
        rw [h1] at hl; cases hl
        have hobj' := hobj
        obtain ⟨g1, _, _, cs0, arr, e, g4, g5, g6, _⟩ := hobj
        obtain ⟨q1, q2, q3⟩ := proj_ok p v sh o t g1 h2
        have hz : Z' b = some (.cells arr e (0, 0)) := (hc.fro id v b sh r hH hk h1).trans g4
        have hcs : Cells π Z (flat (proj v p)) ((cs0.drop o).take t.size) := by rw [← q3]; exact (g6.drop o).take t.size
        have hcl := cellOk hcs (flat_fz n _ hok)
        refine .rp _ _ (fun i => ((cs0.drop o).take t.size).getD i undef) (wf_fz ⟨t, q1⟩ hok) rfl (fun i a ha => ?_) (fun i a ha => ?_)
        · have hi : i < ((cs0.drop o).take t.size).length := by rw [hcl.1]; exact (List.getElem?_eq_some_iff.1 ha).1
          have hx := List.getElem?_eq_getElem hi
          refine zcell_block hz ?_
          rw [List.getD_eq_getElem?_getD, hx, Option.getD_some]
          rw [List.getElem?_take] at hx
          split at hx
          · rw [List.getElem?_drop] at hx
            exact take_cells g5 _ _ hx
          · cases hx
        · have hi : i < ((cs0.drop o).take t.size).length := by rw [hcl.1]; exact (List.getElem?_eq_some_iff.1 ha).1
          exact hcl.2 i a _ ha (by rw [List.getD_eq_getElem?_getD, List.getElem?_eq_getElem hi]; rfl)
  | owNil id e h1 =>
    cases hk : idx ks id with
    | some j => simp only [fz, hk]; exact .owNil _ e ((hc.kept id j hk).trans h1)
    | none =>
      cases hH : H id with
      | none => simp [fz, hk, hH, okF] at hok
      | some v =>
        simp only [fz, hk, hH, okF] at hok ⊢
        obtain ⟨l, hl, hobj⟩ := hc.objs id v hH
        rw [h1] at hl; cases hl
        exact .rsNil _ (rowN_fz hobj.1 hok) (wf_fz hobj.2 hok)
  | ow id b sh m cap e sz h1 =>
    cases hk : idx ks id with
    | some j => simp only [fz, hk]; exact .ow _ b sh m cap e sz ((hc.kept id j hk).trans h1)
    | none =>
      cases hH : H id with
      | none => simp [fz, hk, hH, okF] at hok
      | some v =>
        simp only [fz, hk, hH, okF] at hok ⊢
        obtain ⟨l, hl, hobj⟩ := hc.objs id v hH
        rw [h1] at hl; cases hl
        obtain ⟨g1, g2, _, cs0, arr, e', g4, g5, g6, g7, g8, g9, g10, g11, g12⟩ := hobj
        have hz : Z' b = some (.cells arr e' (0, 0)) := (hc.fro id v b sh _ hH hk h1).trans g4
        exact mkRs v b 0 cap m arr e' (0, 0) cs0 (rowOf_N g11) g2 g9 g10 hz g6 (fun i x hx => by rw [Nat.zero_add]; exact take_cells g5 i x hx) hok
  | sl id p off len b sh r o t m sz cap BB h1 h2 h3 h4 h5 h6 h7 =>
    cases hk : idx ks id with
    | some j => simp only [fz, hk]; exact .sl _ p off len b sh r o t m sz cap BB ((hc.kept id j hk).trans h1) h2 h3 h4 h5 h6 h7
    | none =>
      cases hH : H id with
      | none => simp [fz, hk, hH, okF] at hok
      | some v =>
        simp only [fz, hk, hH, okF] at hok ⊢
        obtain ⟨l, hl, hobj⟩ := hc.objs id v hH
        rw [h1] at hl; cases hl
        obtain ⟨g1, g2, _, cs0, arr, e', g4, g5, g6, _⟩ := hobj
        obtain ⟨q1, q2, q3⟩ := proj_ok p v sh o t g1 h2
        have hz : Z' b = some (.cells arr e' (0, 0)) := (hc.fro id v b sh r hH hk h1).trans g4
        have hrow : rowOf (proj v p) = some (m, sz) := by
          rcases h3 with ⟨k, rfl, rfl⟩ | ⟨s, rfl⟩
          · cases hv : proj v p <;> rw [hv] at q1 <;> simp [HasSh] at q1
            obtain ⟨rfl, rfl, _⟩ := q1; rfl
          · cases hv : proj v p <;> rw [hv] at q1 <;> simp [HasSh] at q1
            obtain ⟨rfl, rfl, _⟩ := q1; rfl
        obtain ⟨k1, k2, k3⟩ := subR_row ⟨t, q1⟩ hrow h4
        have hcs : Cells π Z (flat (subR (proj v p) off len)) ((((cs0.drop o).take t.size).drop (off * sz)).take (len * sz)) := by
          rw [k3, ← q3]; exact (((g6.drop o).take t.size).drop _).take _
        rcases Nat.eq_zero_or_pos len with h0 | h0
        · subst h0
          refine .rs _ _ _ _ (fun _ => undef) (rowN_fz k2 hok) (wf_fz k1 hok) h5 h6 (fun i a ha => ?_) (fun i a ha => ?_) <;>
          · have hcl := cellOk hcs (flat_fz n _ hok)
            have hi := (List.getElem?_eq_some_iff.1 ha).1
            rw [← hcl.1] at hi
            simp at hi
        · have hBB := h7 (.inr h0)
          subst hBB
          refine mkRs (subR (proj v p) off len) b (o + off * sz) cap len arr e' (0, 0) _ k2 k1 h5 h6 hz hcs (fun i x hx => ?_) hok
          rw [List.getElem?_take] at hx
          split at hx
          · rw [List.getElem?_drop, List.getElem?_take] at hx
            split at hx
            · rw [List.getElem?_drop] at hx
              have := take_cells g5 _ _ hx
              rw [← Nat.add_assoc] at this
              exact this
            · cases hx
          · cases hx
  | slNil id h1 =>
    cases hk : idx ks id with
    | some j => simp only [fz, hk]; exact .slNil _ ((hc.kept id j hk).trans h1)
    | none =>
      cases hH : H id with
      | none => simp [fz, hk, hH, okF] at hok
      | some v =>
        simp only [fz, hk, hH, okF, proj_nil] at hok ⊢
        obtain ⟨l, hl, hobj⟩ := hc.objs id v hH
        rw [h1] at hl; cases hl
        obtain ⟨r, hr⟩ : ∃ r, rowOf v = some r := by
          have := hobj.1
          cases v <;> simp [rowN] at this <;> exact ⟨_, rfl⟩
        obtain ⟨m, sz⟩ := r
        obtain ⟨k1, k2, k3⟩ := subR_row (off := 0) (len := 0) hobj.2 hr (Nat.zero_le _)
        exact .rsNil _ (rowN_fz k2 hok) (wf_fz k1 hok)
  | rsNil v h1 h2 =>
    simp only [fz, okF] at hok ⊢
    exact .rsNil _ (rowN_fz h1 hok) (wf_fz h2 hok)
  | rs v BB m cap us h1 h2 h3 h4 h5 h6 =>
    simp only [fz, okF] at hok ⊢
    have ha2 := flat_fz (nx := nx) (ks := ks) (H := H) n v hok
    refine .rs _ BB m cap us (rowN_fz h1 hok) (wf_fz h2 hok) h3 h4 (fun i a ha => ?_) (fun i a' ha' => ?_)
    · have hi : i < (flat v).length := by
        have := (List.getElem?_eq_some_iff.1 ha).1
        rw [ha2.1] at this; exact this
      exact zcell_ext hc.z (h5 i _ (List.getElem?_eq_getElem hi))
    · have hi : i < (flat v).length := by
        have := (List.getElem?_eq_some_iff.1 ha').1
        rw [ha2.1] at this; exact this
      obtain ⟨m', hm, e, hk⟩ := ha2.2 i _ a' (List.getElem?_eq_getElem hi) ha'
      subst e
      exact ih m' (by omega) _ _ (h6 i _ (List.getElem?_eq_getElem hi)) hk
  | rp v BB us h1 h2 h3 h4 =>
    simp only [fz, okF] at hok ⊢
    have ha2 := flat_fz (nx := nx) (ks := ks) (H := H) n v hok
    refine .rp _ BB us (wf_fz h1 hok) h2 (fun i a ha => ?_) (fun i a' ha' => ?_)
    · have hi : i < (flat v).length := by
        have := (List.getElem?_eq_some_iff.1 ha).1
        rw [ha2.1] at this; exact this
      exact zcell_ext hc.z (h3 i _ (List.getElem?_eq_getElem hi))
    · have hi : i < (flat v).length := by
        have := (List.getElem?_eq_some_iff.1 ha').1
        rw [ha2.1] at this; exact this
      obtain ⟨m', hm, e, hk⟩ := ha2.2 i _ a' (List.getElem?_eq_getElem hi) ha'
      subst e
      exact ih m' (by omega) _ _ (h4 i _ (List.getElem?_eq_getElem hi)) hk
  | mp id b r h1 =>
    cases hk : idx ks id with
    | some j => simp only [fz, hk]; exact .mp _ b r ((hc.kept id j hk).trans h1)
    | none => simp [fz, hk, okF] at hok
  | fn f first cap fs cs h1 h2 h3 h4 =>
    simp only [fz, okF] at hok ⊢
    refine .fn _ _ _ fs cs (by simpa using h1) (by simpa using h2) (fun i a u ha hu => ?_) (fun i a u ha hu => ?_)
    · simp only [List.getElem?_map, Option.map_eq_some_iff] at ha
      obtain ⟨x, hx, rfl⟩ := ha
      exact ih n (by omega) x u (h3 i x u hx hu) (okFs_map hok.1 x (List.mem_of_getElem? hx))
    · simp only [List.getElem?_map, Option.map_eq_some_iff] at ha
      obtain ⟨x, hx, rfl⟩ := ha
      exact ih n (by omega) x u (h4 i x u hx hu) (okFs_map hok.2 x (List.mem_of_getElem? hx))
  | ifc t v u h =>
    simp only [fz, okF] at hok ⊢
    exact .ifc t _ u (ih n (by omega) v u h hok)

theorem Cells_fz (hc : FzC nx ks H π Z w π' Z') {n : Nat} {v : AV} {cs : List Value} (h : Cells π Z (flat v) cs) (hok : okF (fz nx ks H n v)) : Cells π' Z' (flat (fz nx ks H n v)) cs :=
  h.all2 (flat_fz n v hok) fun a a' u ⟨m, _, e, hk⟩ hs => by subst e; exact S_fz hc m a u hs hk

theorem VA_fz (hc : FzC nx ks H π Z w π' Z') {n : Nat} {a : AV} {u : Value} (h : VA π Z a u) (hok : okF (fz nx ks H n a)) : VA π' Z' (fz nx ks H n a) u := by
  unfold VA at *
  rw [isAgg_fz hok]
  split
  · rename_i hg
    rw [if_pos hg] at h
    obtain ⟨cs, h1, h2, h3⟩ := h
    exact ⟨cs, h1, wf_fz h2 hok, Cells_fz hc h3 hok⟩
  · rename_i hg
    rw [if_neg hg] at h
    exact S_fz hc n a u h hok

theorem V_fz (hc : FzC nx ks H π Z w π' Z') {n : Nat} {a : AV} {u : Value} (h : V π Z a u) (hok : okF (fz nx ks H n a)) : V π' Z' (fz nx ks H n a) u := by
  cases n with
  | zero => exact hok.elim
  | succ n =>
  by_cases hu : a = .un
  · subst hu; exact hok.elim
  · by_cases ht : ∃ vs, a = .tup vs
    · obtain ⟨as, rfl⟩ := ht
      obtain ⟨vs, h1, h2, h3⟩ := h
      simp only [fz, okF] at hok ⊢
      refine ⟨vs, h1, by simpa using h2, fun i a' u ha hu => ?_⟩
      simp only [List.getElem?_map, Option.map_eq_some_iff] at ha
      obtain ⟨x, hx, rfl⟩ := ha
      have hk := okFs_map hok x (List.mem_of_getElem? hx)
      rcases h3 i x u hx hu with h | h
      · subst h
        cases n <;> exact hk.elim
      · exact .inr (VA_fz hc h hk)
    · have h' : VA π Z a u := (V_VA hu fun l e => ht ⟨l, e⟩).1 h
      exact VA_V (VA_fz hc h' hok)

end
end Go.Ax

/- Contracts of functions. -/
namespace Go.Ax
open Go

mutual
/-- No tracked object is named. -/
def noId : AV → Prop
  | .un => False
  | .ptr _ _ => False
  | .ow _ _ => False
  | .sl _ _ _ _ => False
  | .mp _ => False
  | .st fs => noIds fs
  | .tup _ => False
  | .seq _ n f => ∀ j, j < n → noId (f j)
  | .rs v => noId v
  | .rp v => noId v
  | .ifc _ v => noId v
  | .fn _ a b => noIds a ∧ noIds b
  | _ => True
def noIds : List AV → Prop
  | [] => True
  | a :: l => noId a ∧ noIds l
end

mutual
/-- No read-only memory is named. -/
def noR : AV → Prop
  | .rs _ => False
  | .rp _ => False
  | .st fs => noRs fs
  | .tup vs => noRs vs
  | .seq _ n f => ∀ j, j < n → noR (f j)
  | .ifc _ v => noR v
  | .fn _ a b => noRs a ∧ noRs b
  | _ => True
def noRs : List AV → Prop
  | [] => True
  | a :: l => noR a ∧ noRs l
end

theorem noIds_at : ∀ {l : List AV}, noIds l → ∀ a ∈ l, noId a
  | b :: l, h, a, ha => by
    simp at ha
    rcases ha with rfl | ha
    · exact h.1
    · exact noIds_at h.2 a ha

theorem noRs_at : ∀ {l : List AV}, noRs l → ∀ a ∈ l, noR a
  | b :: l, h, a, ha => by
    simp at ha
    rcases ha with rfl | ha
    · exact h.1
    · exact noRs_at h.2 a ha

mutual
theorem noId_flat : ∀ v, noId v → ∀ a ∈ flat v, noId a
  | .st fs, h, a, ha => noIds_flat fs h a ha
  | .arr k n xs, h, a, ha => by
    simp only [flat, List.mem_map] at ha
    obtain ⟨z, _, rfl⟩ := ha
    trivial
  | .seq sz n f, h, a, ha => by
    simp only [flat, List.mem_flatMap, List.mem_range] at ha
    obtain ⟨j, hj, ha⟩ := ha
    exact noId_flat (f j) (h j hj) a ha
  | .un, h, a, ha | .bool _, h, a, ha | .int _ _, h, a, ha | .str _, h, a, ha | .nilp, h, a, ha | .ptr _ _, h, a, ha | .nils, h, a, ha | .ow _ _, h, a, ha | .sl _ _ _ _, h, a, ha | .rs _, h, a, ha | .rp _, h, a, ha
  | .nilm, h, a, ha | .mp _, h, a, ha | .nilf, h, a, ha | .fn _ _ _, h, a, ha | .nili, h, a, ha | .ifc _ _, h, a, ha | .glob _, h, a, ha | .tup _, h, a, ha => by
    simp only [flat, List.mem_singleton] at ha; subst ha; exact h
theorem noIds_flat : ∀ l, noIds l → ∀ a ∈ flats l, noId a
  | [], _, a, h => by simp [flats] at h
  | b :: l, h, a, ha => by
    simp only [flats, List.mem_append] at ha
    rcases ha with ha | ha
    · exact noId_flat b h.1 a ha
    · exact noIds_flat l h.2 a ha
end

mutual
theorem noR_flat : ∀ v, noR v → ∀ a ∈ flat v, noR a
  | .st fs, h, a, ha => noRs_flat fs h a ha
  | .arr k n xs, h, a, ha => by
    simp only [flat, List.mem_map] at ha
    obtain ⟨z, _, rfl⟩ := ha
    trivial
  | .seq sz n f, h, a, ha => by
    simp only [flat, List.mem_flatMap, List.mem_range] at ha
    obtain ⟨j, hj, ha⟩ := ha
    exact noR_flat (f j) (h j hj) a ha
  | .un, h, a, ha | .bool _, h, a, ha | .int _ _, h, a, ha | .str _, h, a, ha | .nilp, h, a, ha | .ptr _ _, h, a, ha | .nils, h, a, ha | .ow _ _, h, a, ha | .sl _ _ _ _, h, a, ha | .rs _, h, a, ha | .rp _, h, a, ha
  | .nilm, h, a, ha | .mp _, h, a, ha | .nilf, h, a, ha | .fn _ _ _, h, a, ha | .nili, h, a, ha | .ifc _ _, h, a, ha | .glob _, h, a, ha | .tup _, h, a, ha => by
    simp only [flat, List.mem_singleton] at ha; subst ha; exact h
theorem noRs_flat : ∀ l, noRs l → ∀ a ∈ flats l, noR a
  | [], _, a, h => by simp [flats] at h
  | b :: l, h, a, ha => by
    simp only [flats, List.mem_append] at ha
    rcases ha with ha | ha
    · exact noR_flat b h.1 a ha
    · exact noRs_flat l h.2 a ha
end

section
variable {π π' : PM} {Z Z' : ZM} {w : World}

theorem S_noId {a : AV} {u : Value} (h : S π Z a u) : noId a → S π' Z a u := by
  induction h with
  | bool b => intro _; exact .bool b
  | int k n hr => intro _; exact .int k n hr
  | str s hs => intro _; exact .str s hs
  | nilp => intro _; exact .nilp
  | ptr => intro h; exact h.elim
  | nils => intro _; exact .nils
  | owNil => intro h; exact h.elim
  | ow => intro h; exact h.elim
  | sl => intro h; exact h.elim
  | slNil => intro h; exact h.elim
  | rsNil v h1 h2 => intro _; exact .rsNil v h1 h2
  | rs v B n cap us h1 h2 h3 h4 h5 _ ih => intro h; exact .rs v B n cap us h1 h2 h3 h4 h5 fun i a ha => ih i a ha (noId_flat v h a (List.mem_of_getElem? ha))
  | rp v B us h1 h2 h3 _ ih => intro h; exact .rp v B us h1 h2 h3 fun i a ha => ih i a ha (noId_flat v h a (List.mem_of_getElem? ha))
  | nilm => intro _; exact .nilm
  | mp => intro h; exact h.elim
  | nilf => intro _; exact .nilf
  | fn f first cap fs cs h1 h2 _ _ ih1 ih2 => intro h; exact .fn f first cap fs cs h1 h2 (fun i a u ha hu => ih1 i a u ha hu (noIds_at h.1 a (List.mem_of_getElem? ha))) (fun i a u ha hu => ih2 i a u ha hu (noIds_at h.2 a (List.mem_of_getElem? ha)))
  | nili => intro _; exact .nili
  | ifc t a u _ ih => intro h; exact .ifc t a u (ih h)
  | glob g => intro _; exact .glob g

theorem S_noR {a : AV} {u : Value} (h : S π Z a u) : noR a → S π Z' a u := by
  induction h with
  | bool b => intro _; exact .bool b
  | int k n hr => intro _; exact .int k n hr
  | str s hs => intro _; exact .str s hs
  | nilp => intro _; exact .nilp
  | ptr id p b sh r o t h1 h2 => intro _; exact .ptr id p b sh r o t h1 h2
  | nils => intro _; exact .nils
  | owNil id e h => intro _; exact .owNil id e h
  | ow id b sh n cap e sz h => intro _; exact .ow id b sh n cap e sz h
  | sl id p off len b sh r o t m sz cap B h1 h2 h3 h4 h5 h6 h7 => intro _; exact .sl id p off len b sh r o t m sz cap B h1 h2 h3 h4 h5 h6 h7
  | slNil id h => intro _; exact .slNil id h
  | rsNil v h1 h2 => intro h; exact h.elim
  | rs => intro h; exact h.elim
  | rp => intro h; exact h.elim
  | nilm => intro _; exact .nilm
  | mp id b r h => intro _; exact .mp id b r h
  | nilf => intro _; exact .nilf
  | fn f first cap fs cs h1 h2 _ _ ih1 ih2 => intro h; exact .fn f first cap fs cs h1 h2 (fun i a u ha hu => ih1 i a u ha hu (noRs_at h.1 a (List.mem_of_getElem? ha))) (fun i a u ha hu => ih2 i a u ha hu (noRs_at h.2 a (List.mem_of_getElem? ha)))
  | nili => intro _; exact .nili
  | ifc t a u _ ih => intro h; exact .ifc t a u (ih h)
  | glob g => intro _; exact .glob g

theorem VA_noId {a : AV} {u : Value} (h : VA π Z a u) (hn : noId a) : VA π' Z a u := by
  unfold VA at *
  split
  · rename_i hg
    rw [if_pos hg] at h
    obtain ⟨cs, h1, h2, h3⟩ := h
    exact ⟨cs, h1, h2, h3.1, fun i x u hx hu => S_noId (h3.2 i x u hx hu) (noId_flat a hn x (List.mem_of_getElem? hx))⟩
  · rename_i hg
    rw [if_neg hg] at h
    exact S_noId h hn

theorem V_noId {a : AV} {u : Value} (h : V π Z a u) (hn : noId a) : V π' Z a u := by
  by_cases hu : a = .un
  · subst hu; trivial
  · by_cases ht : ∃ vs, a = .tup vs
    · obtain ⟨as, rfl⟩ := ht; exact hn.elim
    · exact VA_V (VA_noId ((V_VA hu fun l e => ht ⟨l, e⟩).1 h) hn)

theorem VA_noR {a : AV} {u : Value} (h : VA π Z a u) (hn : noR a) : VA π Z' a u := by
  unfold VA at *
  split
  · rename_i hg
    rw [if_pos hg] at h
    obtain ⟨cs, h1, h2, h3⟩ := h
    exact ⟨cs, h1, h2, h3.1, fun i x u hx hu => S_noR (h3.2 i x u hx hu) (noR_flat a hn x (List.mem_of_getElem? hx))⟩
  · rename_i hg
    rw [if_neg hg] at h
    exact S_noR h hn

theorem V_noR {a : AV} {u : Value} (h : V π Z a u) (hn : noR a) : V π Z' a u := by
  by_cases hu : a = .un
  · subst hu; trivial
  · by_cases ht : ∃ vs, a = .tup vs
    · obtain ⟨as, rfl⟩ := ht
      obtain ⟨vs, h1, h2, h3⟩ := h
      exact ⟨vs, h1, h2, fun i x u hx hu => (h3 i x u hx hu).imp id fun h => VA_noR h (noRs_at hn x (List.mem_of_getElem? hx))⟩
    · exact VA_V (VA_noR ((V_VA hu fun l e => ht ⟨l, e⟩).1 h) hn)

theorem ObjOk_noR {v : AV} {l : Loc} (h : ObjOk π Z v l w) (hn : noR v) (hZ : ∀ b sh r, l = .at b sh r → Z' b = none) : ObjOk π Z' v l w := by
  cases l with
  | nil => exact h
  | «at» b sh r =>
    obtain ⟨h1, h2, _, cs, arr, e, h4, h5, h6, h7⟩ := h
    exact ⟨h1, h2, hZ b sh r rfl, cs, arr, e, h4, h5, ⟨h6.1, fun i x u hx hu => S_noR (h6.2 i x u hx hu) (noR_flat v hn x (List.mem_of_getElem? hx))⟩, h7⟩

end

/-- What a function is to be given, and gives. Of what it gives, what is named is new: its names are counted from where the caller's end. -/
structure Ctr where
  X : Type
  args : X → List AV
  pre : X → Prop
  res : X → Nat → AV
  news : X → Nat → List AV
  /-- Does what it gives name nothing but what is new? -/
  own : Bool := true

def noRH : Heap → Prop
  | [] => True
  | (_, v) :: l => (match v with | some v => noR v | none => True) ∧ noRH l

def newsEq (H : Nat → Option AV) (nx : Nat) (ks : List Nat) : List Nat → List AV → Prop
  | [], [] => True
  | id :: l, v :: vs => (match H id with | some u => fz nx ks H 9 u = v | none => False) ∧ newsEq H nx ks l vs
  | _, _ => False

def distinct : List Nat → Bool
  | [] => true
  | a :: l => !(l.any fun b => Nat.beq a b) && distinct l

def dropped (l : List Nat) : Heap := l.map fun id => (id, none)

/-- A state at a function's end, and what its contract says. -/
def Fin (own : Bool) (res : Nat → AV) (news : Nat → List AV) (st : St) (v : AV) : Prop :=
  ∃ ks drop, distinct ks = true ∧ (∀ nx, fz nx ks (lkH (dropped drop ++ st.heap)) 9 v = res nx ∧ okF (res nx) ∧ newsEq (lkH (dropped drop ++ st.heap)) nx ks ks (news nx) ∧ okFs (news nx)) ∧
    (own = true → noR v ∧ noRH (dropped drop ++ st.heap))

def newsH : Nat → List AV → Heap
  | _, [] => []
  | i, v :: l => (i, some v) :: newsH (i + 1) l

def nilOks : List AV → Prop
  | [] => True
  | v :: l => nilOk v ∧ nilOks l

def idsFrom (i : Nat) : Nat → List Nat
  | 0 => []
  | n + 1 => i :: idsFrom (i + 1) n

/-- At a function's end nil rows may be told as rows of none. -/
def FinW (own : Bool) (res : Nat → AV) (news : Nat → List AV) (st : St) (v : AV) : Prop :=
  Fin own res news st v ∨ ∃ (nh : List AV) (v' : AV), nilOks nh ∧ wkT (fun id => id) (idsFrom st.nxt nh.length) v' v ∧ Fin own res news ⟨st.env, newsH st.nxt nh ++ st.heap, st.nxt + nh.length, []⟩ v'

def Ctr.Ok (C : Ctr) (tt : Tab) (ct : Specs) (code : Code) (results : List ResultVar) : Prop :=
  ∀ x, C.pre x → bodyA tt ct 0 code results ⟨argsE 0 (C.args x), [], 0, []⟩ fun st v => FinW C.own (C.res x) (C.news x) st v

def Ctr.spec (C : Ctr) : Spec := fun st args K => ∃ x, C.pre x ∧ ((noIds args ∧ args = C.args x ∧ K (C.res x st.nxt) ⟨newsH st.nxt (C.news x st.nxt), [], (C.news x st.nxt).length⟩) ∨
  (C.own = true ∧ args.map (fz 0 [] (lkH st.heap) 9) = C.args x ∧ okFs (C.args x) ∧ K (C.res x st.nxt) ⟨newsH st.nxt (C.news x st.nxt), st.heap.map (·.1), (C.news x st.nxt).length⟩))

theorem idx_lt : ∀ {ks : List Nat} {id j : Nat}, idx ks id = some j → ks[j]? = some id
  | [], _, _, h => by simp [idx] at h
  | k :: l, id, j, h => by
    simp only [idx] at h
    cases hb : Nat.beq k id with
    | true =>
      rw [hb] at h
      simp at h; subst h
      simp [Nat.eq_of_beq_eq_true hb]
    | false =>
      rw [hb] at h
      simp only [cond_false] at h
      cases hi : idx l id with
      | none => simp [hi] at h
      | some j' =>
        simp [hi] at h; subst h
        simpa using idx_lt hi

theorem idx_none : ∀ {ks : List Nat} {id : Nat}, idx ks id = none → id ∉ ks
  | [], _, _ => by simp
  | k :: l, id, h => by
    simp only [idx] at h
    cases hb : Nat.beq k id with
    | true => rw [hb] at h; simp at h
    | false =>
      rw [hb] at h
      simp only [cond_false] at h
      cases hi : idx l id with
      | none =>
        simp only [List.mem_cons, not_or]
        exact ⟨fun e => by subst e; simp at hb, idx_none hi⟩
      | some j' => simp [hi] at h

theorem distinct_at : ∀ {l : List Nat}, distinct l = true → ∀ (i j a : Nat), l[i]? = some a → l[j]? = some a → i = j
  | [], _, i, j, a, h, _ => by simp at h
  | b :: l, h, i, j, a, hi, hj => by
    simp only [distinct, Bool.and_eq_true, Bool.not_eq_true'] at h
    have hno : ∀ k, l[k]? = some b → False := fun k hk => by
      have : (l.any fun c => Nat.beq b c) = true := List.any_eq_true.2 ⟨b, List.mem_of_getElem? hk, by simp⟩
      rw [this] at h; cases h.1
    cases i with
    | zero =>
      cases j with
      | zero => rfl
      | succ j => simp at hi hj; subst hi; exact (hno j hj).elim
    | succ i =>
      cases j with
      | zero => simp at hi hj; subst hj; exact (hno i hi).elim
      | succ j => simp at hi hj; rw [distinct_at h.2 i j a hi hj]

theorem newsEq_len {H : Nat → Option AV} {nx : Nat} {ks : List Nat} : ∀ {l : List Nat} {vs : List AV}, newsEq H nx ks l vs → l.length = vs.length
  | [], [], _ => rfl
  | [], _ :: _, h => h.elim
  | _ :: _, [], h => h.elim
  | _ :: l, _ :: vs, h => by simp [newsEq_len h.2]

theorem newsEq_at {H : Nat → Option AV} {nx : Nat} {ks : List Nat} : ∀ {l : List Nat} {vs : List AV}, newsEq H nx ks l vs → ∀ (j : Nat) (v : AV), vs[j]? = some v → ∃ id u, l[j]? = some id ∧ H id = some u ∧ fz nx ks H 9 u = v
  | [], [], _, j, v, h => by simp at h
  | [], _ :: _, h, _, _, _ => h.elim
  | _ :: _, [], h, _, _, _ => h.elim
  | id :: l, v :: vs, h, j, v', hv => by
    cases j with
    | zero =>
      simp at hv; subst hv
      have h1 := h.1
      split at h1
      · rename_i u hu; exact ⟨id, u, rfl, hu, h1⟩
      · exact h1.elim
    | succ j => exact newsEq_at h.2 j v' (by simpa using hv)

theorem newsH_at : ∀ {l : List AV} {i id : Nat}, (known (newsH i l) id = true ↔ i ≤ id ∧ id < i + l.length) ∧ (i ≤ id → lkH (newsH i l) id = l[id - i]?)
  | [], i, id => by simp [newsH, known, lkH]
  | v :: l, i, id => by
    simp only [newsH, known, lkH]
    cases hb : Nat.beq i id with
    | true =>
      have := Nat.eq_of_beq_eq_true hb
      subst this
      simp
    | false =>
      have hne : i ≠ id := fun e => by subst e; simp at hb
      obtain ⟨h1, h2⟩ := newsH_at (l := l) (i := i + 1) (id := id)
      simp only [cond_false, List.length_cons]
      refine ⟨h1.trans ⟨fun h => by omega, fun h => by omega⟩, fun h => ?_⟩
      rw [h2 (by omega)]
      have : id - i = (id - (i + 1)) + 1 := by omega
      rw [this]; rfl

theorem idsFrom_at : ∀ {n i id : Nat}, memN (idsFrom i n) id = true ↔ i ≤ id ∧ id < i + n
  | 0, i, id => by simp only [idsFrom, memN]; exact ⟨fun h => (by cases h), fun h => (by omega)⟩
  | n + 1, i, id => by
    simp only [idsFrom, memN]
    cases hb : Nat.beq i id with
    | true => have := Nat.eq_of_beq_eq_true hb; simp; omega
    | false =>
      have hne : i ≠ id := fun e => by subst e; simp at hb
      simp only [cond_false]
      rw [idsFrom_at (n := n)]; omega

theorem nilOks_at : ∀ {l : List AV} {j : Nat} {v : AV}, nilOks l → l[j]? = some v → nilOk v
  | [], _, _, _, h => by simp at h
  | a :: l, 0, v, h, hv => by simp at hv; subst hv; exact h.1
  | a :: l, j + 1, v, h, hv => nilOks_at h.2 (by simpa using hv)

theorem lkH_append {a b : Heap} {id : Nat} : lkH (a ++ b) id = if known a id = true then lkH a id else lkH b id := by
  induction a with
  | nil => simp [known]
  | cons p a ih =>
    obtain ⟨i, v⟩ := p
    simp only [List.cons_append, lkH, known]
    by_cases hb : Nat.beq i id = true
    · simp only [hb, cond_true, if_true]
    · have hb' : Nat.beq i id = false := by cases h : Nat.beq i id with | true => exact absurd h hb | false => rfl
      simp only [hb', cond_false]; exact ih

theorem finW_step {B : Bs} {π : PM} {Z : ZM} {st : St} {v : AV} {u : Value} {w : World} {own : Bool} {res : Nat → AV} {news : Nat → List AV} (hg : Good B π Z (lkH st.heap) w) (hv : V π Z v u) (hfr : ∀ id, st.nxt ≤ id → π id = none)
    (h : FinW own res news st v) : ∃ π' st' v', Good B π' Z (lkH st'.heap) w ∧ V π' Z v' u ∧ Fin own res news st' v' := by
  rcases h with h | ⟨nh, v', h1, h2, h3⟩
  · exact ⟨π, st, v, hg, hv, h⟩
  let nl := idsFrom st.nxt nh.length
  let π' : PM := fun id => match memN nl id with | true => some .nil | false => π id
  have e0 : ∀ id, memN nl id = false → π' id = π id := fun id h => by show (match memN nl id with | true => _ | false => _) = _; rw [h]
  have e1 : ∀ id, memN nl id = true → π' id = some .nil := fun id h => by show (match memN nl id with | true => _ | false => _) = _; rw [h]
  have hold : ∀ id l, π id = some l → π' id = some l := by
    intro id l h
    cases hm : memN nl id with
    | true => rw [hfr id (idsFrom_at.1 hm).1] at h; cases h
    | false => rw [e0 id hm]; exact h
  have hat : ∀ id b s r, π' id = some (.at b s r) → memN nl id = false ∧ π id = some (.at b s r) := by
    intro id b s r h
    cases hm : memN nl id with
    | true => rw [e1 id hm] at h; cases h
    | false => rw [e0 id hm] at h; exact ⟨rfl, h⟩
  have hW : WkC (fun id => id) nl π π' := ⟨hold, e1⟩
  have hx : Ext π π' Z Z := ⟨hold, fun _ _ h => h⟩
  have hH : ∀ id x, lkH (newsH st.nxt nh ++ st.heap) id = some x → (memN nl id = true ∧ nilOk x) ∨ (memN nl id = false ∧ lkH st.heap id = some x) := by
    intro id x h
    rw [lkH_append] at h
    obtain ⟨k1, k2⟩ := newsH_at (l := nh) (i := st.nxt) (id := id)
    split at h
    · rename_i hk
      have hr := k1.1 hk
      rw [k2 hr.1] at h
      exact .inl ⟨idsFrom_at.2 hr, nilOks_at h1 h⟩
    · rename_i hk
      refine .inr ⟨?_, h⟩
      cases hm : memN nl id with
      | true => exact absurd (k1.2 (idsFrom_at.1 hm)) hk
      | false => rfl
  refine ⟨π', _, v', ?_, wkT_V hW h2 hv, h3⟩
  refine ⟨hg.os, hg.tape, hg.output, hg.size, hg.zin, fun id x h => ?_, fun i j x y b s r s' r' hij hi hj pi pj => ?_, hg.zs, fun id b s r hp => hg.mine _ b s r (hat id b s r hp).2, hg.keep⟩
  · rcases hH id x h with ⟨hm, hn⟩ | ⟨hm, hl⟩
    · exact ⟨.nil, e1 id hm, nilOk_row hn⟩
    · obtain ⟨l, p1, p2⟩ := hg.objs id x hl
      refine ⟨l, hold id l p1, p2.step hx fun b sh r e => ?_⟩
      subst e
      exact ⟨rfl, p2.2.2.1⟩
  · obtain ⟨mi, pi⟩ := hat i b s r pi
    obtain ⟨mj, pj⟩ := hat j b s' r' pj
    rcases hH i x hi with ⟨hm, _⟩ | ⟨_, hx⟩
    · rw [mi] at hm; cases hm
    rcases hH j y hj with ⟨hm, _⟩ | ⟨_, hy⟩
    · rw [mj] at hm; cases hm
    exact hg.apart i j x y b s r s' r' hij hx hy pi pj

theorem dropped_at {l : List Nat} {H : Heap} {id : Nat} {v : AV} (h : lkH (dropped l ++ H) id = some v) : lkH H id = some v := by
  induction l with
  | nil => exact h
  | cons a l ih =>
    simp only [dropped, List.map_cons, List.cons_append, lkH] at h
    cases hb : Nat.beq a id with
    | true => rw [hb] at h; cases h
    | false => rw [hb] at h; exact ih h

theorem noRH_at : ∀ {H : Heap} {id : Nat} {v : AV}, noRH H → lkH H id = some v → noR v
  | [], _, _, _, h => by simp [lkH] at h
  | (i, x) :: l, id, v, h, hv => by
    simp only [lkH] at hv
    cases hb : Nat.beq i id with
    | true => rw [hb] at hv; simp at hv; subst hv; exact h.1
    | false => rw [hb] at hv; exact noRH_at h.2 hv

open Classical in
/-- The caller's readable blocks behind the call. -/
noncomputable def zAfter (Z : ZM) (w w' : World) (ks : List Nat) (π1 : PM) : ZM := fun b =>
  if b < w.heap.size then Z b else if ∃ id ∈ ks, ∃ s r, π1 id = some (.at b s r) then none else w'.heap[b]?

def pAfter (π : PM) (nxt : Nat) (ks : List Nat) (π1 : PM) : PM := fun id =>
  if nxt ≤ id ∧ id < nxt + ks.length then (match ks[id - nxt]? with | some k => π1 k | none => none) else π id

/-- Back from a call. -/
theorem fin_after {B : Bs} {π : PM} {Z : ZM} {H : Nat → Option AV} {w w' : World} {nxt : Nat} {π1 : PM} {Z1 Zx : ZM} {st : St} {v : AV} {u : Value} {res : Nat → AV} {news : Nat → List AV} {ks drop : List Nat} {rd : List Nat} {B1 : Bs}
    (hg : Good B π Z H w) (hB : B1.toWorld = w) (hown : ∀ b, ¬ B1.own b) (hg1 : Good B1 π1 Z1 (lkH st.heap) w') (hfr : ∀ id, nxt ≤ id → id < nxt + (news nxt).length → π id = none)
    (hd : distinct ks = true) (hfz : fz nxt ks (lkH (dropped drop ++ st.heap)) 9 v = res nxt ∧ okF (res nxt) ∧ newsEq (lkH (dropped drop ++ st.heap)) nxt ks ks (news nxt) ∧ okFs (news nxt))
    (hv : V π1 Zx v u) (hobj : ∀ id v, lkH (dropped drop ++ st.heap) id = some v → ∃ l, π1 id = some l ∧ ObjOk π1 Zx v l w')
    (hZx : ∀ b o, Zx b = some o → (b < w.heap.size → Z b = some o) ∧ (w.heap.size ≤ b → w'.heap[b]? = some o)) :
    After B π Z H nxt (res nxt) ⟨newsH nxt (news nxt), rd, (news nxt).length⟩ u w' := by
  obtain ⟨h1, h2, h3, h4⟩ := hfz
  have hlen := newsEq_len h3
  have hsz : B1.heap.size = w.heap.size := by rw [← hB]
  have hlive : ∀ id ∈ ks, ∃ u, lkH (dropped drop ++ st.heap) id = some u := by
    intro id hid
    obtain ⟨j, hj, rfl⟩ := List.mem_iff_getElem.1 hid
    have hjn : j < (news nxt).length := by omega
    obtain ⟨id', u, e1, e2, _⟩ := newsEq_at h3 j _ (List.getElem?_eq_getElem hjn)
    rw [List.getElem?_eq_getElem hj] at e1
    cases e1
    exact ⟨u, e2⟩
  have hnew : ∀ id b s r, π1 id = some (.at b s r) → w.heap.size ≤ b := by
    intro id b s r h
    rcases hg1.mine id b s r h with h | h
    · exact absurd h (hown b)
    · omega
  have hx : Ext π (pAfter π nxt ks π1) Z (zAfter Z w w' ks π1) := by
    refine ⟨fun id l h => ?_, fun b o h => ?_⟩
    · unfold pAfter
      rw [if_neg fun hr => ?_]
      · exact h
      · rw [hfr id hr.1 (by omega)] at h; cases h
    · unfold zAfter
      rw [if_pos (hg.zlt h)]; exact h
  have hnotk : ∀ b o, Zx b = some o → ¬ ∃ id ∈ ks, ∃ s r, π1 id = some (.at b s r) := by
    rintro b o h ⟨id, hid, s, r, hp⟩
    obtain ⟨u, hu⟩ := hlive id hid
    obtain ⟨l, hl, hok⟩ := hobj id u hu
    rw [hp] at hl; cases hl
    rw [hok.2.2.1] at h; cases h
  have hfc : FzC nxt ks (lkH (dropped drop ++ st.heap)) π1 Zx w' (pAfter π nxt ks π1) (zAfter Z w w' ks π1) := by
    refine ⟨hobj, fun id j h => ?_, fun b o h => ?_, fun id v b sh r hH hk hp => ?_⟩
    · have hj := idx_lt h
      have hlt : j < ks.length := (List.getElem?_eq_some_iff.1 hj).1
      unfold pAfter
      rw [if_pos ⟨by omega, by omega⟩, Nat.add_sub_cancel_left, hj]
    · unfold zAfter
      split
      · rename_i hb; exact (hZx b o h).1 hb
      · rename_i hb
        rw [if_neg (hnotk b o h)]
        exact (hZx b o h).2 (by omega)
    · unfold zAfter
      have := hnew id b sh r hp
      rw [if_neg (by omega), if_neg]
      rintro ⟨id', hid', s', r', hp'⟩
      obtain ⟨u', hu'⟩ := hlive id' hid'
      have hne : id ≠ id' := fun e => idx_none hk (e ▸ hid')
      exact hg1.apart id id' _ _ b sh r s' r' hne (dropped_at hH) (dropped_at hu') hp hp'
  have hkeep : ∀ b, b < w.heap.size → w'.heap[b]? = w.heap[b]? := fun b hb => by
    have := hg1.keep b (by omega) (hown b)
    rw [this, ← hB]
  have hH2 : ∀ id x, hup H (newsH nxt (news nxt)) id = some x → (nxt ≤ id ∧ id < nxt + ks.length ∧ (news nxt)[id - nxt]? = some x) ∨ (¬ (nxt ≤ id ∧ id < nxt + ks.length) ∧ H id = some x) := by
    intro id x h
    obtain ⟨k1, k2⟩ := newsH_at (l := news nxt) (i := nxt) (id := id)
    unfold hup at h
    split at h
    · rename_i hk
      have hr := k1.1 hk
      rw [k2 hr.1] at h
      exact .inl ⟨hr.1, by omega, h⟩
    · rename_i hk
      refine .inr ⟨fun hr => hk (k1.2 ⟨hr.1, by omega⟩), h⟩
  have hkid : ∀ id x, nxt ≤ id → id < nxt + ks.length → (news nxt)[id - nxt]? = some x → ∃ k y, ks[id - nxt]? = some k ∧ pAfter π nxt ks π1 id = π1 k ∧ lkH (dropped drop ++ st.heap) k = some y ∧ fz nxt ks (lkH (dropped drop ++ st.heap)) 9 y = x := by
    intro id x h1 h2 hx
    obtain ⟨k, y, e1, e2, e3⟩ := newsEq_at h3 _ x hx
    refine ⟨k, y, e1, ?_, e2, e3⟩
    unfold pAfter
    rw [if_pos ⟨h1, h2⟩, e1]
  have hpold : ∀ id, ¬ (nxt ≤ id ∧ id < nxt + ks.length) → pAfter π nxt ks π1 id = π id := fun id h => by unfold pAfter; rw [if_neg h]
  refine ⟨pAfter π nxt ks π1, zAfter Z w w' ks π1, hx, fun id l h => ?_, ?_, ?_⟩
  · by_cases hr : nxt ≤ id ∧ id < nxt + ks.length
    · exact .inr ⟨hr.1, by show id < nxt + (news nxt).length; omega⟩
    · rw [hpold id hr] at h; exact .inl h
  · rw [← h1]; exact V_fz hfc hv (by rw [h1]; exact h2)
  · refine ⟨?_, ?_, ?_, ?_, fun b o h => ?_, fun id x h => ?_, fun i j x y b s r s' r' hij hi hj pi pj => ?_, fun b o h => ?_, fun id b s r h => ?_, fun b hb hno => ?_⟩
    · rw [hg1.os, ← hg.os, ← hB]
    · rw [hg1.tape, ← hg.tape, ← hB]
    · rw [hg1.output, ← hg.output, ← hB]
    · have := hg1.size; have := hg.size; omega
    · unfold zAfter at h
      split at h
      · rename_i hb; rw [hkeep b hb]; exact hg.zin b o h
      · split at h
        · cases h
        · exact h
    · rcases hH2 id x h with ⟨q1, q2, q3⟩ | ⟨q1, q2⟩
      · obtain ⟨k, y, e1, e2, e3, e4⟩ := hkid id x q1 q2 q3
        obtain ⟨l, hl, hok⟩ := hobj k y e3
        have hokF : okF (fz nxt ks (lkH (dropped drop ++ st.heap)) 9 y) := by rw [e4]; exact okFs_at h4 _ x q3
        refine ⟨l, e2.trans hl, ?_⟩
        rw [← e4]
        cases l with
        | nil => exact ⟨rowN_fz hok.1 hokF, wf_fz hok.2 hokF⟩
        | «at» b sh r =>
          obtain ⟨g1, g2, g3, cs, arr, e, g4, g5, g6, g7⟩ := hok
          refine ⟨hasSh_fz _ _ _ g1 hokF, wf_fz g2 hokF, ?_, cs, arr, e, g4, g5, Cells_fz hfc g6 hokF, ?_⟩
          · unfold zAfter
            have := hnew k b sh r hl
            rw [if_neg (by omega), if_pos ⟨k, List.mem_of_getElem? e1, sh, r, hl⟩]
          · cases r with
            | none => trivial
            | some r =>
              obtain ⟨n, cap, e', sz⟩ := r
              obtain ⟨f1, f2, f3, f4, f5, f6⟩ := g7
              exact ⟨f1, f2, f3, f4, rowOf_fz f5 hokF, f6⟩
      · obtain ⟨l, hl, hok⟩ := hg.objs id x q2
        refine ⟨l, (hpold id q1).trans hl, hok.step hx fun b sh r e => ?_⟩
        subst e
        have hb := hg.lt q2 hl
        refine ⟨hkeep b hb, ?_⟩
        unfold zAfter
        rw [if_pos hb]
        exact hok.2.2.1
    · rcases hH2 i x hi with ⟨p1, p2, p3⟩ | ⟨p1, p2⟩ <;> rcases hH2 j y hj with ⟨q1, q2, q3⟩ | ⟨q1, q2⟩
      · obtain ⟨k, _, e1, e2, e3, _⟩ := hkid i x p1 p2 p3
        obtain ⟨k', _, f1, f2, f3, _⟩ := hkid j y q1 q2 q3
        rw [e2] at pi; rw [f2] at pj
        refine hg1.apart k k' _ _ b s r s' r' (fun e => ?_) (dropped_at e3) (dropped_at f3) pi pj
        subst e
        have := distinct_at hd _ _ _ e1 f1
        omega
      · obtain ⟨k, _, e1, e2, e3, _⟩ := hkid i x p1 p2 p3
        rw [e2] at pi; rw [hpold j q1] at pj
        have := hnew k b s r pi
        have := hg.lt q2 pj
        omega
      · obtain ⟨k', _, f1, f2, f3, _⟩ := hkid j y q1 q2 q3
        rw [hpold i p1] at pi; rw [f2] at pj
        have := hnew k' b s' r' pj
        have := hg.lt p2 pi
        omega
      · rw [hpold i p1] at pi; rw [hpold j q1] at pj
        exact hg.apart i j x y b s r s' r' hij p2 q2 pi pj
    · unfold zAfter at h
      split at h
      · exact hg.zs b o h
      · have := hg.size; exact .inr (by omega)
    · by_cases hr : nxt ≤ id ∧ id < nxt + ks.length
      · unfold pAfter at h
        rw [if_pos hr] at h
        split at h
        · have := hnew _ b s r h; have := hg.size; exact .inr (by omega)
        · cases h
      · rw [hpold id hr] at h; exact hg.mine id b s r h
    · have := hg.size
      rw [hkeep b (by omega)]; exact hg.keep b hb hno

theorem Vs_noId {π π' : PM} {Z : ZM} {args : List AV} {us : List Value} (h : Vs π Z args us) (hn : noIds args) : Vs π' Z args us :=
  ⟨h.1, fun i a u ha hu => V_noId (h.2 i a u ha hu) (noIds_at hn a (List.mem_of_getElem? ha))⟩

/-- ████ A contract that a body keeps. ████ -/
theorem ctr_sound {P : Program} {tt : Tab} {ct : Specs} (hT : TabOk P tt) (hC : SpecsOk P ct) (hm : P.follows .mixedOrders = true) {f : FuncId} {fn : Func} {code : Code} (hf : P.funcs[f]? = some fn) (hb : fn.body = some code)
    (hok : codeOk fn.ntmps code = true) (C : Ctr) (hn : ∀ x, (C.args x).length ≤ fn.ntmps) (h : C.Ok tt ct code fn.results.toList) : SpS P f C.spec := by
  intro st args K B0 π0 Z0 w0 us0 _ _ hS
  obtain ⟨x, hx, hS⟩ := hS
  rcases hS with ⟨hni, ha, hK⟩ | ⟨hco, ha, hokA, hK⟩
  · refine ⟨_, _, hK, fun B π Z H w us hvs hg _ hfr => ?_⟩
    let B1 : Bs := ⟨w, fun _ => False, fun b => (Z b).isSome⟩
    have hg1 : Good B1 (fun _ => none) Z (lkH []) w := ⟨rfl, rfl, rfl, Nat.le_refl _, hg.zin, fun id v h => by simp [lkH] at h, fun i j v u b s r s' r' _ h => by simp [lkH] at h, fun b o h => .inl (.inl (by simp [B1, h])), fun id b s r h => (by cases h), fun _ _ _ => rfl⟩
    have hvs' : Vs (fun _ => none) Z (C.args x) us := by rw [← ha]; exact Vs_noId hvs hni
    refine (body_sound hT hC hm hf hb hok (H := []) (k0 := 0) hvs' (hn x) hg1 (fun _ _ => rfl) (h x hx)).mono ?_
    rintro r w' ⟨u, rfl, st', v, π1, Z1, hfin, _, hz, hfr1, hv, _, hg'⟩
    obtain ⟨π1, st', v, hg', hv, hfin⟩ := finW_step hg' hv hfr1 hfin
    obtain ⟨ks, drop, hd, hall, hown⟩ := hfin
    refine ⟨u, rfl, fin_after (B1 := B1) (Zx := Z1) hg rfl (fun _ h => h) hg' (fun id h1 h2 => hfr id h1 h2) hd (hall st.nxt) hv (fun id v h => hg'.objs id v (dropped_at h)) fun b o h => ⟨fun hb => ?_, fun hb => hg'.zin b o h⟩⟩
    rcases hg'.zs b o h with h1 | h1
    · replace h1 := h1.resolve_right (fun h => h)
      simp only [B1] at h1
      cases hzb : Z b with
      | none => simp [hzb] at h1
      | some o' =>
        have e1 := hg'.zin b o h
        have e2 := hg'.zin b o' (hz b o' hzb)
        rw [e1] at e2; cases e2; rfl
    · have : B1.heap.size = w.heap.size := rfl
      omega
  · refine ⟨_, _, hK, fun B π Z H w us hvs hg hrd hfr => ?_⟩
    let Za : ZM := fun b => w.heap[b]?
    let B1 : Bs := ⟨w, fun _ => False, fun _ => True⟩
    have hg1 : Good B1 (fun _ => none) Za (lkH []) w := ⟨rfl, rfl, rfl, Nat.le_refl _, fun b o h => h, fun id v h => by simp [lkH] at h, fun i j v u b s r s' r' _ h => by simp [lkH] at h, fun b o h => .inl (.inl trivial), fun id b s r h => (by cases h), fun _ _ _ => rfl⟩
    have hHH : ∀ id v, lkH st.heap id = some v → H id = some v := by
      intro id v hv
      rw [← hv]
      refine hrd id ?_
      have : ∀ (l : Heap), lkH l id = some v → id ∈ l.map (·.1) := by
        intro l
        induction l with
        | nil => intro h; simp [lkH] at h
        | cons p l ih =>
          obtain ⟨i, y⟩ := p
          intro h
          simp only [lkH] at h
          cases hb : Nat.beq i id with
          | true => simp [Nat.eq_of_beq_eq_true hb]
          | false => rw [hb] at h; exact List.mem_cons_of_mem _ (ih h)
      exact this _ hv
    have hfc : FzC 0 [] (lkH st.heap) π Z w (fun _ => none) Za := ⟨fun id v h => hg.objs id v (hHH id v h), fun id j h => by simp [idx] at h, hg.zin, fun _ _ _ _ _ _ _ _ => rfl⟩
    have hvs' : Vs (fun _ => none) Za (C.args x) us := by
      rw [← ha] at hokA ⊢
      refine ⟨by simpa using hvs.1, fun i a u hai hu => ?_⟩
      simp only [List.getElem?_map, Option.map_eq_some_iff] at hai
      obtain ⟨y, hy, rfl⟩ := hai
      exact V_fz hfc (hvs.2 i y u hy hu) (okFs_map hokA y (List.mem_of_getElem? hy))
    refine (body_sound hT hC hm hf hb hok (H := []) (k0 := 0) hvs' (hn x) hg1 (fun _ _ => rfl) (h x hx)).mono ?_
    rintro r w' ⟨u, rfl, st', v, π1, Z1, hfin, _, hz, hfr1, hv, _, hg'⟩
    obtain ⟨π1, st', v, hg', hv, hfin⟩ := finW_step hg' hv hfr1 hfin
    obtain ⟨ks, drop, hd, hall, hown⟩ := hfin
    obtain ⟨n1, n2⟩ := hown hco
    refine ⟨u, rfl, fin_after (B1 := B1) (Zx := fun _ => none) hg rfl (fun _ h => h) hg' (fun id h1 h2 => hfr id h1 h2) hd (hall st.nxt) (V_noR hv n1) (fun id v h => ?_) fun b o h => by cases h⟩
    obtain ⟨l, hl, hok⟩ := hg'.objs id v (dropped_at h)
    exact ⟨l, hl, ObjOk_noR hok (noRH_at n2 h) fun _ _ _ _ => rfl⟩

end Go.Ax

/- Tables of types; laws. -/
namespace Go.Ax
open Go

def scB : AV → Value → Bool
  | .int k n, .int k' m => kEq k k' && decide (n = m) && rngB k n
  | .bool b, .bool c => b == c
  | .str s, .string t => s.size == 0 && t.size == 0
  | .nilp, .pointer none => true
  | .nils, .slice none 0 0 => true
  | .nilm, .map none => true
  | .nilf, .nilFunc => true
  | .nili, .nilIface => true
  | _, _ => false

theorem ba_empty {s : ByteArray} (h : s.size = 0) : s = ByteArray.empty := by
  cases s with
  | mk d =>
    have : d = #[] := Array.eq_empty_of_size_eq_zero h
    subst this; rfl

theorem scB_ok {π : PM} {Z : ZM} : ∀ {a : AV} {v : Value}, scB a v = true → S π Z a v := by
  intro a v h
  unfold scB at h
  split at h
  · simp only [Bool.and_eq_true, decide_eq_true_eq] at h
    obtain ⟨⟨h1, h2⟩, h3⟩ := h
    have := kEq_eq h1
    subst this; subst h2
    exact .int _ _ (rngB_ok h3)
  · simp only [beq_iff_eq] at h; subst h; exact .bool _
  · simp only [Bool.and_eq_true, beq_iff_eq] at h
    rename_i s t
    have e1 := ba_empty h.1
    have e2 := ba_empty h.2
    rw [e1, e2]
    exact .str _ (by show (0 : Nat) ≤ _; exact Nat.zero_le _)
  · exact .nilp
  · exact .nils
  · exact .nilm
  · exact .nilf
  · exact .nili
  · cases h

mutual
def shB : AV → Option Sh
  | .st fs => match shsB fs with
    | some ss => some (.st ss)
    | none => none
  | .arr k n xs => cond (Nat.beq xs.length n) (some (.ar k n)) none
  | .seq _ _ _ => none
  | .tup _ => none
  | .un => none
  | .int k _ => some (.num k)
  | _ => some .c
def shsB : List AV → Option (List Sh)
  | [] => some []
  | a :: l => match shB a with
    | some s => match shsB l with
      | some ss => some (s :: ss)
      | none => none
    | none => none
end

mutual
theorem shB_ok : ∀ (a : AV) (s : Sh), shB a = some s → HasSh a s
  | .st fs, s, h => by
    simp only [shB] at h
    split at h
    · rename_i ss hs
      cases h
      exact shsB_ok fs ss hs
    · cases h
  | .arr k n xs, s, h => by
    simp only [shB] at h
    cases hb : Nat.beq xs.length n with
    | true => rw [hb] at h; cases h; exact ⟨rfl, rfl, Nat.eq_of_beq_eq_true hb⟩
    | false => rw [hb] at h; cases h
  | .seq _ _ _, s, h | .tup _, s, h | .un, s, h => by simp [shB] at h
  | .int k n, s, h => by simp only [shB] at h; cases h; simp [HasSh]
  | .bool _, s, h | .str _, s, h | .nilp, s, h | .ptr _ _, s, h | .nils, s, h | .ow _ _, s, h | .sl _ _ _ _, s, h | .rs _, s, h | .rp _, s, h | .nilm, s, h | .mp _, s, h | .nilf, s, h | .fn _ _ _, s, h | .nili, s, h | .ifc _ _, s, h | .glob _, s, h => by
    simp only [shB] at h; cases h; simp [HasSh]
theorem shsB_ok : ∀ (l : List AV) (ss : List Sh), shsB l = some ss → HasShs l ss
  | [], ss, h => by simp only [shsB] at h; cases h; trivial
  | a :: l, ss, h => by
    simp only [shsB] at h
    split at h
    · rename_i s hs
      split at h
      · rename_i ss' hss
        cases h
        exact ⟨shB_ok a s hs, shsB_ok l ss' hss⟩
      · cases h
    · cases h
end

def cellsB : List AV → List Value → Bool
  | [], [] => true
  | a :: l, v :: vs => scB a v && cellsB l vs
  | _, _ => false

theorem cellsB_ok {π : PM} {Z : ZM} : ∀ {l : List AV} {vs : List Value}, cellsB l vs = true → Cells π Z l vs
  | [], [], _ => Cells.nil
  | [], _ :: _, h => by cases h
  | _ :: _, [], h => by cases h
  | a :: l, v :: vs, h => by
    simp only [cellsB, Bool.and_eq_true] at h
    exact (Cells.one (scB_ok h.1)).append (cellsB_ok h.2)

def zB (a : AV) (v : Value) : Bool :=
  match isAggA a with
  | true => (shB a).isSome && (match v with | .agg cs => cellsB (flat a) cs.toList | _ => false)
  | false => scB a v

theorem zB_ok {π : PM} {Z : ZM} {a : AV} {v : Value} (h : zB a v = true) : VA π Z a v := by
  unfold zB at h
  unfold VA
  split at h
  · rename_i hg
    rw [if_pos hg]
    simp only [Bool.and_eq_true] at h
    obtain ⟨s, hs⟩ := Option.isSome_iff_exists.1 h.1
    have h2 := h.2
    split at h2
    · rename_i cs
      exact ⟨cs.toList, by simp, ⟨s, shB_ok a s hs⟩, cellsB_ok h2⟩
    · cases h2
  · rename_i hg
    rw [if_neg (by simp [hg])]
    exact scB_ok h

def zOptB (a : AV) (z : Option Value) (n : Nat) : Bool :=
  match a with
  | .un => true
  | a => match z with
    | some v => zB a v && Nat.beq (sizeA a) n
    | none => false

theorem tyOk_mk {P : Program} {t : TypeId} {ti : TI} {i : TypeInfo} (hu : P.underlying t = some ti.desc) (hi : P.info? t = some i) (hs : i.size = ti.size) (hb : i.bytes = ti.bytes) (hz : zOptB ti.zero i.zero ti.size = true)
    (he : ti.eqok = true → P.stoodInHeld t = false ∧ P.eqGuardType P.depth t = false ∧ ∀ fs, ti.desc = .struct fs → ∀ f ∈ fs.toList, f.name ≠ "_") : TyOk P t ti := by
  refine ⟨hu, ⟨i, hi, hs, hb, ?_⟩, he⟩
  unfold zOptB at hz
  split at hz
  · rename_i h; exact .inl h
  · split at hz
    · rename_i v hv
      simp only [Bool.and_eq_true] at hz
      exact .inr ⟨v, hv, zB_ok hz.1, Nat.eq_of_beq_eq_true hz.2⟩
    · cases hz

/-- What is there. -/
def valOf {α : Type} {p : Option α} {x : α} (_ : p = some x) : α := x

theorem no_eq {p : Prop} : false = true → p := fun h => by cases h

theorem tab_nil {P : Program} : TabOk P [] := fun t ti h => by simp [tyOf] at h

theorem tab_cons {P : Program} {t : Nat} {ti : TI} {l : Tab} (h : TyOk P t ti) (hl : TabOk P l) : TabOk P ((t, ti) :: l) := by
  intro t' ti' h'
  simp only [tyOf] at h'
  cases hb : Nat.beq t t' with
  | true =>
    rw [hb] at h'
    have := Nat.eq_of_beq_eq_true hb
    subst this
    cases h'
    exact h
  | false => rw [hb] at h'; exact hl t' ti' h'

theorem specs_nil {P : Program} : SpecsOk P [] := fun f S h => by simp at h

theorem specs_cons {P : Program} {f : Nat} {S : Spec} {l : Specs} (hc : CallF P f) (h : SpS P f S) (hl : SpecsOk P l) : SpecsOk P ((f, S) :: l) := by
  intro f' S' h'
  simp only [List.mem_cons, Prod.mk.injEq] at h'
  rcases h' with ⟨rfl, rfl⟩ | h'
  · exact ⟨hc, h⟩
  · exact hl f' S' h'

/-- All there is, read as it is. -/
def zall (w : World) : ZM := fun b => w.heap[b]?

theorem law_sound {P : Program} {tt : Tab} {ct : Specs} (hT : TabOk P tt) (hC : SpecsOk P ct) (hm : P.follows .mixedOrders = true) {f : FuncId} {fn : Func} {code : Code} (hf : P.funcs[f]? = some fn) (hb : fn.body = some code)
    (hok : codeOk fn.ntmps code = true) {args : List AV} {us : List Value} {w : World} (ha : Vs (fun _ => none) (zall w) args us) (hn : args.length ≤ fn.ntmps)
    (h : bodyA tt ct 0 code fn.results.toList ⟨argsE 0 args, [], 0, []⟩ fun _ v => v = .bool true) :
    Calls P f us.toArray w fun e w' => e = .returned (.bool true) ∧ Go.RowKit.Below w.heap.size w w' := by
  let B1 : Bs := ⟨w, fun _ => False, fun _ => True⟩
  have hg1 : Good B1 (fun _ => none) (zall w) (lkH []) w := ⟨rfl, rfl, rfl, Nat.le_refl _, fun b o h => h, fun id v h => by simp [lkH] at h, fun i j v u b s r s' r' _ h => by simp [lkH] at h, fun b o h => .inl (.inl trivial), fun id b s r h => (by cases h), fun _ _ _ => rfl⟩
  refine (body_sound hT hC hm hf hb hok (H := []) (k0 := 0) ha hn hg1 (fun _ _ => rfl) h).mono ?_
  rintro r w' ⟨u, rfl, st', v, π1, Z1, hv, _, _, _, hV, _, hg'⟩
  subst hv
  refine ⟨by rw [V_bool hV], hg'.os, hg'.tape, hg'.output, hg'.size, fun k hk => hg'.keep k hk id⟩

theorem vs_nil {π : PM} {Z : ZM} : Vs π Z [] [] := ⟨rfl, fun i a u h => by simp at h⟩

theorem vs_cons {π : PM} {Z : ZM} {a : AV} {u : Value} {as : List AV} {us : List Value} (h : V π Z a u) (hl : Vs π Z as us) : Vs π Z (a :: as) (u :: us) := by
  refine ⟨by simp [hl.1], fun i x y hx hy => ?_⟩
  cases i with
  | zero => simp at hx hy; subst hx; subst hy; exact h
  | succ i => exact hl.2 i x y (by simpa using hx) (by simpa using hy)

theorem rng_of_wf {k : IntKind} {n : Int} (h : (Lit.int k n).wf = true) : rng k n := by
  simp only [Lit.wf] at h
  cases k <;> simp [IntKind.min, IntKind.max, IntKind.signed, IntKind.bits] at h <;> simp only [rng] <;> omega

theorem v_int {π : PM} {Z : ZM} {k : IntKind} {n : Int} (h : (Lit.int k n).wf = true) : V π Z (.int k n) (.int k n) := V_mk_int (rng_of_wf h)
theorem v_bool {π : PM} {Z : ZM} {b : Bool} : V π Z (.bool b) (.bool b) := (V_sc rfl).2 (.bool b)
theorem v_str {π : PM} {Z : ZM} {s : ByteArray} (h : s.size ≤ maxLen) : V π Z (.str s) (.string s) := (V_sc rfl).2 (.str s h)

theorem v_row {k : IntKind} {w : World} {a : Option Addr} {len cap : Nat} {zs : List Int} (h : (a = none ∧ len = 0 ∧ cap = 0 ∧ zs = []) ∨
    ∃ x, a = some x ∧ len ≤ cap ∧ cap ≤ maxLen ∧ zs.length = cap ∧ (∀ i, i < zs.length → w.cell? (x.add i) = some (.int k (zs.getD i 0))) ∧ ∀ n ∈ zs, (Lit.int k n).wf = true) {π : PM} :
    V π (zall w) (.rs (.arr k len (zs.take len))) (.slice a len cap) ∧ len = (zs.take len).length ∧ (∀ n ∈ zs.take len, rng k n) ∧ len ≤ maxLen := by
  rcases h with ⟨rfl, rfl, rfl, rfl⟩ | ⟨x, rfl, h1, h2, h3, h4, h5⟩
  · exact ⟨(V_sc rfl).2 (.rsNil _ rfl ⟨.ar k 0, rfl, rfl, rfl⟩), rfl, by simp, Nat.zero_le _⟩
  · have hl : (zs.take len).length = len := by simp; omega
    refine ⟨(V_sc rfl).2 (.rs _ x len cap (fun i => .int k (zs.getD i 0)) rfl ⟨.ar k len, rfl, rfl, hl⟩ h1 h2 (fun i a ha => ?_) (fun i a ha => ?_)), hl.symm, fun n hn => rng_of_wf (h5 n (List.mem_of_mem_take hn)), by omega⟩
    · have hi : i < len := by
        have := (List.getElem?_eq_some_iff.1 ha).1
        simp [flat] at this; omega
      have hc := h4 i (by omega)
      have h0 := h4 0 (by omega)
      obtain ⟨b, o, sp⟩ := x
      have hsp : sp = none := by
        have e : (Addr.add ⟨b, o, sp⟩ 0) = ⟨b, o, sp⟩ := by simp [Addr.add]
        rw [e] at h0
        cases sp with
        | none => rfl
        | some q =>
          exfalso
          unfold World.cell? at h0
          simp only at h0
          cases hh : w.heap[b]? with
          | none => rw [hh] at h0; cases h0
          | some ob => rw [hh] at h0; cases ob <;> simp at h0
      subst hsp
      rw [add_at] at hc
      unfold World.cell? at hc
      unfold zcell zall
      simp only at hc ⊢
      cases hh : w.heap[b]? with
      | none => rw [hh] at hc; cases hc
      | some ob => rw [hh] at hc; cases ob <;> first | (exfalso; simp at hc; done) | simpa using hc
    · simp only [flat, List.getElem?_map, Option.map_eq_some_iff] at ha
      obtain ⟨z, hz, rfl⟩ := ha
      rw [List.getElem?_take] at hz
      split at hz
      · have : zs.getD i 0 = z := by rw [List.getD_eq_getElem?_getD, hz]; rfl
        rw [this]
        exact .int _ _ (rng_of_wf (h5 z (List.mem_of_getElem? hz)))
      · cases hz

end Go.Ax

/- What the walks go by: a rule for each thing that is asked. -/
namespace Go.Ax
open Go

theorem wrapU8 (x : Int) : IntKind.u8.wrap x = x % 256 := by simp [IntKind.wrap, IntKind.signed, IntKind.bits]
theorem wrapU16 (x : Int) : IntKind.u16.wrap x = x % 65536 := by simp [IntKind.wrap, IntKind.signed, IntKind.bits]
theorem wrapU32 (x : Int) : IntKind.u32.wrap x = x % 4294967296 := by simp [IntKind.wrap, IntKind.signed, IntKind.bits]
theorem wrapU64 (x : Int) : IntKind.u64.wrap x = x % 18446744073709551616 := by simp [IntKind.wrap, IntKind.signed, IntKind.bits]
theorem wrapI64 (x : Int) (h : -9223372036854775808 ≤ x ∧ x ≤ 9223372036854775807) : IntKind.i64.wrap x = x := by
  show (if (true && decide (x % 18446744073709551616 ≥ 9223372036854775808)) = true then x % 18446744073709551616 - 18446744073709551616 else x % 18446744073709551616) = x
  by_cases hx : 0 ≤ x
  · rw [if_neg (by simp; omega)]; omega
  · rw [if_pos (by simp; omega)]; omega
theorem idU8 (x : Int) (h : 0 ≤ x ∧ x ≤ 255) : IntKind.u8.wrap x = x := by rw [wrapU8]; omega
theorem idU16 (x : Int) (h : 0 ≤ x ∧ x ≤ 65535) : IntKind.u16.wrap x = x := by rw [wrapU16]; omega
theorem idU32 (x : Int) (h : 0 ≤ x ∧ x ≤ 4294967295) : IntKind.u32.wrap x = x := by rw [wrapU32]; omega
theorem idU64 (x : Int) (h : 0 ≤ x ∧ x ≤ 18446744073709551615) : IntKind.u64.wrap x = x := by rw [wrapU64]; omega
theorem tdivE (a b : Int) (h : 0 ≤ a) : a.tdiv b = a / b := Int.tdiv_eq_ediv_of_nonneg h
theorem tmodE (a b : Int) (h : 0 ≤ a) : a.tmod b = a % b := Int.tmod_eq_emod_of_nonneg h
theorem fdivE (a b : Int) (h : 0 ≤ b) : a.fdiv b = a / b := Int.fdiv_eq_ediv_of_nonneg a h

theorem wrap_nat {k : IntKind} (hk : k.signed = false) (n : Nat) : k.wrap (n : Int) = ((n % 2 ^ k.bits : Nat) : Int) := by
  unfold IntKind.wrap
  simp only [hk, Bool.false_and, Bool.false_eq_true, if_false]
  simp

theorem ofInt_nat {k : IntKind} (n : Nat) (h : n < 2 ^ k.bits) : (BitVec.ofInt k.bits (n : Int)).toNat = n := by
  rw [BitVec.toNat_ofInt]
  have : ((n : Int) % ((2 ^ k.bits : Nat) : Int)) = ((n % 2 ^ k.bits : Nat) : Int) := by simp
  rw [this, Int.toNat_natCast]
  exact Nat.mod_eq_of_lt h

theorem bitsN {k : IntKind} (hk : k.signed = false) (x y : Nat) (hx : x < 2 ^ k.bits) (hy : y < 2 ^ k.bits) :
    bitsI .and k x y = ((x &&& y : Nat) : Int) ∧ bitsI .or k x y = ((x ||| y : Nat) : Int) ∧ bitsI .xor k x y = ((x ^^^ y : Nat) : Int) := by
  refine ⟨?_, ?_, ?_⟩ <;> simp only [bitsI, wrap_nat hk, BitVec.toNat_and, BitVec.toNat_or, BitVec.toNat_xor, ofInt_nat x hx, ofInt_nat y hy]
  · rw [Nat.mod_eq_of_lt (Nat.lt_of_le_of_lt Nat.and_le_left hx)]
  · rw [Nat.mod_eq_of_lt (Nat.or_lt_two_pow hx hy)]
  · rw [Nat.mod_eq_of_lt (Nat.xor_lt_two_pow hx hy)]

/-- Digits that do not meet are added. -/
theorem or_add {k : IntKind} (hk : k.signed = false) {x y : Int} (j m : Nat) (hx : 0 ≤ x ∧ x < ((2 ^ j : Nat) : Int)) (hy : y = ((2 ^ j * m : Nat) : Int)) (hb : 2 ^ j * m + x.toNat < 2 ^ k.bits) : bitsI .or k x y = x + y ∧ bitsI .or k y x = x + y := by
  obtain ⟨n, rfl⟩ := Int.eq_ofNat_of_zero_le hx.1
  subst hy
  have hn : n < 2 ^ j := by have := hx.2; omega
  simp only [Int.toNat_natCast] at hb
  have e := Nat.two_pow_add_eq_or_of_lt hn m
  obtain ⟨_, h1, _⟩ := bitsN hk n (2 ^ j * m) (by omega) (by omega)
  obtain ⟨_, h2, _⟩ := bitsN hk (2 ^ j * m) n (by omega) (by omega)
  refine ⟨?_, ?_⟩
  · rw [h1, Nat.or_comm, ← e]; omega
  · rw [h2, ← e]; omega

/-- The last digits. -/
theorem and_mask {k : IntKind} (hk : k.signed = false) (x : Int) (j : Nat) (hx : 0 ≤ x ∧ x < ((2 ^ k.bits : Nat) : Int)) (hj : 2 ^ j ≤ 2 ^ k.bits) : bitsI .and k x ((2 ^ j - 1 : Nat) : Int) = x % ((2 ^ j : Nat) : Int) := by
  obtain ⟨n, rfl⟩ := Int.eq_ofNat_of_zero_le hx.1
  have h0 : 0 < 2 ^ j := Nat.two_pow_pos j
  rw [(bitsN hk n (2 ^ j - 1) (by omega) (by omega)).1, Nat.and_two_pow_sub_one_eq_mod]
  rfl

/-! Rules. -/
section
variable {K yes no : Prop} {p : Prop}
theorem Chk.go {b : Bool} (h : b = true) (k : K) : Chk b K := ⟨h, k⟩
theorem Bnd.go (h : p) (k : K) : Bnd p K := ⟨h, k⟩
theorem Str.go (h : p) (k : K) : Str p K := ⟨h, k⟩
theorem Drw.go {b : Bool} (h : b = true) (k : K) : Drw b K := ⟨h, k⟩
theorem Kn.go (h : p → K) : Kn p K := h
theorem nmN.go {e e' : Nat} {K : Nat → Prop} (h : e = e') (k : K e') : nmN e K := fun z hz => by subst hz; subst h; exact k
theorem nm.go {k : IntKind} {e e' : Int} {K : Int → Prop} (h : e = e') (f : rng k e' → K e') : nm k e K := fun z hz hr => by subst hz; subst h; exact f hr
/-- Under a name of its own. -/
theorem nm.as {k : IntKind} {e : Int} {K : Int → Prop} (f : ∀ z, z = e → rng k z → K z) : nm k e K := f

theorem askB.go {b : Bool} (y : b = true → yes) (n : b = false → no) : askB b yes no := ⟨y, n⟩
theorem askB.tt (y : yes) : askB true yes no := ⟨fun _ => y, fun h => by cases h⟩
theorem askB.ff (n : no) : askB false yes no := ⟨fun h => (by cases h), fun _ => n⟩
theorem askB.dec [Decidable p] (y : p → yes) (n : ¬ p → no) : askB (decide p) yes no := ⟨fun h => y (by simpa using h), fun h => n (by simpa using h)⟩
theorem askB.ndec [Decidable p] (y : ¬ p → yes) (n : p → no) : askB (!decide p) yes no := ⟨fun h => y (by simpa using h), fun h => n (by simpa using h)⟩
theorem askB.y1 {b : Bool} (h : b = true) (y : yes) : askB b yes no := ⟨fun _ => y, fun h' => by rw [h] at h'; cases h'⟩
theorem askB.n1 {b : Bool} (h : b = false) (n : no) : askB b yes no := ⟨fun h' => (by rw [h] at h'; cases h'), fun _ => n⟩
theorem askB.and {a b : Bool} (h : askB a (askB b yes no) no) : askB (a && b) yes no := ⟨fun h' => by simp at h'; exact (h.1 h'.1).1 h'.2, fun h' => by cases a with | false => exact h.2 rfl | true => exact (h.1 rfl).2 (by simpa using h')⟩
theorem askB.not {b : Bool} (h : askB b no yes) : askB (!b) yes no := ⟨fun h' => h.2 (by cases b <;> simp_all), fun h' => h.1 (by cases b <;> simp_all)⟩
theorem askB.beq {a b : Bool} (h : askB a (askB b yes no) (askB b no yes)) : askB (a == b) yes no := ⟨fun h' => (by cases a <;> cases b <;> first | exact (h.1 rfl).1 rfl | exact (h.2 rfl).2 rfl | exact Bool.noConfusion h'), fun h' => (by cases a <;> cases b <;> first | exact (h.1 rfl).2 rfl | exact (h.2 rfl).1 rfl | exact Bool.noConfusion h')⟩
theorem askB.beqs {a : Bool} (h : yes) : askB (a == a) yes no := ⟨fun _ => h, fun h' => by simp at h'⟩
theorem askB.or {a b : Bool} (h : askB a yes (askB b yes no)) : askB (a || b) yes no := ⟨fun h' => (by cases a with | true => exact h.1 rfl | false => exact (h.2 rfl).1 (by simpa using h')), fun h' => (by cases a with | true => exact Bool.noConfusion h' | false => exact (h.2 rfl).2 (by simpa using h'))⟩
theorem askB.deq {a b : Int} (y : a = b → yes) (n : a ≠ b → no) : askB (decide (a = b)) yes no := ⟨fun h => y (by simpa using h), fun h => n (by simpa using h)⟩
def cmpP : BinOp → Int → Int → Prop
  | .eql, x, y => x = y
  | .neq, x, y => x ≠ y
  | .lss, x, y => x < y
  | .leq, x, y => x ≤ y
  | .gtr, x, y => y < x
  | .geq, x, y => y ≤ x
  | _, _, _ => False
def cmpN : BinOp → Int → Int → Prop
  | .eql, x, y => x ≠ y
  | .neq, x, y => x = y
  | .lss, x, y => y ≤ x
  | .leq, x, y => y < x
  | .gtr, x, y => x ≤ y
  | .geq, x, y => x < y
  | _, _, _ => True
theorem cmpI_t {op : BinOp} {a b : Int} (h : cmpI op a b = true) : cmpP op a b := by
  cases op <;> first | (simp only [cmpI, decide_eq_true_eq] at h; exact h) | (simp only [cmpI, Bool.not_eq_true', decide_eq_false_iff_not] at h; exact h) | exact Bool.noConfusion h
theorem cmpI_f {op : BinOp} {a b : Int} (h : cmpI op a b = false) : cmpN op a b := by
  cases op <;> first | (simp only [cmpI, decide_eq_false_iff_not] at h; simp only [cmpN]; omega) | (simp only [cmpI, Bool.not_eq_false', decide_eq_true_eq] at h; simp only [cmpN]; omega) | trivial
theorem askB.cmp {op : BinOp} {a b : Int} (y : cmpP op a b → yes) (n : cmpN op a b → no) : askB (cmpI op a b) yes no := ⟨fun h => y (cmpI_t h), fun h => n (cmpI_f h)⟩
/-- What the text's way decides. -/
theorem askB.cy {op : BinOp} {a b : Int} (h : cmpP op a b) (y : yes) : askB (cmpI op a b) yes no := ⟨fun _ => y, fun h' => by have := cmpI_f h'; cases op <;> simp only [cmpP, cmpN] at h this <;> omega⟩
theorem askB.cn {op : BinOp} {a b : Int} (h : cmpN op a b) (n : no) : askB (cmpI op a b) yes no := ⟨fun h' => by have := cmpI_t h'; cases op <;> simp only [cmpP, cmpN] at h this <;> omega, fun _ => n⟩
theorem askB.lss {a b : Int} (y : a < b → yes) (n : b ≤ a → no) : askB (cmpI .lss a b) yes no := ⟨fun h => y (by simpa [cmpI] using h), fun h => n (by simpa [cmpI] using h)⟩
theorem askB.leq {a b : Int} (y : a ≤ b → yes) (n : b < a → no) : askB (cmpI .leq a b) yes no := ⟨fun h => y (by simpa [cmpI] using h), fun h => n (by simpa [cmpI] using h)⟩
theorem askB.gtr {a b : Int} (y : b < a → yes) (n : a ≤ b → no) : askB (cmpI .gtr a b) yes no := ⟨fun h => y (by simpa [cmpI] using h), fun h => n (by simpa [cmpI] using h)⟩
theorem askB.geq {a b : Int} (y : b ≤ a → yes) (n : a < b → no) : askB (cmpI .geq a b) yes no := ⟨fun h => y (by simpa [cmpI] using h), fun h => n (by simpa [cmpI] using h)⟩
theorem askB.eql {a b : Int} (y : a = b → yes) (n : a ≠ b → no) : askB (cmpI .eql a b) yes no := ⟨fun h => y (by simpa [cmpI] using h), fun h => n (by simpa [cmpI] using h)⟩
theorem askB.neq {a b : Int} (y : a ≠ b → yes) (n : a = b → no) : askB (cmpI .neq a b) yes no := ⟨fun h => y (by simpa [cmpI] using h), fun h => n (by simpa [cmpI] using h)⟩
end

section
variable {k0 : Nat} {ds : List Nat} {st : St} {a b c : St → (AExit → St → Prop) → Prop} {Q : AExit → St → Prop}

theorem SeqP.go (h : a st fun e st => match e with
    | .normal => b st Q
    | .exit i => Q (.exit i) st
    | .ret => Q .ret st) : SeqP k0 ds st a b Q := .inl h

/-- A state, brought to its form. -/
def nfE : Env → (Env → Prop) → Prop
  | [], K => K []
  | (t, v) :: l, K => fvB v fun v => nfE l fun l' => K ((t, v) :: l')
def nfS (st : St) (K : St → Prop) : Prop :=
  match st with
  | ⟨env, heap, nxt, kn⟩ => nfE env fun e => fhB heap [] fun h => litN nxt fun nxt => K ⟨e, h, nxt, kn⟩

theorem nfE_eq : ∀ (e : Env) (K : Env → Prop), nfE e K = K e
  | [], _ => rfl
  | (t, v) :: l, K => by simp only [nfE, fvB_eq, nfE_eq l]
theorem nfS_eq (st : St) (K : St → Prop) : nfS st K = K st := by
  obtain ⟨e, h, n, k⟩ := st
  simp only [nfS, nfE_eq, fhB_eq, litN_eq, List.append_nil]

/-- By a lay-out: what is told anew, over what was. -/
theorem SeqP.cut {X : Type} (I : X → Prop) (ce : X → Env) (ch : X → Heap) (nx : Nat) (h1 : a st fun e st' => match e with
      | .normal => ∃ y, I y ∧ Sub k0 st' (layU ds st (ce y) (ch y) nx)
      | .exit i => Q (.exit i) st'
      | .ret => Q .ret st') (h2 : ∀ y, I y → nfS (layU ds st (ce y) (ch y) nx) fun st => b st Q) : SeqP k0 ds st a b Q :=
  .inr ⟨X, I, fun y => layU ds st (ce y) (ch y) nx, h1, fun y hy => by have := h2 y hy; rw [nfS_eq] at this; exact this⟩

theorem LoopP.go {X : Type} (I : X → Prop) (ce : X → Env) (ch : X → Heap) (nx : Nat) (μ : X → Nat) (x0 : X) (h0 : I x0) (h1 : Sub k0 st (layU ds st (ce x0) (ch x0) nx))
    (h2 : ∀ x, I x → nfS (layU ds st (ce x) (ch x) nx) fun st1 => c st1 fun e st' => match e with
      | .normal => ∃ y, I y ∧ μ y < μ x ∧ Sub k0 st' (layU ds st (ce y) (ch y) nx)
      | .exit i => Q (.exit i) st'
      | .ret => Q .ret st') : LoopP k0 ds st c Q :=
  ⟨X, I, fun y => layU ds st (ce y) (ch y) nx, μ, x0, h0, h1, fun x hx => by have := h2 x hx; rw [nfS_eq] at this; exact this⟩

theorem Sub.go {k0 : Nat} {st st' : St} (l : List (Nat × Nat)) (nl : List Nat) (hc : subC k0 l nl st st' = true) (h1 : subE (sig l k0 st.nxt) nl st.env st'.env) (h2 : subH (sig l k0 st.nxt) nl st.heap st'.heap) : Sub k0 st st' := ⟨l, nl, hc, h1, h2⟩
end

theorem Ctr.go {C : Ctr} {st : St} {args : List AV} {K : KV} (x : C.X) (hp : C.pre x) (hn : noIds args) (ha : eqAs args (C.args x)) (hk : K (C.res x st.nxt) ⟨newsH st.nxt (C.news x st.nxt), [], (C.news x st.nxt).length⟩) : C.spec st args K :=
  ⟨x, hp, .inl ⟨hn, eqAs_ok _ _ ha, hk⟩⟩

/-- Its results told anew. -/
theorem Ctr.goE {C : Ctr} {st : St} {args : List AV} {K : KV} (x : C.X) (hp : C.pre x) (r : Nat → AV) (nw : Nat → List AV) (hr : C.res x = r) (hw : C.news x = nw) (hn : noIds args) (ha : eqAs args (C.args x)) (hk : K (r st.nxt) ⟨newsH st.nxt (nw st.nxt), [], (nw st.nxt).length⟩) : C.spec st args K := by
  subst hr; subst hw; exact Ctr.go x hp hn ha hk

theorem Ctr.frzE {C : Ctr} {st : St} {args : List AV} {K : KV} (x : C.X) (hp : C.pre x) (r : Nat → AV) (nw : Nat → List AV) (hr : C.res x = r) (hw : C.news x = nw) (ho : C.own = true) (ha : eqAs (args.map (fz 0 [] (lkH st.heap) 9)) (C.args x)) (hf : okFs (C.args x)) (hk : K (r st.nxt) ⟨newsH st.nxt (nw st.nxt), st.heap.map (·.1), (nw st.nxt).length⟩) : C.spec st args K := by
  subst hr; subst hw; exact ⟨x, hp, .inr ⟨ho, eqAs_ok _ _ ha, hf, hk⟩⟩

/-- With what is tracked told by its content. -/
theorem Ctr.frz {C : Ctr} {st : St} {args : List AV} {K : KV} (x : C.X) (hp : C.pre x) (ho : C.own = true) (ha : eqAs (args.map (fz 0 [] (lkH st.heap) 9)) (C.args x)) (hf : okFs (C.args x)) (hk : K (C.res x st.nxt) ⟨newsH st.nxt (C.news x st.nxt), st.heap.map (·.1), (C.news x st.nxt).length⟩) : C.spec st args K :=
  ⟨x, hp, .inr ⟨ho, eqAs_ok _ _ ha, hf, hk⟩⟩

def newsA (H : Nat → Option AV) (nx : Nat) (ks : List Nat) : List Nat → List AV → Prop
  | [], [] => True
  | id :: l, v :: vs => (match H id with | some u => eqA (fz nx ks H 9 u) v | none => False) ∧ newsA H nx ks l vs
  | _, _ => False

theorem newsA_ok {H : Nat → Option AV} {nx : Nat} {ks : List Nat} : ∀ {l : List Nat} {vs : List AV}, newsA H nx ks l vs → newsEq H nx ks l vs
  | [], [], _ => trivial
  | [], _ :: _, h => h.elim
  | _ :: _, [], h => h.elim
  | id :: l, v :: vs, h => by
    refine ⟨?_, newsA_ok h.2⟩
    have h1 := h.1
    split at h1
    · rename_i u hu
      first | exact eqA_ok _ _ h1 | (rw [hu]; exact eqA_ok _ _ h1)
    · exact h1.elim

theorem Fin.go {own : Bool} {res : Nat → AV} {news : Nat → List AV} {st : St} {v : AV} (ks drop : List Nat) (hd : distinct ks = true) (h1 : ∀ nx, eqA (fz nx ks (lkH (dropped drop ++ st.heap)) 9 v) (res nx)) (h2 : ∀ nx, okF (res nx))
    (h3 : ∀ nx, newsA (lkH (dropped drop ++ st.heap)) nx ks ks (news nx)) (h4 : ∀ nx, okFs (news nx)) (h5 : own = true → noR v ∧ noRH (dropped drop ++ st.heap)) : Fin own res news st v :=
  ⟨ks, drop, hd, fun nx => ⟨eqA_ok _ _ (h1 nx), h2 nx, newsA_ok (h3 nx), h4 nx⟩, h5⟩

theorem FinW.go {own : Bool} {res : Nat → AV} {news : Nat → List AV} {st : St} {v : AV} (ks drop : List Nat) (hd : distinct ks = true) (h1 : ∀ nx, eqA (fz nx ks (lkH (dropped drop ++ st.heap)) 9 v) (res nx)) (h2 : ∀ nx, okF (res nx))
    (h3 : ∀ nx, newsA (lkH (dropped drop ++ st.heap)) nx ks ks (news nx)) (h4 : ∀ nx, okFs (news nx)) (h5 : own = true → noR v ∧ noRH (dropped drop ++ st.heap)) : FinW own res news st v := .inl (Fin.go ks drop hd h1 h2 h3 h4 h5)

theorem FinW.nil {own : Bool} {res : Nat → AV} {news : Nat → List AV} {st : St} {v : AV} (nh : List AV) (v' : AV) (hn : nilOks nh) (hw : wkT (fun id => id) (idsFrom st.nxt nh.length) v' v) (ks drop : List Nat) (hd : distinct ks = true)
    (h1 : ∀ nx, eqA (fz nx ks (lkH (dropped drop ++ (newsH st.nxt nh ++ st.heap))) 9 v') (res nx)) (h2 : ∀ nx, okF (res nx)) (h3 : ∀ nx, newsA (lkH (dropped drop ++ (newsH st.nxt nh ++ st.heap))) nx ks ks (news nx)) (h4 : ∀ nx, okFs (news nx))
    (h5 : own = true → noR v' ∧ noRH (dropped drop ++ (newsH st.nxt nh ++ st.heap))) : FinW own res news st v := .inr ⟨nh, v', hn, hw, Fin.go ks drop hd h1 h2 h3 h4 h5⟩

/-- The first result, nil, told as a row of none. -/
def nil1 (e : TypeId) (k : Nat) : AV → AV
  | .tup (_ :: l) => .tup (.ow k e :: l)
  | .nils => .ow k e
  | v => v

theorem FinW.nilF {own : Bool} {res : Nat → AV} {news : Nat → List AV} {st : St} {v : AV} (g : Nat → AV → AV) (nh : List AV) (ks : Nat → List Nat) (hn : nilOks nh) (hw : wkT (fun id => id) (idsFrom st.nxt nh.length) (g st.nxt v) v) (hd : distinct (ks st.nxt) = true)
    (h1 : ∀ nx, eqA (fz nx (ks st.nxt) (lkH (newsH st.nxt nh ++ st.heap)) 9 (g st.nxt v)) (res nx)) (h2 : ∀ nx, okF (res nx)) (h3 : ∀ nx, newsA (lkH (newsH st.nxt nh ++ st.heap)) nx (ks st.nxt) (ks st.nxt) (news nx)) (h4 : ∀ nx, okFs (news nx))
    (h5 : own = true → noR (g st.nxt v) ∧ noRH (newsH st.nxt nh ++ st.heap)) : FinW own res news st v := FinW.nil nh (g st.nxt v) hn hw (ks st.nxt) [] hd h1 h2 h3 h4 h5

/-- A body, walked from its arguments to its end. -/
def Walk (tt : Tab) (ct : Specs) (code : Code) (results : List ResultVar) (C : Ctr) (x : C.X) : Prop :=
  bodyA tt ct 0 code results ⟨argsE 0 (C.args x), [], 0, []⟩ fun st v => FinW C.own (C.res x) (C.news x) st v

/-- A contract at fewer arguments, its results told anew. -/
theorem sp_lit {P : Program} {f : FuncId} {C : Ctr} (h : SpS P f C.spec) (C' : Ctr) (ho : C'.own = true → C.own = true) (hx : ∀ x', C'.pre x' → ∃ x, C.pre x ∧ C.args x = C'.args x' ∧ C.res x = C'.res x' ∧ C.news x = C'.news x') : SpS P f C'.spec := by
  intro st args K B π Z w us hv hg hS
  refine h st args K B π Z w us hv hg ?_
  obtain ⟨x', hp, hS⟩ := hS
  obtain ⟨x, h1, h2, h3, h4⟩ := hx x' hp
  refine ⟨x, h1, ?_⟩
  rw [h2, h3, h4]
  exact hS.imp id fun hh => ⟨ho hh.1, hh.2⟩

theorem IdE.go {i j : Nat} (h : i = j) : IdE i j := h


end Go.Ax

/- Masks, and short ways. -/
namespace Go.Ax
open Go

def maskJ : Nat → Int → Option Nat
  | 0, _ => none
  | n + 1, m => if m = ((2 ^ (n + 1) - 1 : Nat) : Int) then some (n + 1) else maskJ n m

theorem maskJ_ok : ∀ {n : Nat} {m : Int} {j : Nat}, maskJ n m = some j → m = ((2 ^ j - 1 : Nat) : Int) ∧ j ≤ n
  | 0, _, _, h => by cases h
  | n + 1, m, j, h => by
    unfold maskJ at h
    split at h
    · rename_i hm; cases h; exact ⟨hm, Nat.le_refl _⟩
    · obtain ⟨h1, h2⟩ := maskJ_ok h; exact ⟨h1, by omega⟩

/-- The last digits, for any mask. -/
theorem andE {k : IntKind} (x m : Int) (hm : (!k.signed && (maskJ k.bits m).isSome) = true) (hx : 0 ≤ x ∧ x ≤ k.max) : bitsI .and k x m = x % (m + 1) := by
  simp only [Bool.and_eq_true, Bool.not_eq_true'] at hm
  obtain ⟨j, hj⟩ := Option.isSome_iff_exists.1 hm.2
  obtain ⟨h1, h2⟩ := maskJ_ok hj
  subst h1
  have hmax : k.max = ((2 ^ k.bits : Nat) : Int) - 1 := by cases k <;> first | (exfalso; exact absurd hm.1 (by decide)) | rfl
  have h0 : 0 < 2 ^ j := Nat.two_pow_pos j
  rw [and_mask hm.1 x j (by omega) (Nat.pow_le_pow_right (by omega) h2), show (((2 ^ j - 1 : Nat) : Int) + 1) = ((2 ^ j : Nat) : Int) by omega]

theorem tnSub1 (i : Nat) : ((i : Int) - 1).toNat = i - 1 := by omega

theorem tn8 (i : Nat) : (8 * (i : Int)).toNat = 8 * i := by omega

theorem maxU8 : IntKind.max .u8 = 255 := rfl
theorem maxU16 : IntKind.max .u16 = 65535 := rfl
theorem maxU32 : IntKind.max .u32 = 4294967295 := rfl
theorem maxU64 : IntKind.max .u64 = 18446744073709551615 := rfl

end Go.Ax

/- Arrays of integers among a law's arguments. -/
namespace Go.Ax
open Go

def numV : Value → Int
  | .int _ n => n
  | _ => 0

theorem open_arr {H : Type} {enc : TypeId × Value → H} {P : Program} {w W : World} {base b0 : Nat} {spare : Nat → Bool} {held : Bool} {r : Reach} {t e : TypeId} {k : IntKind} {n : Nat} {v : Value} {d : DataW H} {ps : List MemPlace}
    (ht : P.underlying t = some (.array n e)) (he : P.underlying e = some (.int k)) (hct : P.cellsOf t = n) (hce : P.cellsOf e = 1)
    (hval : Value.okWide P W r b0 t v) (hd : DataW.Trod enc P w base spare held t v d ps) :
    ∃ zs : List Int, zs.length = n ∧ v = .agg (zs.map (Value.int k)).toArray ∧ ∀ z ∈ zs, (Lit.int k z).wf = true := by
  simp only [Value.okWide, ht] at hval
  obtain ⟨cs, rfl, hs, _⟩ := hval
  obtain ⟨fuel, hf⟩ := hd
  have hf' : DataW.trod enc P w base spare held fuel t cs.toList = some (d, ps) := hf
  obtain ⟨xs, m, _, _, hl, hxn, hx⟩ := DataW.trod_array ht hf'
  have hn : cs.toList.length = n := by rw [hl, hct]
  have each : ∀ i (h : i < cs.toList.length), ∃ z, cs.toList[i] = .int k z ∧ (Lit.int k z).wf = true := by
    intro i h
    have hy := hx i (by omega)
    rw [hce, Nat.mul_one, List.drop_eq_getElem_cons h, List.getElem?_eq_getElem (by omega)] at hy
    simp only [List.take_succ_cons, List.take_zero] at hy
    obtain ⟨z, h1, _, h2⟩ := DataW.trod_int he hy
    exact ⟨z, by simpa using h1, h2⟩
  refine ⟨cs.toList.map numV, by simpa using hn, ?_, ?_⟩
  · congr 1
    apply Array.ext'
    simp only [List.map_map]
    symm
    apply List.ext_getElem (by simp)
    intro i h1 h2
    obtain ⟨z, hz, _⟩ := each i h2
    simp only [List.getElem_map, Function.comp]
    rw [hz]; rfl
  · intro z hz
    obtain ⟨u, hu, rfl⟩ := List.mem_map.1 hz
    obtain ⟨i, hi, rfl⟩ := List.mem_iff_getElem.1 hu
    obtain ⟨z, hz, hw⟩ := each i hi
    rw [hz]; exact hw

theorem v_arr {π : PM} {Z : ZM} {k : IntKind} {n : Nat} {zs : List Int} (hl : zs.length = n) (hw : ∀ z ∈ zs, (Lit.int k z).wf = true) :
    V π Z (.arr k n zs) (.agg (zs.map (Value.int k)).toArray) ∧ ∀ z ∈ zs, rng k z := by
  refine ⟨?_, fun z hz => rng_of_wf (hw z hz)⟩
  show VA π Z _ _
  unfold VA
  rw [if_pos (by rfl : isAggA (AV.arr k n zs) = true)]
  refine ⟨zs.map (Value.int k), rfl, ⟨.ar k n, rfl, rfl, hl⟩, by simp [flat], fun i a u ha hu => ?_⟩
  simp only [flat, List.getElem?_map, Option.map_eq_some_iff] at ha hu
  obtain ⟨x, hx, rfl⟩ := ha
  obtain ⟨y, hy, rfl⟩ := hu
  rw [hx] at hy; cases hy
  exact .int k x (rng_of_wf (hw x (List.mem_of_getElem? hx)))

end Go.Ax
