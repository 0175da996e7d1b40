/-
  The evaluator's single operations are those of the model (second part).
  It says nothing of one program: conditions stand in each theorem.
-/
import Derived.Test.YtchplfhmodkgnaaGreatDoorEvA
import Derived.Laws.IdiomCopy
import Derived.Lib.Builder
import Derived.Lib.UnsafeStr
set_option linter.constructorNameAsVariable false
namespace Go.Ev
open Go
variable {P : Program} {w : World} {ρ : Ren} {h : Heap} {nx : BK}

theorem bs_ok (t e : TypeId) (ht : P.underlying t = some (.slice e)) (z : Value) (hz : zeroC P e = some z) (sz : Nat) (hs : szOf P e = some sz) (hsz : z.cells.size = sz)
    (zl : List AV) (hzl : ∀ ρ, Vs ρ zl z.cells.toList) (h1 : ∀ x ∈ zl, x.one = true) (n : Nat) (hn : n * sz ≤ 2 ^ 24) (ps : List (Nat × Nat × X)) (hps : partsOk (n * sz) 0 ps = true)
    (st : List AV) (en : Env) {K : Ob → (BK → AV) → Bool} (hh : mBs n (mkPcs (List.replicate n zl).flatten 0 ps) st en K = true) :
    ∃ ob mk, K ob mk = true ∧ ∀ ρ w k (vs : List (Nat × Value)), ps.length = vs.length → (∀ (j : Nat) p v, ps[j]? = some p → vs[j]? = some v → p.1 = v.1 * sz ∧ p.2.1 = sz ∧ V ρ (opd p.2.2 st en) v.2) →
      ∃ c w' L, (Instr.buildSlice t n vs.toArray).run P w = .ok c w' ∧ Made k ob mk ρ w w' c L := by
  obtain ⟨l, h2, h3⟩ := evP_inv st en _ _ (show evP (mkPcs (List.replicate n zl).flatten 0 ps) st en (kSl n n K) = true from hh)
  refine ⟨.cells .o l, slf n n, h2, fun ρ w k vs hlen hall => ?_⟩
  have hzlen : zl.length = sz := by have := (hzl ρ).1; simp at this; omega
  have hrl : (List.replicate n zl).flatten.length = n * sz := by simp [hzlen]
  let zero : Array Value := if n * sz = 0 then #[] else z.cells
  let cs : Array Value := (Array.range (n * sz)).map (fun i => zero[i % zero.size]!)
  have hcs : cs.toList = (List.replicate n z.cells.toList).flatten := by
    by_cases h0 : n * sz = 0
    · have : (List.replicate n z.cells.toList).flatten.length = 0 := by simp [hsz, h0]
      rw [List.length_eq_zero_iff.1 this]
      simp [cs, h0]
    · have : zero = z.cells := by simp [zero, h0]
      simp only [cs, this]
      rw [← hsz]
      exact cyc_get z.cells n
  obtain ⟨cs', B, g1, g2, g3, g4⟩ := fill_ok st en (fun i => some (i * sz, sz)) (List.replicate n zl).flatten _ ((hzl ρ).rep n) (one_rep h1 n) ps vs 0 l cs [] (by rw [hrl]; exact hps) h3 hlen
    (fun j p v hj hj' => by obtain ⟨e1, e2, e3⟩ := hall j p v hj hj'; exact ⟨by rw [e1, e2], e3⟩) (by rw [hcs]; simp) rfl (Nat.zero_le _)
  have hB : cs'.toList = B := by rw [g2]; rfl
  have hlB : l.length = cs'.size := by have := g3.1; rw [← hB] at this; simpa using this
  have hrun : (Instr.buildSlice t n vs.toArray).run P w = .ok (.slice (some ⟨w.heap.size, 0, none⟩) n n) { w with heap := w.heap.push (.cells cs' e) } := by
    have c1 : ¬ (n * sz > 2 ^ 24) := by omega
    have hf : Instr.fill (fun i => some (i * sz, sz)) cs vs.toArray.toList = some cs' := g1
    by_cases h0 : n * sz = 0
    · have hz0 : zero = #[] := by simp [zero, h0]
      have hc : cs = (Array.range (n * sz)).map (fun i => (#[] : Array Value)[i % (#[] : Array Value).size]!) := by simp only [cs, hz0]
      rw [hc] at hf
      simp only [Instr.buildSlice, Sem.run_bind, run_underlying ht, Result.andThen_ok, run_sz hs, if_neg c1, if_pos h0, Sem.run_pure]
      rw [hf]
      simp [run_newRow]
    · have hz0 : zero = z.cells := by simp [zero, h0]
      have hc : cs = (Array.range (n * sz)).map (fun i => z.cells[i % z.cells.size]!) := by simp only [cs, hz0]
      rw [hc] at hf
      simp only [Instr.buildSlice, Sem.run_bind, run_underlying ht, Result.andThen_ok, run_sz hs, if_neg c1, if_neg h0, Sem.run_pure, run_zero hz]
      rw [hf]
      simp [run_newRow]
  refine ⟨_, _, _, hrun, made_row k (slf n n) ρ w w.drawn e l cs' (0, 0) cs'.size _ ?_ g4 rfl (by omega) (.inl rfl) (fun ρ' _ hk => slf_val k w n n _ _ (Nat.le_refl _) ρ' hk) .o (.inl rfl)⟩
  rw [hlB, List.take_of_length_le (by simp), hB]
  exact g3
theorem byteCells_eq : ∀ (l : List Nat) (K : List AV → Bool), byteCells l K = K (l.map fun n => .i .u8 (Int.ofNat n)) := by
  intro l
  induction l with
  | nil => intro K; rfl
  | cons x l ih =>
    intro K
    have e : byteCells (x :: l) K = byteCells l (kcons K (.i .u8 (Int.ofNat x))) := rfl
    rw [e, ih]
    rfl
theorem Vs.bytes (s : ByteArray) : Vs ρ ((s.data.toList.map UInt8.toNat).map fun n => AV.i .u8 (Int.ofNat n)) (s.data.toList.map fun b => Value.int .u8 b.toNat) := by
  refine ⟨by simp, fun i x y hx hy => ?_⟩
  simp only [List.map_map, List.getElem?_map] at hx hy
  cases hb : s.data.toList[i]? with
  | none => rw [hb] at hx; simp at hx
  | some b =>
    rw [hb] at hx hy
    simp at hx hy
    subst hx
    subst hy
    exact .i _ _
theorem one_bytes (l : List Nat) : ∀ x ∈ l.map (fun n => AV.i .u8 (Int.ofNat n)), x.one = true := by
  intro x hx
  obtain ⟨n, _, rfl⟩ := List.mem_map.1 hx
  rfl
theorem modify_push (a : Array Obj) (o : Obj) (f : Obj → Obj) : (a.push o).modify a.size f = a.push (f o) := by
  apply Array.ext
  · simp
  · intro i h1 h2
    rw [Array.getElem_modify]
    simp only [Array.getElem_push]
    split
    · rename_i e
      subst e
      simp
    · rename_i e
      split
      · rfl
      · rename_i e2; simp at h1; omega
theorem cap_ge (need old : Nat) (e : TypeId) (t : Nat) : need ≤ (Question.appendCap need old e).cut t := by simp [Question.cut]
theorem s2b_ok (t d e : TypeId) (ht : P.underlying t = some .string) (hd : P.underlying d = some (.slice e)) (he : P.underlying e = some (.int .u8)) (st : List AV) (en : Env) (a : X) {K : Ob → (BK → AV) → Bool} (hh : mS2b a st en K = true) :
    ∃ ob mk, K ob mk = true ∧ ∀ ρ w x k, V ρ (opd a st en) x → ∃ c w' L, (convert t d x).run P w = .ok c w' ∧ Made k ob mk ρ w w' c L := by
  obtain ⟨l, ea, h2⟩ := asS_inv (show asS (opd a st en) (s2b1 K) = true from hh)
  have h3 : len l (s2b2 l K) = true := h2
  rw [len_eq] at h3
  have h4 : byteCells l (kSu l.length K) = true := h3
  rw [byteCells_eq] at h4
  refine ⟨_, _, h4, fun ρ w x k hx => ?_⟩
  rw [ea] at hx
  obtain ⟨s, rfl, rfl⟩ := hx.str_inv
  have hlen : (s.data.toList.map UInt8.toNat).length = s.size := by rw [List.length_map, Array.length_toList]; rfl
  let cap := (Question.appendCap s.size 0 e).cut (w.tape w.drawn (Question.appendCap s.size 0 e))
  have hcap : s.size ≤ cap := cap_ge _ _ _ _
  let cs : Array Value := (s.data.map fun b => Value.int .u8 b.toNat) ++ Array.replicate (cap - s.size) (.int .u8 0)
  have hcs : cs.size = cap := by
    have : s.data.size = s.size := rfl
    simp [cs, this]; omega
  have hrun : (convert t d (.string s)).run P w = .ok (.slice (some ⟨w.heap.size, 0, none⟩) s.size cap) { w with heap := w.heap.push (.cells cs e (cap, cap + 1)), drawn := w.drawn + 1 } := by
    have c0 : (convert t d (.string s)).run P w = (Conv.stringToBytes e s).run P w := by simp [convert, run_underlying ht, run_underlying hd, run_underlying he]
    rw [c0]
    have c1 : (choose (.appendCap s.size 0 e)).run P w = .ok cap { w with drawn := w.drawn + 1 } := by simp [choose, Sem.run, Question.forced, cap]
    have c2 : ∀ w' : World, w'.heap = w.heap.push (.cells cs e) → (markStringish ⟨w.heap.size, 0, none⟩).run P w' = .ok () { w' with heap := w.heap.push (.cells cs e (cap, cap + 1)) } := by
      intro w' hw
      simp [markStringish, shape, freeze, Sem.run, World.shape?, World.freeze, hw, modify_push, hcs]
    simp only [Conv.stringToBytes, Sem.run_bind, c1, Result.andThen_ok, run_newRow]
    rw [c2 _ rfl]
    rfl
  refine ⟨_, _, _, hrun, made_row k (slu (s.data.toList.map UInt8.toNat).length) ρ w (w.drawn + 1) e _ cs (cap, cap + 1) cap _ ?_ (one_bytes _) hcs.symm (by simp only [List.length_map, Array.length_toList]; exact hcap) (.inr (Nat.le_refl _)) (fun ρ' _ hk => ?_) .o (.inl rfl)⟩
  · have : (cs.toList.take ((s.data.toList.map UInt8.toNat).map fun n => AV.i .u8 (Int.ofNat n)).length) = s.data.toList.map fun b => Value.int .u8 b.toNat := by
      simp only [cs, Array.toList_append, Array.toList_map, List.length_map]
      rw [List.take_append_of_le_length (by simp), List.take_of_length_le (by simp)]
    rw [this]
    exact Vs.bytes s
  · have hn : (s.data.toList.map UInt8.toNat).length = s.size := hlen
    show V ρ' (.sl k 0 (s.data.toList.map UInt8.toNat).length (.un 1)) _
    rw [hn]
    refine .slu k 0 s.size cap 1 _ _ hk hcap (fun _ => rfl) ?_ ?_ (by omega)
    · simp only [List.length_map, Array.length_toList]; show s.size ≤ _; omega
    · show 0 + cap * 1 ≤ cap; omega
end Go.Ev
set_option linter.constructorNameAsVariable false
namespace Go.Ev
open Go
variable {P : Program} {w : World} {ρ : Ren} {h : Heap} {nx : BK}

/-! ### cells written -/
theorem sc_size (b : Nat) : ∀ (vs : List Value) (o : Nat) (w : World), (w.setCells b o vs).heap.size = w.heap.size
  | [], _, _ => rfl
  | v :: r, o, w => by rw [World.setCells, sc_size b r]; simp [World.setCell]
theorem sc_other (b : Nat) : ∀ (vs : List Value) (o : Nat) (w : World) (k : Nat), k ≠ b → (w.setCells b o vs).heap[k]? = w.heap[k]?
  | [], _, _, _, _ => rfl
  | v :: r, o, w, k, hk => by rw [World.setCells, sc_other b r _ _ _ hk]; simp [World.setCell, Array.getElem?_modify, Ne.symm hk]
theorem sc_rest (b : Nat) : ∀ (vs : List Value) (o : Nat) (w : World), (w.setCells b o vs).os = w.os ∧ (w.setCells b o vs).tape = w.tape ∧ (w.setCells b o vs).output = w.output ∧ (w.setCells b o vs).drawn = w.drawn
  | [], _, _ => ⟨rfl, rfl, rfl, rfl⟩
  | v :: r, o, w => by rw [World.setCells]; exact sc_rest b r _ _
theorem sc_isSome (b : Nat) : ∀ (vs : List Value) (o : Nat) (w : World) (x : Addr), (w.cell? x).isSome = true → ((w.setCells b o vs).cell? x).isSome = true
  | [], _, _, _, hx => hx
  | v :: r, o, w, x, hx => by
    rw [World.setCells]
    refine sc_isSome b r _ _ _ ?_
    by_cases e : (⟨b, o, none⟩ : Addr) = x
    · subst e
      obtain ⟨u, hu⟩ := Option.isSome_iff_exists.1 hx
      rw [World.cell?_setCell_same _ _ _ hu]
      rfl
    · rw [World.cell?_setCell_other _ _ _ _ e]; exact hx
theorem shape_setCell (w : World) (a : Addr) (v : Value) (r : Nat) : (w.setCell a v).shape? r = w.shape? r := by
  by_cases e : a.block = r
  · simp only [World.shape?, World.setCell, Array.getElem?_modify, e, if_true]
    cases w.heap[r]? with
    | none => rfl
    | some o =>
      cases o with
      | cells c t f => simp only [Option.map_some]; split <;> simp
      | _ => rfl
  · simp only [World.shape?, World.setCell, Array.getElem?_modify, e, if_false]
theorem sc_shape (b : Nat) : ∀ (vs : List Value) (o : Nat) (w : World) (r : Nat), (w.setCells b o vs).shape? r = w.shape? r
  | [], _, _, _ => rfl
  | v :: r, o, w, x => by rw [World.setCells, sc_shape b r, shape_setCell]
theorem sc_tag (b : Nat) (vs : List Value) (o : Nat) (w : World) {L : Loc} {g : Tg} (h : TgR w L g) : TgR (w.setCells b o vs) L g := by
  cases g with
  | o => trivial
  | x t n => exact ⟨h.1, (sc_shape b vs o w _).trans h.2⟩
  | r t =>
    obtain ⟨h0, n, h⟩ := h
    exact ⟨h0, n, (sc_shape b vs o w _).trans h⟩
theorem obC_inv {o : Ob} {K : Tg → List AV → Bool} (hh : obC o K = true) : ∃ g l, o = .cells g l ∧ K g l = true := by
  cases o with
  | cells g l => exact ⟨g, l, rfl, hh⟩
  | _ => cases hh
/-- the state with another heap -/
def St.setH : St → Heap → St | .mk c e ds _ nx, h => .mk c e ds h nx
def St.setHn : St → Heap → BK → St | .mk c e ds _ _, h, nx => .mk c e ds h nx
theorem St.withH_eq (S : St) (h : Heap) (K : St → Bool) : S.withH h K = K (S.setH h) := by cases S; rfl
theorem St.withHn_eq (S : St) (h : Heap) (nx : BK) (K : St → Bool) : S.withHn h nx K = K (S.setHn h nx) := by cases S; rfl
theorem St.setHn_same (S : St) : S.setHn S.h S.nx = S := by cases S; rfl
theorem St.setHn_h (S : St) (h : Heap) (nx : BK) : (S.setHn h nx).h = h := by cases S; rfl
theorem St.setHn_nx (S : St) (h : Heap) (nx : BK) : (S.setHn h nx).nx = nx := by cases S; rfl
theorem St.setH_eq (S : St) (h : Heap) : S.setH h = S.setHn h S.nx := by cases S; rfl
/-- what writing comes to -/
theorem wr_ok {S : St} {k : BK} {o : Nat} {l : List AV} {K : St → Bool} (hh : wr S k o l K = true) :
    ∃ h', K (S.setHn h' S.nx) = true ∧ ∀ ρ nx w L vs, Rel ρ S.h nx w → ρ k = some L → Vs ρ l vs → (∀ x ∈ l, x.one = true) →
      ∃ w', (∀ i b, L.off + o = b + i → (storeCells ⟨L.blk, b, none⟩ vs i).run P w = .ok () w') ∧ Rel ρ h' nx w' ∧ Ext ρ nx w ρ nx w' := by
  have e : wr S k o l K = ifb (nul l) (K S) (obC (hat S.h k) (wr1 S k o l K)) := rfl
  rw [e, ifb_eq, nul_eq] at hh
  cases l with
  | nil =>
    simp only [List.isEmpty_nil, if_true] at hh
    refine ⟨S.h, by rw [St.setHn_same]; exact hh, fun ρ nx w L vs hr hk hv _ => ?_⟩
    rw [hv.inv_nil]
    exact ⟨w, fun i b _ => rfl, hr, Ext.refl _ _ _⟩
  | cons x l =>
    simp only [List.isEmpty_cons, Bool.false_eq_true, if_false] at hh
    obtain ⟨g, cl, hc, hh⟩ := obC_inv hh
    have hh : ovr o (x :: l) cl (wr2 S k g K) = true := hh
    rw [ovr_eq] at hh
    simp only [Bool.and_eq_true, decide_eq_true_eq] at hh
    obtain ⟨h1, h2⟩ := hh
    generalize hL : x :: l = ll at *
    have hpos : 0 < ll.length := by rw [← hL]; simp
    have h2 : hput S.h k (.cells g (cl.take o ++ (ll ++ cl.drop (o + ll.length)))) (wr3 S K) = true := h2
    obtain ⟨h', e1, e2⟩ := hput_ex S.h k (.cells g (cl.take o ++ (ll ++ cl.drop (o + ll.length))))
    rw [e1] at h2
    have h2 : S.withH h' K = true := h2
    rw [St.withH_eq, St.setH_eq] at h2
    refine ⟨h', h2, fun ρ nx w L vs hr hk hv hone => ?_⟩
    · skip
      have hob := hr.ob k L hk
      rw [hc] at hob
      obtain ⟨hn, hcells, htg⟩ := hob
      have hvl := hv.1
      have hin : ∀ j, j < vs.length → ∃ c, w.cell? ⟨L.blk, L.off + o + j, none⟩ = some c ∧ w.frozen? ⟨L.blk, L.off + o + j, none⟩ = false := by
        intro j hj
        have hlt : o + j < cl.length := by omega
        obtain ⟨_, g2, c, g3, _⟩ := hcells (o + j) (cl[o + j]'hlt) (by simp [hlt])
        exact ⟨c, by rw [Nat.add_assoc]; exact g3, by rw [Nat.add_assoc]; exact g2⟩
      have hcc : ∀ v ∈ vs, v.oneCell' = true := by
        intro v hv'
        obtain ⟨i, hi, rfl⟩ := List.mem_iff_getElem.1 hv'
        exact (hv.2 i (ll[i]'(by omega)) vs[i] (by simp [show i < ll.length by omega]) (by simp [hi])).one_cell (hone _ (List.getElem_mem _))
      refine ⟨w.setCells L.blk (L.off + o) vs, fun i b hb => ?_, ?_⟩
      · have := run_storeCells_cells (P := P) L.blk b vs i w (fun j hj => by obtain ⟨c, g, _⟩ := hin j hj; rw [← hb, g]; rfl) (fun j hj => by obtain ⟨c, _, g⟩ := hin j hj; rw [← hb, g]) hcc
        rw [hb]; exact this
      · obtain ⟨r1, r2, r3, _⟩ := sc_rest L.blk vs (L.off + o) w
        refine hr.write hk (by rw [hc]; simp) e2 (sc_size _ _ _ _) (fun i hi => sc_other _ _ _ _ _ hi) r1 r2 r3 ⟨?_, ?_, sc_tag _ _ _ _ htg⟩ (fun i hi => ⟨sc_isSome _ _ _ _ _ hi.1, by rw [World.frozen?_setCells]; exact hi.2⟩)
        · simp; omega
        · intro i y hy
          have hcase : i < cl.length := by
            have := (List.getElem?_eq_some_iff.1 hy).1
            simp at this; omega
          rw [World.frozen?_setCells]
          obtain ⟨q1, q2, q3, q4, q5⟩ := hcells i (cl[i]'hcase) (by simp [hcase])
          by_cases c1 : i < o
          · rw [List.getElem?_append_left (by simp; omega), List.getElem?_take, if_pos c1] at hy
            simp [hcase] at hy
            subst hy
            refine ⟨q1, q2, q3, ?_, q5⟩
            rw [World.cell?_setCells_out _ _ _ _ _ (fun _ _ => .inl (by simp; omega))]
            exact q4
          · rw [List.getElem?_append_right (by simp; omega)] at hy
            simp only [List.length_take] at hy
            rw [Nat.min_eq_left (by omega)] at hy
            by_cases c2 : i < o + ll.length
            · rw [List.getElem?_append_left (by omega)] at hy
              have hj : i - o < vs.length := by omega
              refine ⟨hone y (List.mem_of_getElem? hy), q2, vs[i - o], ?_, hv.2 (i - o) y _ hy (by simp [hj])⟩
              have := World.cell?_setCells_in L.blk vs (L.off + o) w (fun j hj => by obtain ⟨c, g, _⟩ := hin j hj; rw [g]; rfl) (i - o) hj
              rw [show L.off + o + (i - o) = L.off + i by omega] at this
              exact this
            · rw [List.getElem?_append_right (by omega), List.getElem?_drop] at hy
              rw [show o + ll.length + (i - o - ll.length) = i by omega] at hy
              simp [hcase] at hy
              subst hy
              refine ⟨q1, q2, q3, ?_, q5⟩
              rw [World.cell?_setCells_out _ _ _ _ _ (fun _ _ => .inr (by simp; omega))]
              exact q4
/-- what an effect that is done at once comes to -/
def Done (P : Program) (nx : BK) (h' : Heap) (nx' : BK) (v : AV) (ρ : Ren) (w : World) (s : Sem Value) : Prop :=
  ∃ c w' ρ', s.run P w = .ok c w' ∧ V ρ' v c ∧ Rel ρ' h' nx' w' ∧ Ext ρ nx w ρ' nx' w'
theorem st_ok (t : TypeId) (n : Nat) (hs : szOf P t = some n) {S : St} {st : List AV} {a x : X} {K Q : KV} (hh : eSt n a x S st K Q = true) :
    ∃ h', K (.k .u) (S.setHn h' S.nx) = true ∧ ∀ ρ w p v, Rel ρ S.h S.nx w → V ρ (opd a st S.e) p → V ρ (opd x st S.e) v →
      ∃ w', (Instr.storeAt t p v).run P w = .ok () w' ∧ Rel ρ h' S.nx w' ∧ Ext ρ S.nx w ρ S.nx w' := by
  obtain ⟨k, o, ea, h1⟩ := asP_inv (show asP (opd a st S.e) (st1 n (opd x st S.e) S K) = true from hh)
  obtain ⟨l, h2, _, h3⟩ := cellsOf_inv (show cellsOf (opd x st S.e) (st2 n k o S K) = true from h1)
  obtain ⟨h4, h5⟩ := ifb_true (show ifb (Nat.beq (lenD l) n) (wr S k o l (K (.k .u))) false = true from h2)
  have h4 := beq_true h4
  rw [lenD_eq] at h4
  obtain ⟨h', h6, h7⟩ := wr_ok (P := P) h5
  refine ⟨h', h6, fun ρ w p v hr hp hv => ?_⟩
  rw [ea] at hp
  cases hp with
  | p _ _ L hk =>
    obtain ⟨g1, g2⟩ := h3 ρ v hv
    obtain ⟨w', r1, r2, r3⟩ := h7 ρ S.nx w L _ hr hk g1 g2
    refine ⟨w', ?_, r2, r3⟩
    have hlen : v.cells.size = n := by have := g1.1; simp at this; omega
    have := r1 0 (L.off + o) rfl
    simp [Instr.storeAt, Instr.sureAddr, storeVar, run_sz hs, hlen, this]
end Go.Ev
set_option linter.constructorNameAsVariable false
namespace Go.Ev
open Go
variable {P : Program} {w : World} {ρ : Ren} {h : Heap} {nx : BK}

/-! ### what is appended or copied -/
theorem src_ok {v : AV} {sz : Nat} {K : Nat → List AV → Bool} (hh : srcOf v sz h K = true) :
    ∃ n l, K n l = true ∧ l.length = n * sz ∧ ∀ ρ nx w c, Rel ρ h nx w → V ρ v c → (∀ w', (Builtin.lenOf c).run P w' = .ok n w') ∧ (∀ x ∈ l, x.one = true) ∧
      ∃ cs : List Value, cs.length = n * sz ∧ Vs ρ l cs ∧ ∀ m, m ≤ n → ∀ n', (Builtin.firstCells sz m c).run P { w with drawn := n' } = .ok (cs.take (m * sz)).toArray { w with drawn := n' } := by
  cases v with
  | k c =>
    cases c with
    | sln =>
      refine ⟨0, [], hh, by simp, fun ρ nx w c _ hv => ?_⟩
      cases hv
      refine ⟨fun w' => rfl, by simp, [], by simp, Vs.nil _, fun m hm n' => ?_⟩
      have : m = 0 := by omega
      subst this
      simp [Builtin.firstCells]
    | _ => cases hh
  | s l =>
    obtain ⟨h1, h2⟩ := ifb_true (show ifb (Nat.beq sz 1) (len l (src5 K l)) false = true from hh)
    have := beq_true h1
    subst this
    rw [len_eq] at h2
    have h2 : byteCells l (K l.length) = true := h2
    rw [byteCells_eq] at h2
    refine ⟨l.length, _, h2, by simp, fun ρ nx w c _ hv => ?_⟩
    obtain ⟨s, rfl, rfl⟩ := hv.str_inv
    have hlen : (s.data.toList.map UInt8.toNat).length = s.size := by rw [List.length_map, Array.length_toList]; rfl
    refine ⟨fun w' => by rw [hlen]; rfl, one_bytes _, _, ?_, Vs.bytes s, fun m hm n' => ?_⟩
    · simp
    · rw [hlen] at hm
      simp only [Builtin.firstCells, Sem.run_pure]
      congr 1
      apply Array.ext'
      simp only [Array.toList_map, ByteArray.data_extract, Array.toList_extract, List.extract_eq_take_drop]
      simp [List.map_take]
  | sl k o n c =>
    have hh : cellsAt h (n * sz) (K n) k o = true := hh
    by_cases h0 : n * sz = 0
    · rw [h0] at hh
      refine ⟨n, [], cellsAt_zero hh, by simp [h0], fun ρ nx w c _ hv => ?_⟩
      obtain ⟨L, a, cap, hk, rfl, hn, ha⟩ := hv.sl_inv
      refine ⟨fun w' => rfl, by simp, [], by simp [h0], Vs.nil _, fun m hm n' => ?_⟩
      have : m * sz = 0 := by
        have := Nat.mul_le_mul_right sz hm
        omega
      simp [Builtin.firstCells, this, loadCells, loadCellsFrom]
    · obtain ⟨_, l, h1, h2, h3⟩ := cellsAt_inv hh h0
      refine ⟨n, _, h3, by simp; omega, fun ρ nx w c hr hv => ?_⟩
      obtain ⟨L, a, cap, hk, rfl, hn, ha⟩ := hv.sl_inv
      obtain ⟨cs, g1, g2, g3, g4⟩ := hr.row hk h1 h2
      refine ⟨fun w' => rfl, g4, cs, g1, g2, fun m hm n' => ?_⟩
      have hn0 : n ≠ 0 := fun e => h0 (by rw [e]; simp)
      have := ha (by omega)
      subst this
      have hmul := Nat.mul_le_mul_right sz hm
      have := load_row (P := P) L.blk (L.off + o) (cs.take (m * sz)) { w with drawn := n' } (fun j v hj => by
        rw [List.getElem?_take] at hj
        split at hj
        · exact g3 j v hj
        · cases hj)
      rw [List.length_take, Nat.min_eq_left (by omega)] at this
      exact this
  | _ => cases hh
theorem goInt_V (n : Nat) : V ρ (.i .i64 (Int.ofNat n)) (goInt n) := .i _ _
theorem cp_ok (dT sT ty e : TypeId) (hd : P.underlying dT = some (.slice e)) (sz : Nat) (hs : szOf P e = some sz) {S : St} {st : List AV} {d x : X} {K Q : KV} (hh : eCp sz d x S st K Q = true) :
    ∃ v h', K v (S.setHn h' S.nx) = true ∧ ∀ ρ w a b, Rel ρ S.h S.nx w → V ρ (opd d st S.e) a → V ρ (opd x st S.e) b →
      ∃ c w', (Builtin.copy_ #[dT, sT] ty #[a, b]).run P w = .ok c w' ∧ V ρ v c ∧ Rel ρ h' S.nx w' ∧ Ext ρ S.nx w ρ S.nx w' := by
  obtain ⟨n, l, h1, hll, h2⟩ := src_ok (P := P) (show srcOf (opd x st S.e) sz S.h (cp2 sz (opd d st S.e) S K) = true from hh)
  -- the case in which nothing is copied
  have nothing : ∀ ρ w b a base dl dc, Rel ρ S.h S.nx w → V ρ (opd x st S.e) b → a = .slice base dl dc → (n = 0 ∨ dl = 0) → (Builtin.copy_ #[dT, sT] ty #[a, b]).run P w = .ok (goInt 0) w := by
    intro ρ w b a base dl dc hr hb ea hz
    obtain ⟨g1, _, cs, _, _, g3⟩ := h2 ρ S.nx w b hr hb
    subst ea
    have := g3 0 (Nat.zero_le _) w.drawn
    have hm : Nat.min n dl = 0 := by rcases hz with rfl | rfl <;> simp
    have g3' : (Builtin.firstCells sz 0 b).run P w = .ok #[] w := by simpa using this
    cases base with
    | none => simp [Builtin.copy_, run_underlying hd, g1, hm, run_sz hs, g3']
    | some a => simp [Builtin.copy_, run_underlying hd, g1, hm, run_sz hs, g3', storeCells]
  rcases asSl_inv (show asSl (opd d st S.e) (K (.i .i64 (Int.ofNat 0)) S) (cp3 sz n l S K) = true from h1) with ⟨ed, h3⟩ | ⟨k, o, dl, cp, ed, h3⟩
  · refine ⟨_, S.h, by rw [St.setHn_same]; exact h3, fun ρ w a b hr ha hb => ?_⟩
    rw [ed] at ha
    cases ha
    exact ⟨goInt 0, w, nothing ρ w b _ none 0 0 hr hb rfl (.inr rfl), goInt_V 0, hr, Ext.refl _ _ _⟩
  · have h3 : frc (ifn (Nat.ble n dl) n dl) (cp4 sz k o l S K) = true := h3
    rw [frc_eq] at h3
    have hmin : ifn (Nat.ble n dl) n dl = Nat.min n dl := by
      rw [ble_eq]
      by_cases hc : n ≤ dl
      · simp [hc, ifn, Nat.min_eq_left hc]
      · simp [hc, ifn, Nat.min_eq_right (Nat.le_of_not_le hc)]
    rw [hmin] at h3
    by_cases h0 : Nat.min n dl = 0
    · have e : cp4 sz k o l S K (Nat.min n dl) = ifb (Nat.beq (Nat.min n dl) 0) (K (.i .i64 (Int.ofNat 0)) S) (tak (Nat.mul (Nat.min n dl) sz) l (cp6 k o (Nat.min n dl) S K)) := rfl
      rw [e, h0] at h3
      have h3 : K (.i .i64 (Int.ofNat 0)) S = true := h3
      refine ⟨_, S.h, by rw [St.setHn_same]; exact h3, fun ρ w a b hr ha hb => ?_⟩
      rw [ed] at ha
      obtain ⟨L, a', cap, hk, rfl, _⟩ := ha.sl_inv
      have hz : n = 0 ∨ dl = 0 := by
        have h0 : min n dl = 0 := h0
        omega
      exact ⟨goInt 0, w, nothing ρ w b _ (some a') dl cap hr hb rfl hz, goInt_V 0, hr, Ext.refl _ _ _⟩
    · have e : cp4 sz k o l S K (Nat.min n dl) = ifb (Nat.beq (Nat.min n dl) 0) (K (.i .i64 (Int.ofNat 0)) S) (tak (Nat.mul (Nat.min n dl) sz) l (cp6 k o (Nat.min n dl) S K)) := rfl
      rw [e, ifb_eq, beqN_eq, decide_eq_false h0] at h3
      simp only [Bool.false_eq_true, if_false] at h3
      rw [tak_eq] at h3
      simp only [Bool.and_eq_true] at h3
      have h4 : wr S k o (l.take (Nat.mul (Nat.min n dl) sz)) (K (.i .i64 (Int.ofNat (Nat.min n dl)))) = true := h3.2
      obtain ⟨h', h5, h6⟩ := wr_ok (P := P) h4
      refine ⟨_, h', h5, fun ρ w a b hr ha hb => ?_⟩
      rw [ed] at ha
      obtain ⟨L, a', cap, hk, rfl, hn, hadr⟩ := ha.sl_inv
      have hdl : dl ≠ 0 := fun e => h0 (by rw [e]; simp)
      have := hadr (by omega)
      subst this
      obtain ⟨g1, g2, cs, g3, g4, g5⟩ := h2 ρ S.nx w b hr hb
      obtain ⟨w', r1, r2, r3⟩ := h6 ρ S.nx w L (cs.take (Nat.mul (Nat.min n dl) sz)) hr hk (g4.take _) (fun x hx => g2 x (List.mem_of_mem_take hx))
      have g5' : (Builtin.firstCells sz (min n dl) b).run P w = .ok (cs.take (min n dl * sz)).toArray w := g5 _ (Nat.min_le_left _ _) w.drawn
      have r1' : (storeCells ⟨L.blk, L.off + o, none⟩ (cs.take (min n dl * sz)) 0).run P w = .ok () w' := r1 0 (L.off + o) rfl
      exact ⟨goInt (Nat.min n dl), w', by simp [Builtin.copy_, run_underlying hd, g1, run_sz hs, g5', r1'], goInt_V _, r2, r3⟩
end Go.Ev
set_option linter.constructorNameAsVariable false
namespace Go.Ev
open Go
variable {P : Program} {w : World} {ρ : Ren} {h : Heap} {nx : BK}

/-! ### append, as the model runs it -/
/-- slices and strings -/
def rowT : TypeDesc → Bool
  | .slice _ | .string => true
  | _ => false
theorem ap_in (sT xT ty e : TypeId) (hs : P.underlying sT = some (.slice e)) (d : TypeDesc) (hx : P.underlying xT = some d) (hn : rowT d = true) (sz : Nat) (hsz : szOf P e = some sz)
    (base : Option Addr) (len cap n : Nat) (b : Value) (cs : Array Value) (hlen : (Builtin.lenOf b).run P w = .ok n w) (hf : (Builtin.firstCells sz n b).run P w = .ok cs w) (hle : len + n ≤ cap) (w' : World)
    (hst : match base with | some a => (storeCells (a.add (len * sz)) cs.toList).run P w = .ok () w' | none => w' = w) :
    (Builtin.append_ #[sT, xT] ty #[.slice base len cap, b]).run P w = .ok (.slice base (len + n) cap) w' := by
  cases base with
  | none =>
    have hst : w' = w := hst
    subst hst
    cases d <;> simp only [rowT, Bool.false_eq_true] at hn
    all_goals simp [Builtin.append_, run_underlying hs, run_sz hsz, run_underlying hx, hlen, hle, hf]
  | some a =>
    have hst : (storeCells (a.add (len * sz)) cs.toList).run P w = .ok () w' := hst
    cases d <;> simp only [rowT, Bool.false_eq_true] at hn
    all_goals simp [Builtin.append_, run_underlying hs, run_sz hsz, run_underlying hx, hlen, hle, hf, hst]
theorem grow_le (n : Nat) : ∀ (r c : Nat), c ≤ 1000000 → r ≤ 4 → Builtin.growBy n r c ≤ 8000000 := by
  intro r c hc hr
  match r, hr with
  | 0, _ => simp [Builtin.growBy]; omega
  | 1, _ => simp only [Builtin.growBy]; split <;> omega
  | 2, _ => simp only [Builtin.growBy]; repeat' split
            all_goals omega
  | 3, _ => simp only [Builtin.growBy]; repeat' split
            all_goals omega
  | 4, _ => simp only [Builtin.growBy]; repeat' split
            all_goals omega
theorem next_le (need cap : Nat) (h1 : need ≤ 1000000) (h2 : cap < need) : Builtin.nextslicecap need cap ≤ 8000000 := by
  unfold Builtin.nextslicecap
  split
  · omega
  · split
    · omega
    · exact grow_le need 4 cap (by omega) (by omega)
theorem ap_new (sT xT ty e : TypeId) (hs : P.underlying sT = some (.slice e)) (d : TypeDesc) (hx : P.underlying xT = some d) (hn : rowT d = true) (sz : Nat) (hsz : szOf P e = some sz)
    (z : Value) (hz : zeroC P e = some z) (hby : byteT P e = true)
    (base : Option Addr) (len cap n : Nat) (b : Value) (old cs : Array Value) (hlen : (Builtin.lenOf b).run P w = .ok n w) (hf : ∀ n', (Builtin.firstCells sz n b).run P { w with drawn := n' } = .ok cs { w with drawn := n' })
    (ho : ∀ n', (Builtin.firstCells sz len (.slice base len cap)).run P { w with drawn := n' } = .ok old { w with drawn := n' }) (hle : ¬ len + n ≤ cap) (hbig : len + n ≤ 1000000) :
    ∃ c rest, len + n ≤ c ∧ rest.size = (c - (len + n)) * z.cells.size ∧
      (Builtin.append_ #[sT, xT] ty #[.slice base len cap, b]).run P w = .ok (.slice (some ⟨w.heap.size, 0, none⟩) (len + n) c) { w with heap := w.heap.push (.cells (old ++ cs ++ rest) e), drawn := w.drawn + 1 } := by
  cases hi : P.info? e with
  | none => simp [byteT, hi] at hby
  | some i =>
    have hi2 : i.bytes ≤ 1048576 := by simpa [byteT, hi] using hby
    have hty : ∀ w, (typeInfo e).run P w = .ok i w := fun w => by simp [typeInfo, program, hi, Sem.run]
    have hc : len + n ≤ grownCap w (len + n) cap e := cap_ge _ _ _ _
    refine ⟨grownCap w (len + n) cap e, Builtin.zeroCells z.cells (grownCap w (len + n) cap e - (len + n)), hc, by simp [Builtin.zeroCells], ?_⟩
    have c1 : ¬ (((len + n : Nat) : Int) > IntKind.i64.max) := by rw [IntKind.max_i64]; omega
    have c2 : ¬ (Builtin.nextslicecap (len + n) cap * i.bytes > 2 ^ 48) := by
      have h1 := next_le (len + n) cap hbig (by omega)
      have := Nat.mul_le_mul h1 hi2
      omega
    have hf' := hf (w.drawn + 1)
    have ho' := ho (w.drawn + 1)
    have hz' := run_zero (P := P) hz
    have c1' : ¬ (9223372036854775807 < ((len : Int) + (n : Int))) := by omega
    have c2' : ¬ (281474976710656 < Builtin.nextslicecap (len + n) cap * i.bytes) := by omega
    cases d <;> simp only [rowT, Bool.false_eq_true] at hn
    all_goals
      have hf'' : (Builtin.firstCells sz n b).run P w.drew = .ok cs w.drew := hf'
      have ho'' : (Builtin.firstCells sz len (.slice base len cap)).run P w.drew = .ok old w.drew := ho'
      have goal : (Builtin.append_ #[sT, xT] ty #[.slice base len cap, b]).run P w = .ok (.slice (some ⟨w.heap.size, 0, none⟩) (len + n) (grownCap w (len + n) cap e)) (w.drew.alloc (.cells (old ++ cs ++ Builtin.zeroCells z.cells (grownCap w (len + n) cap e - (len + n))) e)) := by
        simp [Builtin.append_, run_underlying hs, run_sz hsz, run_underlying hx, hlen, hle, hty, c1', c2', Question.forced, hf'', ho'', hz', newRow, grownCap]
      exact goal
end Go.Ev
set_option linter.constructorNameAsVariable false
namespace Go.Ev
open Go
variable {P : Program} {w : World} {ρ : Ren} {h : Heap} {nx : BK}

/-! ### append, as it is evaluated -/
theorem new_no {ob : Ob} {S : St} {K : BK → St → Bool} (hh : new ob S K = true) : hat S.h S.nx = .no ∧ hput S.h S.nx ob (ne1 S.nx S K) = true := by
  have hh : ifb (isNo (hat S.h S.nx)) (hput S.h S.nx ob (ne1 S.nx S K)) false = true := by
    have e : new ob S K = bkK S.nx (ne0 ob S K) := rfl
    rw [e] at hh
    generalize S.nx = k at *
    cases k <;> exact hh
  obtain ⟨h1, h2⟩ := ifb_true hh
  refine ⟨?_, h2⟩
  cases ho : hat S.h S.nx with
  | no => rfl
  | cells l => rw [ho] at h1; cases h1
  | map es => rw [ho] at h1; cases h1
  | it _ _ _ _ => rw [ho] at h1; cases h1
theorem new_inv {ob : Ob} {S : St} {K : BK → St → Bool} (hh : new ob S K = true) :
    ∃ h' nx', (∀ k, hat h' k = if k = S.nx then ob else hat S.h k) ∧ nx'.val = S.nx.val + 1 ∧ K S.nx (S.setHn h' nx') = true := by
  have hh := (new_no hh).2
  obtain ⟨h', e1, e2⟩ := hput_ex S.h S.nx ob
  rw [e1] at hh
  obtain ⟨nx', e3, e4⟩ := binc_ex S.nx
  have e5 : S.withHn h' nx' (K S.nx) = true := (e4 (ne2 S.nx S K h')).symm.trans (show binc S.nx (ne2 S.nx S K h') = true from hh)
  rw [St.withHn_eq] at e5
  exact ⟨h', nx', e2, e3, e5⟩
theorem new_rel {h' : Heap} {nx' : BK} {ob : Ob} (hr : Rel ρ h nx w) (e2 : ∀ k, hat h' k = if k = nx then ob else hat h k) (e3 : nx'.val = nx.val + 1) {mk : BK → AV} {w' : World} {c : Value} {L : Loc}
    (hm : Made nx ob mk ρ w w' c L) : Rel (ρ.put nx L) h' nx' w' ∧ Ext ρ nx w (ρ.put nx L) nx' w' ∧ V (ρ.put nx L) (mk nx) c := by
  have hn := hr.notYet
  have hle := Ren.le_put (L := L) hn
  obtain ⟨hv, hob⟩ := hm.val (ρ.put nx L) hle (Ren.put_same ρ nx L)
  have hg := hr.grow e2 (nx' := nx') (by omega)
  refine ⟨hg.birth hn (by omega) hm.grown hm.blk ?_ hm.room, ?_, hv⟩
  · rw [e2, if_pos rfl]; exact hob
  · have hx : Ext ρ nx w ρ nx' w := ⟨Ren.le_refl _, by omega, rfl, rfl, rfl, Nat.le_refl _, fun _ _ _ => rfl, fun _ _ hb => .inl hb⟩
    exact hx.birth hn (Nat.le_refl _) hm.grown hm.blk
/-- the value of a new slice whose room is not known -/
theorem slu_val (k : BK) (w : World) (n c sz m s : Nat) (h0 : 0 < sz) (hn : n ≤ c) (hs : s = n * sz) (hm : m = c * sz) (ρ' : Ren) (hk : ρ' k = some ⟨w.heap.size, 0, s, m⟩) :
    V ρ' (.sl k 0 n (.un sz)) (.slice (some ⟨w.heap.size, 0, none⟩) n c) := by
  refine .slu k 0 n c sz _ _ hk hn (fun _ => rfl) ?_ ?_ h0
  · show s ≤ 0 + c * sz
    have := Nat.mul_le_mul_right sz hn
    omega
  · show 0 + c * sz ≤ m
    omega
/-- what is appended makes a new block -/
theorem grown_row (k : BK) (ρ : Ren) (w : World) (e : TypeId) (sz : Nat) (h0 : 0 < sz) (l : List AV) (cs : List Value) (rest : Array Value) (need c : Nat) (hv : Vs ρ l cs) (h1 : ∀ x ∈ l, x.one = true) (hl : l.length = need * sz) (hc : need ≤ c)
    (hr : rest.size = (c - need) * sz) (d : Nat) (mk : BK → AV) (hmk : mk k = .sl k 0 need (.un sz)) (all : Array Value) (hall : all = cs.toArray ++ rest) (g : Tg) (hg : g = .o ∨ g = .r e) :
    ∃ L, Made k (.cells g l) mk ρ w { w with heap := w.heap.push (.cells all e), drawn := d } (.slice (some ⟨w.heap.size, 0, none⟩) need c) L := by
  subst hall
  have hlc := hv.1
  have hsz : (cs.toArray ++ rest).size = c * sz := by
    simp only [Array.size_append, List.size_toArray, hr]
    rw [← hlc, hl, ← Nat.add_mul]
    congr 1
    omega
  refine ⟨_, made_row k mk ρ w d e l (cs.toArray ++ rest) (0, 0) (c * sz) _ ?_ h1 hsz.symm (by rw [hl]; exact Nat.mul_le_mul_right sz hc) (.inl rfl) (fun ρ' _ hk => ?_) g (hg.elim .inl fun h => .inr (.inr h))⟩
  · have : (cs.toArray ++ rest).toList.take l.length = cs := by
      rw [Array.toList_append, hlc]
      simp
    rw [this]
    exact hv
  · rw [hmk]
    exact slu_val k w need c sz _ _ h0 hc hl rfl ρ' hk
theorem load_none (sz cap : Nat) (w : World) : (Builtin.firstCells sz 0 (.slice none 0 cap)).run P w = .ok #[] w := rfl
/-- the types of an append -/
structure ApT (P : Program) (sT xT e : TypeId) (d : TypeDesc) (sz : Nat) (z : Value) : Prop where
  hs : P.underlying sT = some (.slice e)
  hx : P.underlying xT = some d
  hn : rowT d = true
  hsz : szOf P e = some sz
  h0 : 0 < sz
  hz : zeroC P e = some z
  hzs : z.cells.size = sz
  hby : byteT P e = true
/-- what effects come to -/
def Eff (P : Program) (S : St) (v : AV) (h' : Heap) (nx' : BK) (ρ : Ren) (w : World) (s : Sem Value) : Prop :=
  ∃ c w' ρ', s.run P w = .ok c w' ∧ V ρ' v c ∧ Rel ρ' h' nx' w' ∧ Ext ρ S.nx w ρ' nx' w'
theorem apIn_ok {sT xT ty e : TypeId} {d : TypeDesc} {sz : Nat} {z : Value} (T : ApT P sT xT e d sz z) {S : St} {k : BK} {o len n : Nat} {cp : Cp} {l : List AV} {K : KV} (hn : n ≠ 0) (hh : apIn sz k o len n cp l S K = true) :
    ∃ h', K (.sl k o (len + n) cp) (S.setHn h' S.nx) = true ∧ ∀ ρ w a b cs, Rel ρ S.h S.nx w → V ρ (.sl k o len cp) a → (Builtin.lenOf b).run P w = .ok n w → Vs ρ l cs → (∀ x ∈ l, x.one = true) →
      (Builtin.firstCells sz n b).run P w = .ok cs.toArray w → (∀ base cap, a = .slice base len cap → len + n ≤ cap) → Eff P S (.sl k o (len + n) cp) h' S.nx ρ w (Builtin.append_ #[sT, xT] ty #[a, b]) := by
  obtain ⟨h', h1, h2⟩ := wr_ok (P := P) (show wr S k (Nat.add o (Nat.mul len sz)) l (api1 k o len n cp K) = true from hh)
  have h1 : frc (len + n) (api2 k o cp K (S.setHn h' S.nx)) = true := h1
  rw [frc_eq] at h1
  refine ⟨h', h1, fun ρ w a b cs hr ha hlen hv hone hf hcap => ?_⟩
  obtain ⟨L, a', cap, hk, rfl, hle, hadr⟩ := ha.sl_inv
  have hc2 := hcap _ _ rfl
  have := hadr (by omega)
  subst this
  obtain ⟨w', r1, r2, r3⟩ := h2 ρ S.nx w L cs hr hk hv hone
  have hst := r1 0 (L.off + (o + len * sz)) rfl
  refine ⟨.slice (some ⟨L.blk, L.off + o, none⟩) (len + n) cap, w', ρ, ?_, ?_, r2, r3⟩
  · exact ap_in (P := P) sT xT ty e T.hs d T.hx T.hn sz T.hsz _ len cap n b cs.toArray hlen hf hc2 w' (by
      show (storeCells ((⟨L.blk, L.off + o, none⟩ : Addr).add (len * sz)) cs.toArray.toList).run P w = .ok () w'
      rw [add_loc, Nat.add_assoc]
      exact hst)
  · cases ha with
    | slk _ _ _ c L' a hk' hn' ha' =>
      exact .slk k o (len + n) _ L _ hk hc2 (fun _ => rfl)
    | slu _ _ _ c sz' L' a hk' hn' ha' hs' hm' h0' =>
      rw [hk] at hk'
      obtain rfl := Option.some.inj hk'
      exact .slu k o (len + n) _ sz' L _ hk hc2 (fun _ => rfl) hs' hm' h0'
/-- a new block, in the world too -/
theorem apNew_made {sT xT ty e : TypeId} {d : TypeDesc} {sz : Nat} {z : Value} (T : ApT P sT xT e d sz z) {base : Option Addr} {len cap n : Nat} {b : Value} {l m : List AV} {os cs : List Value} (k : BK)
    (hlen : (Builtin.lenOf b).run P w = .ok n w) (hf : ∀ n', (Builtin.firstCells sz n b).run P { w with drawn := n' } = .ok cs.toArray { w with drawn := n' })
    (ho : ∀ n', (Builtin.firstCells sz len (.slice base len cap)).run P { w with drawn := n' } = .ok os.toArray { w with drawn := n' })
    (hvo : Vs ρ m os) (hvn : Vs ρ l cs) (h1 : ∀ x ∈ m, x.one = true) (h2 : ∀ x ∈ l, x.one = true) (hlm : m.length = len * sz) (hll : l.length = n * sz) (hle : ¬ len + n ≤ cap) (hbig : len + n ≤ 1000000) (g : Tg) (hg : g = .o ∨ g = .r e) :
    ∃ c w' L, (Builtin.append_ #[sT, xT] ty #[.slice base len cap, b]).run P w = .ok c w' ∧ Made k (.cells g (m ++ l)) (fun k => .sl k 0 (len + n) (.un sz)) ρ w w' c L := by
  obtain ⟨c, rest, g1, g2, g3⟩ := ap_new (P := P) (w := w) sT xT ty e T.hs d T.hx T.hn sz T.hsz z T.hz T.hby base len cap n b os.toArray cs.toArray hlen hf ho hle hbig
  obtain ⟨L, hL⟩ := grown_row k ρ w e sz T.h0 (m ++ l) (os ++ cs) rest (len + n) c (hvo.append hvn) (fun x hx => by rcases List.mem_append.1 hx with h | h; exact h1 x h; exact h2 x h)
    (by rw [List.length_append, hlm, hll, Nat.add_mul]) g1 (by rw [g2, T.hzs]) (w.drawn + 1) (fun k => .sl k 0 (len + n) (.un sz)) rfl (os.toArray ++ cs.toArray ++ rest) (by simp) g hg
  exact ⟨_, _, L, g3, hL⟩
/-- grown in place in the world, but known as a new block, while the elder one is known no more -/
theorem apHere {sT xT ty e : TypeId} {d : TypeDesc} {sz : Nat} {z : Value} (T : ApT P sT xT e d sz z) {h1 h2 : Heap} {nx' : BK} {k : BK} {o len n cap : Nat} {a : Addr} {b : Value} {l : List AV} {cs : List Value} {cl : List AV}
    (hr : Rel ρ h nx w) (hv : V ρ (.sl k o len (.un sz)) (.slice (some a) len cap)) (hn : n ≠ 0) (hcap : len + n ≤ cap) {g g' : Tg} (hob : hat h k = .cells g cl) (hgg : g' = .o ∨ (g' = g ∧ o = 0)) (hcl : len * sz = 0 ∨ o + len * sz ≤ cl.length)
    (e1 : ∀ b, hat h1 b = if b = nx then .cells g' ((cl.drop o).take (len * sz) ++ l) else hat h b) (e2 : ∀ b, hat h2 b = if b = k then .no else hat h1 b) (e3 : nx'.val = nx.val + 1)
    (hlen : (Builtin.lenOf b).run P w = .ok n w) (hf : (Builtin.firstCells sz n b).run P w = .ok cs.toArray w) (hvs : Vs ρ l cs) (hone : ∀ x ∈ l, x.one = true) (hll : l.length = n * sz) :
    ∃ c w' ρ', (Builtin.append_ #[sT, xT] ty #[.slice (some a) len cap, b]).run P w = .ok c w' ∧ V ρ' (.sl nx 0 (len + n) (.un sz)) c ∧ Rel ρ' h2 nx' w' ∧ Ext ρ nx w ρ' nx' w' := by
  cases hv with
  | slu _ _ _ _ _ L _ hk hle hadr hsn hm h0 =>
  have := hadr (by omega)
  subst this
  have hnx := hr.notYet
  have hkn : k ≠ nx := fun e => by rw [e] at hk; rw [hk] at hnx; cases hnx
  have hmul : (len + n) * sz ≤ cap * sz := Nat.mul_le_mul_right sz hcap
  have hadd : (len + n) * sz = len * sz + n * sz := Nat.add_mul _ _ _
  have hvl := hvs.1
  have hcc : ∀ v ∈ cs, v.oneCell' = true := by
    intro v hv'
    obtain ⟨i, hi, rfl⟩ := List.mem_iff_getElem.1 hv'
    exact (hvs.2 i (l[i]'(by omega)) cs[i] (by simp [show i < l.length by omega]) (by simp [hi])).one_cell (hone _ (List.getElem_mem _))
  have hroom : ∀ j, j < cs.length → Room w L.blk (L.off + (o + len * sz) + j) := by
    intro j hj
    have := hr.room k L hk (by rw [hob]; simp) (o + len * sz + j) (by omega)
    rwa [← Nat.add_assoc] at this
  have hst := run_storeCells_cells (P := P) L.blk (L.off + (o + len * sz)) cs 0 w (fun j hj => by simpa using (hroom j hj).1) (fun j hj => by simpa using (hroom j hj).2) hcc
  rw [Nat.add_zero] at hst
  obtain ⟨q1, q2, q3, _⟩ := sc_rest L.blk cs (L.off + (o + len * sz)) w
  have hnxn : nx ≠ k := fun e => hkn e.symm
  have hat_nx : hat h2 nx = .cells g' ((cl.drop o).take (len * sz) ++ l) := by rw [e2, if_neg hnxn, e1, if_pos rfl]
  have hat_k : hat h2 k = .no := by rw [e2, if_pos rfl]
  have hat_b : ∀ b, b ≠ k → b ≠ nx → hat h2 b = hat h b := fun b g1 g2 => by rw [e2, if_neg g1, e1, if_neg g2]
  have hlive : hat h k ≠ .no := by rw [hob]; simp
  have hold : ((cl.drop o).take (len * sz)).length = len * sz := by
    rcases hcl with hq | hq
    · rw [hq]; rfl
    · simp; omega
  have hkeep : ∀ b i, Room w b i → Room (w.setCells L.blk (L.off + (o + len * sz)) cs) b i := fun b i hb => ⟨sc_isSome _ _ _ _ _ hb.1, by rw [World.frozen?_setCells]; exact hb.2⟩
  have hle' : ρ.le (ρ.put nx ⟨L.blk, L.off + o, (len + n) * sz, L.m - o⟩) := Ren.le_put hnx
  have hcase : ∀ b L', (ρ.put nx ⟨L.blk, L.off + o, (len + n) * sz, L.m - o⟩) b = some L' → (b = nx ∧ L' = ⟨L.blk, L.off + o, (len + n) * sz, L.m - o⟩) ∨ (b ≠ nx ∧ ρ b = some L') := by
    intro b L' hb
    unfold Ren.put at hb
    split at hb
    · rename_i e; exact .inl ⟨e, (Option.some.inj hb).symm⟩
    · rename_i e; exact .inr ⟨e, hb⟩
  refine ⟨.slice (some ⟨L.blk, L.off + o, none⟩) (len + n) cap, w.setCells L.blk (L.off + (o + len * sz)) cs, ρ.put nx ⟨L.blk, L.off + o, (len + n) * sz, L.m - o⟩, ?_, ?_, ⟨?_, ?_, ?_, ?_, ?_⟩, ⟨hle', by omega, q1, q2, q3, by rw [sc_size]; exact Nat.le_refl _, fun i _ hno => sc_other _ _ _ _ _ (fun e => hno k L hk e.symm), ?_⟩⟩
  · exact ap_in (P := P) sT xT ty e T.hs d T.hx T.hn sz T.hsz _ len cap n b cs.toArray hlen hf hcap _ (by
      show (storeCells ((⟨L.blk, L.off + o, none⟩ : Addr).add (len * sz)) cs.toArray.toList).run P w = _
      rw [add_loc, Nat.add_assoc]
      exact hst)
  · refine .slu nx 0 (len + n) cap sz _ _ (Ren.put_same _ _ _) hcap (fun _ => rfl) ?_ ?_ h0
    · show (len + n) * sz ≤ 0 + cap * sz; omega
    · show 0 + cap * sz ≤ L.m - o; omega
  · intro b L' hb
    rcases hcase b L' hb with ⟨rfl, rfl⟩ | ⟨hne, hb⟩
    · rw [hat_nx]
      refine ⟨by rw [List.length_append, hold]; show _ ≤ (len + n) * sz; omega, fun i x hx => ?_, ?_⟩
      rotate_left
      · rcases hgg with rfl | ⟨rfl, h0o⟩
        · trivial
        · have hob' := hr.ob k L hk
          rw [hob] at hob'
          have ht := sc_tag L.blk cs (L.off + (o + len * sz)) w hob'.2.2
          cases g' with
          | o => trivial
          | x t n => exact ⟨by show L.off + o = 0; have := ht.1; omega, ht.2⟩
          | r t => exact ⟨by show L.off + o = 0; have := ht.1; omega, ht.2⟩
      rw [World.frozen?_setCells]
      by_cases hi : i < len * sz
      · rw [List.getElem?_append_left (by omega), List.getElem?_take, if_pos hi, List.getElem?_drop] at hx
        have hob' := hr.ob k L hk
        rw [hob] at hob'
        obtain ⟨p1, p2, c, p3, p4⟩ := hob'.2.1 (o + i) x hx
        have e : L.off + o + i = L.off + (o + i) := Nat.add_assoc _ _ _
        refine ⟨p1, by show w.frozen? ⟨L.blk, L.off + o + i, none⟩ = false; rw [e]; exact p2, c, ?_, p4.mono hle'⟩
        rw [World.cell?_setCells_out _ _ _ _ _ (fun _ _ => .inl (by show L.off + o + i < _; omega))]
        show w.cell? ⟨L.blk, L.off + o + i, none⟩ = some c
        rw [e]; exact p3
      · rw [List.getElem?_append_right (by omega), hold] at hx
        have hj : i - len * sz < cs.length := by
          have := (List.getElem?_eq_some_iff.1 hx).1
          omega
        have e : L.off + o + i = L.off + (o + len * sz) + (i - len * sz) := by omega
        refine ⟨hone x (List.mem_of_getElem? hx), ?_, cs[i - len * sz], ?_, (hvs.2 _ x _ hx (by simp [hj])).mono hle'⟩
        · show w.frozen? ⟨L.blk, L.off + o + i, none⟩ = false
          rw [e]; exact (hroom _ hj).2
        · have := World.cell?_setCells_in L.blk cs (L.off + (o + len * sz)) w (fun j hj => (hroom j hj).1) (i - len * sz) hj
          show World.cell? _ ⟨L.blk, L.off + o + i, none⟩ = _
          rw [e]; exact this
    · by_cases hbk : b = k
      · rw [hbk, hat_k]; trivial
      · rw [hat_b b hbk hne]
        by_cases hno : hat h b = .no
        · rw [hno]; trivial
        · exact (hr.ob b L' hb).of_block hle' (sc_other _ _ _ _ _ (fun he => hbk (hr.inj b k L' L hb hk hno hlive he)))
  · intro b L' hb
    rw [sc_size]
    rcases hcase b L' hb with ⟨rfl, rfl⟩ | ⟨hne, hb⟩
    · exact hr.lt k L hk
    · exact hr.lt b L' hb
  · intro b L' hb
    rcases hcase b L' hb with ⟨rfl, rfl⟩ | ⟨hne, hb⟩
    · omega
    · have := hr.fresh b L' hb; omega
  · intro b b' L1 L2 g1 g2 n1 n2 he
    have nk : ∀ b, hat h2 b ≠ .no → b ≠ k := fun b hb e => hb (by rw [e]; exact hat_k)
    rcases hcase b L1 g1 with ⟨r1, f1⟩ | ⟨hne, g1⟩
    · rcases hcase b' L2 g2 with ⟨r2, f2⟩ | ⟨hne', g2⟩
      · exact r1.trans r2.symm
      · exfalso
        have hb' := nk b' n2
        rw [hat_b b' hb' hne'] at n2
        subst f1
        exact hb' (hr.inj b' k L2 L g2 hk n2 hlive he.symm)
    · have hb := nk b n1
      rw [hat_b b hb hne] at n1
      rcases hcase b' L2 g2 with ⟨r2, f2⟩ | ⟨hne', g2⟩
      · exfalso
        subst f2
        exact hb (hr.inj b k L1 L g1 hk n1 hlive he)
      · have hb' := nk b' n2
        rw [hat_b b' hb' hne'] at n2
        exact hr.inj b b' L1 L2 g1 g2 n1 n2 he
  · intro b L' hb hn i hi
    rcases hcase b L' hb with ⟨rfl, rfl⟩ | ⟨hne, hb⟩
    · refine hkeep _ _ ?_
      have hi : i < L.m - o := hi
      have := hr.room k L hk hlive (o + i) (by omega)
      show Room w L.blk (L.off + o + i)
      rw [Nat.add_assoc]; exact this
    · have hbk : b ≠ k := fun e => hn (by rw [e]; exact hat_k)
      rw [hat_b b hbk hne] at hn
      exact hkeep _ _ (hr.room b L' hb hn i hi)
  · intro b L' hb
    rcases hcase b L' hb with ⟨rfl, rfl⟩ | ⟨hne, hb⟩
    · exact .inr ⟨Nat.le_refl _, .inr ⟨k, L, hk, rfl⟩⟩
    · exact .inl hb
end Go.Ev
set_option linter.constructorNameAsVariable false
namespace Go.Ev
open Go
variable {P : Program} {w : World} {ρ : Ren} {h : Heap} {nx : BK}

theorem St.setHn_twice (S : St) (a b : Heap) (x y : BK) : (S.setHn a x).setHn b y = S.setHn b y := by cases S; rfl
/-- what an append to a new block is evaluated to -/
theorem tgK_inv {g : Tg} {e : Nat} {K : Tg → Bool} (hh : tgK g e K = true) : ∃ g', (g' = .o ∨ g' = .r e ∧ g = .r e) ∧ K g' = true := by
  cases g with
  | o => exact ⟨.o, .inl rfl, hh⟩
  | x t n => exact ⟨.o, .inl rfl, hh⟩
  | r t =>
    have hh : ifb (Nat.beq t e) (K (.r e)) (K .o) = true := hh
    rw [ifb_eq] at hh
    cases hq : Nat.beq t e with
    | true =>
      rw [hq] at hh
      have := beq_true hq
      subst this
      exact ⟨.r t, .inr ⟨rfl, rfl⟩, hh⟩
    | false =>
      rw [hq] at hh
      exact ⟨.o, .inl rfl, hh⟩
theorem apNew_inv {e sz : Nat} {k : BK} {o len n : Nat} {l : List AV} {S : St} {K : KV} (hh : apNew e sz k o len n l S K = true) :
    ∃ m h1 nx' g, (g = .o ∨ (g = .r e ∧ obT (hat S.h k) = .r e ∧ o = 0)) ∧ len + n ≤ 1000000 ∧ (len * sz = 0 → m = []) ∧ (len * sz ≠ 0 → ∃ g0 cl, hat S.h k = .cells g0 cl ∧ o + len * sz ≤ cl.length ∧ m = (cl.drop o).take (len * sz)) ∧
      (∀ b, hat h1 b = if b = S.nx then .cells g (m ++ l) else hat S.h b) ∧ nx'.val = S.nx.val + 1 ∧ K (.sl S.nx 0 (len + n) (.un sz)) (S.setHn h1 nx') = true := by
  obtain ⟨h1, h2⟩ := ifb_true (show ifb (Nat.ble (Nat.add len n) 1000000) (cellsAt S.h (Nat.mul len sz) (apn1 e sz k o len n l S K) k o) false = true from hh)
  rw [ble_eq, decide_eq_true_eq] at h1
  have fin : ∀ m, apn1 e sz k o len n l S K m = true → ∃ h1 nx' g, (g = .o ∨ (g = .r e ∧ obT (hat S.h k) = .r e ∧ o = 0)) ∧ (∀ b, hat h1 b = if b = S.nx then .cells g (m ++ l) else hat S.h b) ∧ nx'.val = S.nx.val + 1 ∧ K (.sl S.nx 0 (len + n) (.un sz)) (S.setHn h1 nx') = true := by
    intro m hm
    have hm : app m l (apn2 e sz k o len n S K) = true := hm
    rw [app_eq] at hm
    have hm : ifb (Nat.beq o 0) (tgK (obT (hat S.h k)) e (apn4 sz len n S K (m ++ l))) (apn4 sz len n S K (m ++ l) .o) = true := hm
    obtain ⟨g, hg, hm⟩ : ∃ g, (g = .o ∨ (g = .r e ∧ obT (hat S.h k) = .r e ∧ o = 0)) ∧ apn4 sz len n S K (m ++ l) g = true := by
      rw [ifb_eq] at hm
      cases hq : Nat.beq o 0 with
      | true =>
        rw [hq] at hm
        obtain ⟨g', h1, h2⟩ := tgK_inv hm
        exact ⟨g', h1.imp id fun h => ⟨h.1, h.2, beq_true hq⟩, h2⟩
      | false =>
        rw [hq] at hm
        exact ⟨.o, .inl rfl, hm⟩
    obtain ⟨h', nx', e1, e2, e3⟩ := new_inv (show new (.cells g (m ++ l)) S (apn3 sz len n K) = true from hm)
    have e3 : frc (Nat.add len n) (api2 S.nx 0 (.un sz) K (S.setHn h' nx')) = true := e3
    rw [frc_eq] at e3
    exact ⟨h', nx', g, hg, e1, e2, e3⟩
  by_cases h0 : len * sz = 0
  · have h2 : cellsAt S.h (len * sz) (apn1 e sz k o len n l S K) k o = true := h2
    rw [h0] at h2
    obtain ⟨h', nx', g, hg, e1, e2, e3⟩ := fin [] (cellsAt_zero h2)
    exact ⟨[], h', nx', g, hg, h1, fun _ => rfl, fun hne => absurd h0 hne, e1, e2, e3⟩
  · obtain ⟨g0, cl, g1, g2, g3⟩ := cellsAt_inv h2 h0
    obtain ⟨h', nx', g, hg, e1, e2, e3⟩ := fin _ g3
    exact ⟨_, h', nx', g, hg, h1, fun e => absurd e h0, fun _ => ⟨g0, cl, g1, g2, rfl⟩, e1, e2, e3⟩
/-- the old cells of what is appended to -/
theorem old_ok (hr : Rel ρ h nx w) {k : BK} {o len cap : Nat} {cp : Cp} {a : Addr} (hv : V ρ (.sl k o len cp) (.slice (some a) len cap)) {sz : Nat} {m : List AV} (h1 : len * sz = 0 → m = [])
    (h2 : len * sz ≠ 0 → ∃ g0 cl, hat h k = .cells g0 cl ∧ o + len * sz ≤ cl.length ∧ m = (cl.drop o).take (len * sz)) :
    ∃ os : List Value, Vs ρ m os ∧ (∀ x ∈ m, x.one = true) ∧ m.length = len * sz ∧ ∀ n', (Builtin.firstCells sz len (.slice (some a) len cap)).run P { w with drawn := n' } = .ok os.toArray { w with drawn := n' } := by
  by_cases h0 : len * sz = 0
  · rw [h1 h0]
    exact ⟨[], Vs.nil _, by simp, by simp [h0], fun n' => by simp [Builtin.firstCells, h0, loadCells, loadCellsFrom]⟩
  · obtain ⟨_, cl, g1, g2, g3⟩ := h2 h0
    subst g3
    obtain ⟨L, a', cap', hk, e, hn, ha⟩ := hv.sl_inv
    obtain ⟨rfl, rfl⟩ : a' = a ∧ cap' = cap := by simp at e; exact ⟨e.1.symm, e.2.symm⟩
    have hl0 : len ≠ 0 := fun e => h0 (by rw [e]; simp)
    have := ha (by omega)
    subst this
    obtain ⟨cs, q1, q2, q3, q4⟩ := hr.row hk g1 g2
    refine ⟨cs, q2, q4, by simp; omega, fun n' => ?_⟩
    have := load_row (P := P) L.blk (L.off + o) cs { w with drawn := n' } q3
    rw [q1] at this
    exact this
theorem ap_ok {sT xT ty e : TypeId} {d : TypeDesc} {sz : Nat} {z : Value} (T : ApT P sT xT e d sz z) {S : St} {st : List AV} {s x : X} {K Q : KV} (hh : eAp e sz s x S st K Q = true) :
    ∃ v h' nx', K v (S.setHn h' nx') = true ∧ ∀ ρ w a b, Rel ρ S.h S.nx w → V ρ (opd s st S.e) a → V ρ (opd x st S.e) b → Eff P S v h' nx' ρ w (Builtin.append_ #[sT, xT] ty #[a, b]) := by
  obtain ⟨n, l, h1, hll, h2⟩ := src_ok (P := P) (show srcOf (opd x st S.e) sz S.h (ap2 e sz (opd s st S.e) S K) = true from hh)
  -- what is appended
  have src : ∀ ρ w b, Rel ρ S.h S.nx w → V ρ (opd x st S.e) b → (∀ w', (Builtin.lenOf b).run P w' = .ok n w') ∧ (∀ x ∈ l, x.one = true) ∧ ∃ cs : List Value, Vs ρ l cs ∧ (∀ n', (Builtin.firstCells sz n b).run P { w with drawn := n' } = .ok cs.toArray { w with drawn := n' }) := by
    intro ρ w b hr hb
    obtain ⟨g1, g2, cs, g3, g4, g5⟩ := h2 ρ S.nx w b hr hb
    refine ⟨g1, g2, cs, g4, fun n' => ?_⟩
    have := g5 n (Nat.le_refl _) n'
    rwa [List.take_of_length_le (by omega)] at this
  rcases asSl_inv (show asSl (opd s st S.e) (ifb (Nat.beq n 0) (K (.k .sln) S) (ifb (Nat.ble n 1000000) (new (.cells (.r e) l) S (apz sz n K)) false)) (ap3 e sz n l S K) = true from h1) with ⟨es, h3⟩ | ⟨k, o, len, cp, es, h3⟩
  · rw [ifb_eq, beqN_eq] at h3
    by_cases h0 : n = 0
    · subst h0
      simp only [decide_true, if_true] at h3
      refine ⟨_, S.h, S.nx, by rw [St.setHn_same]; exact h3, fun ρ w a b hr ha hb => ?_⟩
      rw [es] at ha
      cases ha
      obtain ⟨g1, g2, cs, g3, g4⟩ := src ρ w b hr hb
      exact ⟨_, w, ρ, ap_in (P := P) sT xT ty e T.hs d T.hx T.hn sz T.hsz none 0 0 0 b cs.toArray (g1 w) (g4 w.drawn) (Nat.le_refl _) w rfl, .sln, hr, Ext.refl _ _ _⟩
    · rw [decide_eq_false h0] at h3
      simp only [Bool.false_eq_true, if_false] at h3
      obtain ⟨h4, h5⟩ := ifb_true h3
      rw [ble_eq, decide_eq_true_eq] at h4
      obtain ⟨h', nx', e1, e2, e3⟩ := new_inv h5
      have e3 : K (.sl S.nx 0 n (.un sz)) (S.setHn h' nx') = true := e3
      refine ⟨_, h', nx', e3, fun ρ w a b hr ha hb => ?_⟩
      rw [es] at ha
      cases ha
      obtain ⟨g1, g2, cs, g3, g4⟩ := src ρ w b hr hb
      obtain ⟨c, w', L, q1, q2⟩ := apNew_made (P := P) (w := w) (ρ := ρ) (ty := ty) T (base := none) (len := 0) (cap := 0) (l := l) (m := []) (os := []) (cs := cs) S.nx (g1 w) g4 (fun n' => rfl) (Vs.nil _) g3 (by simp) g2 (by simp) hll (by omega) (by omega) (.r e) (.inr rfl)
      simp only [List.nil_append, Nat.zero_add] at q2
      obtain ⟨r1, r2, r3⟩ := new_rel hr e1 e2 q2
      exact ⟨c, w', _, q1, r3, r1, r2⟩
  · have h3 : ifb (Nat.beq n 0) (K (.sl k o len cp) S) (apc cp e sz k o len n l S K) = true := h3
    rw [ifb_eq, beqN_eq] at h3
    by_cases h0 : n = 0
    · subst h0
      simp only [decide_true, if_true] at h3
      refine ⟨_, S.h, S.nx, by rw [St.setHn_same]; exact h3, fun ρ w a b hr ha hb => ?_⟩
      rw [es] at ha
      obtain ⟨g1, g2, cs, g3, g4⟩ := src ρ w b hr hb
      have hl0 : l = [] := List.length_eq_zero_iff.1 (by simpa using hll)
      have hcs : cs = [] := by rw [hl0] at g3; exact g3.inv_nil
      obtain ⟨L, a', cap, hk, rfl, hle, hadr⟩ := ha.sl_inv
      refine ⟨_, w, ρ, ap_in (P := P) sT xT ty e T.hs d T.hx T.hn sz T.hsz (some a') len cap 0 b cs.toArray (g1 w) (g4 w.drawn) hle w ?_, ?_, hr, Ext.refl _ _ _⟩
      · show (storeCells _ cs.toArray.toList).run P w = _
        rw [hcs]; rfl
      · rw [Nat.add_zero]; exact ha
    · rw [decide_eq_false h0] at h3
      simp only [Bool.false_eq_true, if_false] at h3
      cases cp with
      | kn c =>
        have h3 : ifb (Nat.ble (Nat.add len n) c) (apIn sz k o len n (.kn c) l S K) (apNew e sz k o len n l S K) = true := h3
        rw [ifb_eq, ble_eq] at h3
        by_cases hc : len + n ≤ c
        · rw [show decide (Nat.add len n ≤ c) = true from decide_eq_true hc] at h3
          simp only [if_true] at h3
          obtain ⟨h', q1, q2⟩ := apIn_ok (P := P) (ty := ty) T h0 h3
          refine ⟨_, h', S.nx, q1, fun ρ w a b hr ha hb => ?_⟩
          rw [es] at ha
          obtain ⟨g1, g2, cs, g3, g4⟩ := src ρ w b hr hb
          refine q2 ρ w a b cs hr ha (g1 w) g3 g2 (g4 w.drawn) (fun base cap e => ?_)
          subst e
          cases ha
          exact hc
        · rw [show decide (Nat.add len n ≤ c) = false from decide_eq_false hc] at h3
          simp only [Bool.false_eq_true, if_false] at h3
          obtain ⟨m, h1', nx', g', hg', b1, b2, b3, e1, e2, e3⟩ := apNew_inv h3
          refine ⟨_, h1', nx', e3, fun ρ w a b hr ha hb => ?_⟩
          rw [es] at ha
          obtain ⟨g1, g2, cs, g3, g4⟩ := src ρ w b hr hb
          cases ha with
          | slk _ _ _ _ L a hk hle hadr =>
            obtain ⟨os, p1, p2, p3, p4⟩ := old_ok (P := P) hr (.slk k o len c L a hk hle hadr) b2 b3
            obtain ⟨c', w', L', q1, q2⟩ := apNew_made (P := P) (w := w) (ρ := ρ) (ty := ty) T S.nx (g1 w) g4 p4 p1 g3 p2 g2 p3 hll hc b1 g' (hg'.elim .inl fun h => .inr h.1)
            obtain ⟨r1, r2, r3⟩ := new_rel hr e1 e2 q2
            exact ⟨c', w', _, q1, r3, r1, r2⟩
      | un z' =>
        have h3 : ifb (Nat.beq z' sz) (apU e sz k o len n l S K) false = true := h3
        obtain ⟨hz, h3⟩ := ifb_true h3
        have := beq_true hz
        subst this
        obtain ⟨hlv, h3⟩ := ifb_true (show ifb (liveO (hat S.h k)) (ifb (Nat.ble (Nat.add o (Nat.mul (Nat.add len n) z')) (lenD (obL (hat S.h k)))) (apIn z' k o len n (.un z') l S K) (apNew e z' k o len n l S (kgone k K))) false = true from h3)
        cases hob : hat S.h k with
        | no => rw [hob] at hlv; cases hlv
        | map es => rw [hob] at hlv; cases hlv
        | it _ _ _ _ => rw [hob] at hlv; cases hlv
        | cells g cl =>
          rw [hob, ifb_eq, ble_eq, lenD_eq] at h3
          have e : obL (.cells g cl) = cl := rfl
          rw [e] at h3
          by_cases hc : o + (len + n) * z' ≤ cl.length
          · rw [show decide (Nat.add o (Nat.mul (Nat.add len n) z') ≤ cl.length) = true from decide_eq_true hc] at h3
            simp only [if_true] at h3
            obtain ⟨h', q1, q2⟩ := apIn_ok (P := P) (ty := ty) T h0 h3
            refine ⟨_, h', S.nx, q1, fun ρ w a b hr ha hb => ?_⟩
            rw [es] at ha
            obtain ⟨g1, g2, cs, g3, g4⟩ := src ρ w b hr hb
            refine q2 ρ w a b cs hr ha (g1 w) g3 g2 (g4 w.drawn) (fun base cap e => ?_)
            subst e
            cases ha with
            | slu _ _ _ _ _ L a hk hle hadr hsn hm hz0 =>
              have := hr.ob k L hk
              rw [hob] at this
              have h5 : cl.length ≤ L.n := this.1
              have : (len + n) * z' ≤ cap * z' := by omega
              exact Nat.le_of_mul_le_mul_right this hz0
          · rw [show decide (Nat.add o (Nat.mul (Nat.add len n) z') ≤ cl.length) = false from decide_eq_false hc] at h3
            simp only [Bool.false_eq_true, if_false] at h3
            obtain ⟨m, h1', nx', g', hg', b1, b2, b3, e1, e2, e3⟩ := apNew_inv h3
            have e3 : hput (S.setHn h1' nx').h k .no (wr3 (S.setHn h1' nx') (K (.sl S.nx 0 (len + n) (.un z')))) = true := e3
            obtain ⟨h2', f1, f2⟩ := hput_ex (S.setHn h1' nx').h k .no
            rw [f1] at e3
            have e3 : (S.setHn h1' nx').withH h2' (K (.sl S.nx 0 (len + n) (.un z'))) = true := e3
            rw [St.withH_eq, St.setH_eq, St.setHn_nx, St.setHn_twice] at e3
            rw [St.setHn_h] at f2
            refine ⟨_, h2', nx', e3, fun ρ w a b hr ha hb => ?_⟩
            rw [es] at ha
            obtain ⟨g1, g2, cs, g3, g4⟩ := src ρ w b hr hb
            obtain ⟨L, a', cap, hk, rfl, hle, hadr⟩ := ha.sl_inv
            by_cases hcap : len + n ≤ cap
            · have hcl : len * z' = 0 ∨ o + len * z' ≤ cl.length := by
                by_cases hq : len * z' = 0
                · exact .inl hq
                · right
                  obtain ⟨_, cl', x1, x2, _⟩ := b3 hq
                  rw [hob] at x1
                  cases x1
                  exact x2
              have hm : m = (cl.drop o).take (len * z') := by
                by_cases hq : len * z' = 0
                · rw [b2 hq, hq]; simp
                · obtain ⟨_, cl', x1, _, x3⟩ := b3 hq
                  rw [hob] at x1
                  cases x1
                  exact x3
              rw [hm] at e1
              exact apHere (P := P) (ty := ty) T hr ha h0 hcap hob (hg'.imp id fun h => ⟨by rw [h.1, ← h.2.1, hob]; rfl, h.2.2⟩) hcl e1 f2 e2 (g1 w) (g4 w.drawn) g3 g2 hll
            · obtain ⟨os, p1, p2, p3, p4⟩ := old_ok (P := P) hr ha b2 b3
              obtain ⟨c', w', L', q1, q2⟩ := apNew_made (P := P) (w := w) (ρ := ρ) (ty := ty) T S.nx (g1 w) g4 p4 p1 g3 p2 g2 p3 hll hcap b1 g' (hg'.elim .inl fun h => .inr h.1)
              obtain ⟨r1, r2, r3⟩ := new_rel hr e1 e2 q2
              exact ⟨c', w', _, q1, r3, r1.drop f2, r2⟩
end Go.Ev
set_option linter.constructorNameAsVariable false
namespace Go.Ev
open Go
variable {P : Program} {w : World} {ρ : Ren} {h : Heap} {nx : BK}

/-! ### a slice cleared -/
theorem clr_ok (t e ty : TypeId) (ht : P.underlying t = some (.slice e)) (z : Value) (hz : zeroC P e = some z) (zl : List AV) (hzl : ∀ ρ, Vs ρ zl z.cells.toList) (h1 : ∀ x ∈ zl, x.one = true)
    {S : St} {st : List AV} {a : X} {K Q : KV} (hh : eClr zl a S st K Q = true) :
    ∃ h', K (.tup []) (S.setHn h' S.nx) = true ∧ ∀ ρ w x, Rel ρ S.h S.nx w → V ρ (opd a st S.e) x → Eff P S (.tup []) h' S.nx ρ w (Builtin.clear_ #[t] ty #[x]) := by
  have unit : ∀ ρ, V ρ (.tup []) (.tuple #[]) := fun ρ => V.tup' (Vs.nil _)
  rcases asSl_inv (show asSl (opd a st S.e) (K (.tup []) S) (clr1 zl S K) = true from hh) with ⟨ea, h2⟩ | ⟨k, o, n, cp, ea, h2⟩
  · refine ⟨S.h, by rw [St.setHn_same]; exact h2, fun ρ w x hr hx => ?_⟩
    rw [ea] at hx
    cases hx
    exact ⟨.tuple #[], w, ρ, by simp [Builtin.clear_, run_underlying ht], unit ρ, hr, Ext.refl _ _ _⟩
  · have h2 : ifb (Nat.beq n 0) (K (.tup []) S) (rep n zl (clr2 k o S K)) = true := h2
    rw [ifb_eq, beqN_eq] at h2
    by_cases h0 : n = 0
    · subst h0
      simp only [decide_true, if_true] at h2
      refine ⟨S.h, by rw [St.setHn_same]; exact h2, fun ρ w x hr hx => ?_⟩
      rw [ea] at hx
      obtain ⟨L, a', cap, hk, rfl, _⟩ := hx.sl_inv
      exact ⟨.tuple #[], w, ρ, by simp [Builtin.clear_, run_underlying ht], unit ρ, hr, Ext.refl _ _ _⟩
    · rw [decide_eq_false h0] at h2
      simp only [Bool.false_eq_true, if_false] at h2
      rw [rep_eq] at h2
      obtain ⟨h', q1, q2⟩ := wr_ok (P := P) (show wr S k o (List.replicate n zl).flatten (K (.tup [])) = true from h2)
      refine ⟨h', q1, fun ρ w x hr hx => ?_⟩
      rw [ea] at hx
      obtain ⟨L, a', cap, hk, rfl, hle, hadr⟩ := hx.sl_inv
      have := hadr (by omega)
      subst this
      have hcyc : (Builtin.zeroCells z.cells n).toList = (List.replicate n z.cells.toList).flatten := cyc_get z.cells n
      obtain ⟨w', r1, r2, r3⟩ := q2 ρ S.nx w L _ hr hk ((hzl ρ).rep n) (one_rep h1 n)
      have hst := r1 0 (L.off + o) rfl
      rw [← hcyc] at hst
      obtain ⟨m, rfl⟩ : ∃ m, n = m + 1 := ⟨n - 1, by omega⟩
      exact ⟨.tuple #[], w', ρ, by simp [Builtin.clear_, run_underlying ht, run_zero hz, hst], unit ρ, r2, r3⟩
/-! ### a byte looked for -/
theorem findN_eq (c : Nat) (hc : c < 256) : ∀ (l : List UInt8) (n : Nat), findN (l.map UInt8.toNat) c n = .i .i64 (match l.findIdx? (· == UInt8.ofNat c) with | some i => Int.ofNat (n + i) | none => -1) := by
  intro l
  induction l with
  | nil => intro n; rfl
  | cons x l ih =>
    intro n
    have e : findN ((x :: l).map UInt8.toNat) c n = ifv (Nat.beq x.toNat c) (.i .i64 (Int.ofNat n)) (findN (l.map UInt8.toNat) c (Nat.add n 1)) := rfl
    rw [e, ih, ifv_cases, beqN_eq, List.findIdx?_cons]
    by_cases hx : x = UInt8.ofNat c
    · subst hx
      have : (UInt8.ofNat c).toNat = c := by simp; omega
      simp [this]
    · have h1 : ¬ x.toNat = c := fun e => hx (by rw [← e]; simp)
      have h2 : (x == UInt8.ofNat c) = false := by simpa using hx
      rw [decide_eq_false h1, h2]
      simp only [Bool.false_eq_true, if_false]
      cases l.findIdx? (· == UInt8.ofNat c) with
      | none => rfl
      | some i => simp; omega
theorem range_find (c : UInt8) : ∀ (l : List UInt8), (List.range l.length).find? (fun i => l[i]! == c) = l.findIdx? (· == c) := by
  intro l
  induction l with
  | nil => rfl
  | cons x l ih =>
    rw [List.length_cons, List.range_succ_eq_map, List.find?_cons, List.findIdx?_cons]
    simp only [List.getElem!_cons_zero]
    cases hx : x == c with
    | true => rfl
    | false =>
      simp only [Bool.false_eq_true, if_false]
      rw [List.find?_map, ← ih]
      rfl
theorem firstIdx_eq (s : ByteArray) (c : UInt8) : firstIdx s c = (match s.data.toList.findIdx? (· == c) with | some i => Int.ofNat i | none => -1) := by
  unfold firstIdx
  have h1 : s.size = s.data.toList.length := by rw [Array.length_toList]; rfl
  have h2 : ∀ i : Nat, s[i]! = (s.data.toList[i]! : UInt8) := by
    intro i
    by_cases hi : i < s.size
    · rw [getElem!_pos s i hi, getElem!_pos s.data.toList i (by rw [← h1]; exact hi), Array.getElem_toList]
      rfl
    · rw [getElem!_neg s i hi, getElem!_neg s.data.toList i (by rw [← h1]; exact hi)]
  have h3 : (List.range s.size).find? (fun i => s[i]! == c) = s.data.toList.findIdx? (· == c) := by
    rw [h1]
    simp only [h2]
    exact range_find c _
  rw [h3]
  cases s.data.toList.findIdx? (· == c) <;> rfl
theorem ixb_ok {v y : AV} {a b : Value} (hv : V ρ v a) (hy : V ρ y b) (hb : (ixbV v y).bad? = false) :
    ∃ r, V ρ (ixbV v y) r ∧ ∀ w, (Extern.BytealgIndexByte.indexByte #[a, b]).run P w = .ok r w := by
  cases hv with
  | s s =>
    have e : ixbV (.s (s.data.toList.map UInt8.toNat)) y = ixbW y (s.data.toList.map UInt8.toNat) := rfl
    rw [e] at hb ⊢
    cases hy with
    | i k n =>
      have e : ixbW (.i k n) (s.data.toList.map UInt8.toNat) = ifv (kq .u8 k) (ixbN n (s.data.toList.map UInt8.toNat)) (.k .bad) := rfl
      rw [e] at hb ⊢
      obtain ⟨hk, e1⟩ := ifv_bad hb
      rw [e1] at hb ⊢
      rw [kq_eq, decide_eq_true_eq] at hk
      subst hk
      cases n with
      | negSucc n => cases hb
      | ofNat n =>
        have e : ixbN (.ofNat n) (s.data.toList.map UInt8.toNat) = ifv (Nat.ble n 255) (findN (s.data.toList.map UInt8.toNat) n 0) (.k .bad) := rfl
        rw [e] at hb ⊢
        obtain ⟨hn, e1⟩ := ifv_bad hb
        rw [e1]
        rw [ble_eq, decide_eq_true_eq] at hn
        rw [findN_eq n (by omega)]
        refine ⟨.int .i64 (firstIdx s (UInt8.ofNat n)), ?_, fun w => ?_⟩
        · rw [firstIdx_eq]
          simp only [Nat.zero_add]
          exact .i _ _
        · have := run_indexByte_string (P := P) s (Int.ofNat n) w
          rw [this]
          rfl
    | _ => cases hb
  | _ => cases hb
end Go.Ev
set_option linter.constructorNameAsVariable false
namespace Go.Ev
open Go
variable {P : Program} {w : World} {ρ : Ren} {h : Heap} {nx : BK}

/-! ### maps updated -/
/-- what putting an entry comes to -/
theorem mput_inv {k v : AV} {g : Bool} {ks : List Nat} : ∀ (es : List (AV × AV)) (K : List (AV × AV) → Bool), mput es k v g ks K = true →
    (∃ i kx x, es[i]? = some (kx, x) ∧ keqV k g ks kx = .b true ∧ (∀ j e, j < i → es[j]? = some e → keqV k g ks e.1 = .b false) ∧ K (es.set i (k, v)) = true) ∨
    ((∀ (j : Nat) e, es[j]? = some e → keqV k g ks e.1 = .b false) ∧ K (es ++ [(k, v)]) = true) := by
  intro es
  induction es with
  | nil => exact fun K hh => .inr ⟨by simp, hh⟩
  | cons e es ih =>
    intro K hh
    obtain ⟨kx, x⟩ := e
    have hh : bcase (keqV k g ks kx) (K ((k, v) :: es)) (mput es k v g ks (kcons K (kx, x))) false = true := hh
    cases hq : keqV k g ks kx with
    | b r =>
      rw [hq] at hh
      cases r with
      | true => exact .inl ⟨0, kx, x, rfl, hq, fun j e hj => by omega, hh⟩
      | false =>
        have hh : mput es k v g ks (kcons K (kx, x)) = true := hh
        rcases ih _ hh with ⟨i, kx', x', h1, h2, h3, h4⟩ | ⟨h1, h2⟩
        · refine .inl ⟨i + 1, kx', x', by simpa using h1, h2, fun j e hj he => ?_, h4⟩
          cases j with
          | zero => simp at he; rw [← he]; exact hq
          | succ j => exact h3 j e (by omega) (by simpa using he)
        · refine .inr ⟨fun j e he => ?_, h2⟩
          cases j with
          | zero => simp at he; rw [← he]; exact hq
          | succ j => exact h1 j e (by simpa using he)
    | _ => rw [hq] at hh; cases hh
/-- the first entry of a key -/
theorem find_first {t : TypeId} {g : Bool} {ks : List Nat} (hk : keyT P t g ks = true) {v : AV} {a : Value} (ha : V ρ v a) : ∀ (es : List (AV × AV)) (l : List MapEntry), Ents ρ es l →
    ∀ (i : Nat) kx x e, es[i]? = some (kx, x) → l[i]? = some e → keqV v g ks kx = .b true → (∀ j e, j < i → es[j]? = some e → keqV v g ks e.1 = .b false) →
      a = e.key ∧ (∀ w n, (Instr.findAsking t a l n).run P w = .ok (some (n + i, e.val)) w) ∧ (g = false → ∀ d n, P.underlying t = some d → Instr.findNow d a l n = some (some (n + i, e.val))) := by
  intro es
  induction es with
  | nil => intro l _ i kx x e h1; simp at h1
  | cons p es ih =>
    intro l hl i kx x e h1 h2 h3 h4
    cases l with
    | nil => simp at h2
    | cons q l =>
      have hl' : Ents ρ es l := ⟨by have := hl.1; simpa using this, fun i p q hp hq => hl.2 (i + 1) p q (by simpa using hp) (by simpa using hq)⟩
      have h0 := hl.2 0 p q rfl rfl
      cases i with
      | zero =>
        simp at h1 h2
        subst h1
        subst h2
        obtain ⟨r, f1, f2, f3, f4⟩ := keq_ok hk ha h0.1 (by rw [h3]; rfl)
        rw [h3] at f1
        cases f1
        exact ⟨f3 rfl, fun w n => by simp [Instr.findAsking, f2], fun hg d n hd => by simp [Instr.findNow, f4 hg d hd]⟩
      | succ i =>
        have hq := h4 0 p (by omega) rfl
        obtain ⟨r, f1, f2, f3, f4⟩ := keq_ok hk ha h0.1 (by rw [hq]; rfl)
        rw [hq] at f1
        cases f1
        obtain ⟨g1, g2, g3⟩ := ih l hl' i kx x e (by simpa using h1) (by simpa using h2) h3 (fun j e hj he => h4 (j + 1) e (by omega) (by simpa using he))
        refine ⟨g1, fun w n => ?_, fun hg d n hd => ?_⟩
        · have : (Instr.findAsking t a (q :: l) n).run P w = (Instr.findAsking t a l (n + 1)).run P w := by
            rw [Instr.findAsking]; simp [f2]
          rw [this, g2, Nat.add_assoc, Nat.add_comm 1]
        · simp only [Instr.findNow, f4 hg d hd, g3 hg d (n + 1) hd]
          rw [Nat.add_assoc, Nat.add_comm 1]
theorem find_none {t : TypeId} {g : Bool} {ks : List Nat} (hk : keyT P t g ks = true) {v : AV} {a : Value} (ha : V ρ v a) : ∀ (es : List (AV × AV)) (l : List MapEntry), Ents ρ es l →
    (∀ (j : Nat) e, es[j]? = some e → keqV v g ks e.1 = .b false) →
      (∀ w n, (Instr.findAsking t a l n).run P w = .ok none w) ∧ (g = false → ∀ d n, P.underlying t = some d → Instr.findNow d a l n = some none) := by
  intro es
  induction es with
  | nil =>
    intro l hl _
    cases l with
    | cons => have := hl.1; simp at this
    | nil => exact ⟨fun w n => by simp [Instr.findAsking], fun _ d n _ => rfl⟩
  | cons p es ih =>
    intro l hl h4
    cases l with
    | nil => have := hl.1; simp at this
    | cons q l =>
      have hl' : Ents ρ es l := ⟨by have := hl.1; simpa using this, fun i p q hp hq => hl.2 (i + 1) p q (by simpa using hp) (by simpa using hq)⟩
      have h0 := hl.2 0 p q rfl rfl
      have hq := h4 0 p rfl
      obtain ⟨r, f1, f2, f3, f4⟩ := keq_ok hk ha h0.1 (by rw [hq]; rfl)
      rw [hq] at f1
      cases f1
      obtain ⟨g2, g3⟩ := ih l hl' (fun j e he => h4 (j + 1) e (by simpa using he))
      refine ⟨fun w n => ?_, fun hg d n hd => ?_⟩
      · have : (Instr.findAsking t a (q :: l) n).run P w = (Instr.findAsking t a l (n + 1)).run P w := by
          rw [Instr.findAsking]; simp [f2]
        rw [this, g2]
      · simp only [Instr.findNow, f4 hg d hd, g3 hg d (n + 1) hd]
/-- a key is of its own bits -/
theorem seq_bits {kd : Nat} {x : AV} {a : Value} (ha : V ρ x a) (hb : (seqV x kd x).bad? = false) (n : Nat) : Instr.sameBits n a a = true := by
  cases ha with
  | i k m => cases n <;> simp [Instr.sameBits]
  | s s =>
    have : (s == s) = true := by rw [beq_toListBytes]; simp
    cases n <;> simp [Instr.sameBits, this]
  | b t => cases n <;> simp [Instr.sameBits]
  | _ => cases hb
theorem aeq_bits (n : Nat) : ∀ (ks : List Nat) (l : List AV) (c : List Value), aeqV ks l l = .b true → Vs ρ l c → ((c.zip c).all fun (x, y) => Instr.sameBits n x y) = true := by
  intro ks
  induction ks with
  | nil =>
    intro l c he hv
    have e : aeqV [] l l = ifv (ifb (nul l) (nul l) false) (.b true) (.k .bad) := rfl
    rw [e] at he
    cases l with
    | cons => cases he
    | nil => rw [hv.inv_nil]; rfl
  | cons kd ks ih =>
    intro l c he hv
    have e : aeqV (kd :: ks) l l = andV2 (seqV (hdD l) kd (hdD l)) (aeqV ks (tlD l) (tlD l)) := rfl
    rw [e] at he
    cases l with
    | nil => cases he
    | cons x l =>
      rw [show hdD (x :: l) = x from rfl, show tlD (x :: l) = l from rfl] at he
      obtain ⟨y, r, rfl, h1, h2⟩ := hv.inv_cons
      cases hs : seqV x kd x with
      | b t =>
        rw [hs] at he
        cases t with
        | false => have : AV.b false = .b true := he; cases this
        | true =>
          have he : aeqV ks l l = .b true := he
          rw [List.zip_cons_cons, List.all_cons, ih l r he h2]
          show (Instr.sameBits n y y && true) = true
          rw [seq_bits h1 (by rw [hs]; rfl)]
          rfl
      | _ => rw [hs] at he; cases he
theorem key_bits {g : Bool} {ks : List Nat} {v : AV} {a : Value} (ha : V ρ v a) (hok : keyOk v g ks = true) (n : Nat) : Instr.sameBits (n + 1) a a = true := by
  have he : keqV v g ks v = .b true := isBt_inv hok
  cases g with
  | false =>
    have he : seqV v (hdN ks) v = .b true := he
    exact seq_bits ha (by rw [he]; rfl) _
  | true =>
    have he : aggEqV v ks v = .b true := he
    obtain ⟨l, m, e1, e2, e3⟩ := aggEqV_inv (v := v) (ks := ks) (y := v) (by rw [he]; rfl)
    rw [e1] at e2
    cases e2
    rw [e3] at he
    subst e1
    obtain ⟨xs, rfl, hx, _⟩ := ha.agg_inv
    have := aeq_bits n ks l xs.toList he hx
    simp only [Instr.sameBits, beq_self_eq_true, Bool.true_and]
    exact this
theorem asM_inv {v : AV} {K : BK → Bool} (hh : asM v K = true) : ∃ k, v = .m k ∧ K k = true := by
  cases v with
  | m k => exact ⟨k, rfl, hh⟩
  | _ => cases hh
theorem frcV_inv {v : AV} {K : AV → Bool} (hh : frcV v K = true) : v.bad? = false ∧ K v = true := by
  rw [frcV_eq] at hh
  simpa using hh
theorem obM_inv {o : Ob} {K : List (AV × AV) → Bool} (hh : obM o K = true) : ∃ es, o = .map es ∧ K es = true := by
  cases o with
  | map es => exact ⟨es, rfl, hh⟩
  | _ => cases hh
theorem mu_ok (t kt et : TypeId) (ht : P.underlying t = some (.map kt et)) (g : Bool) (ks : List Nat) (hk : keyT P kt g ks = true) {S : St} {st : List AV} {m k v : X} {K Q : KV} (hh : eMu g ks m k v S st K Q = true) :
    ∃ h', K (.k .u) (S.setHn h' S.nx) = true ∧ ∀ ρ w x a c, Rel ρ S.h S.nx w → V ρ (opd m st S.e) x → V ρ (opd k st S.e) a → V ρ (opd v st S.e) c →
      ∃ w', (Instr.mapUpdate t x a c).run P w = .ok () w' ∧ Rel ρ h' S.nx w' ∧ Ext ρ S.nx w ρ S.nx w' := by
  obtain ⟨hok, h1⟩ := ifb_true (show ifb (keyOk (opd k st S.e) g ks) (asM (opd m st S.e) (mu1 (opd k st S.e) (opd v st S.e) g ks S K)) false = true from hh)
  obtain ⟨b, eb, h2⟩ := asM_inv h1
  obtain ⟨_, h3⟩ := frcV_inv (show frcV (opd k st S.e) (mu2 b (opd v st S.e) g ks S K) = true from h2)
  obtain ⟨_, h4⟩ := frcV_inv (show frcV (opd v st S.e) (mu3 b (opd k st S.e) g ks S K) = true from h3)
  obtain ⟨es, ho, h5⟩ := obM_inv (show obM (hat S.h b) (mu4 b (opd k st S.e) g ks S K (opd v st S.e)) = true from h4)
  have h5 : mput es (opd k st S.e) (opd v st S.e) g ks (mu5 b S K) = true := h5
  have fin : ∀ es', mu5 b S K es' = true → ∃ h', (∀ x, hat h' x = if x = b then .map es' else hat S.h x) ∧ K (.k .u) (S.setHn h' S.nx) = true := by
    intro es' hm
    have hm : hput S.h b (.map es') (wr3 S (K (.k .u))) = true := hm
    obtain ⟨h', e1, e2⟩ := hput_ex S.h b (.map es')
    rw [e1] at hm
    have hm : S.withH h' (K (.k .u)) = true := hm
    rw [St.withH_eq, St.setH_eq] at hm
    exact ⟨h', e2, hm⟩
  -- the world, when the entries are turned
  have world : ∀ {ρ : Ren} {w : World} {L : Loc} {h' : Heap} {es' : List (AV × AV)} {en en' : Array MapEntry} {ck ck' : Nat}, Rel ρ S.h S.nx w → ρ b = some L → (∀ x, hat h' x = if x = b then .map es' else hat S.h x) → L.off = 0 →
      w.heap[L.blk]? = some (.map en ck) → Ents ρ es' en'.toList → ck' = en'.size → Born en' → (setObj L.blk (.map en' ck')).run P w = .ok () { w with heap := w.heap.setIfInBounds L.blk (.map en' ck') } ∧
        Rel ρ h' S.nx { w with heap := w.heap.setIfInBounds L.blk (.map en' ck') } ∧ Ext ρ S.nx w ρ S.nx { w with heap := w.heap.setIfInBounds L.blk (.map en' ck') } := by
    intro ρ w L h' es' en en' ck ck' hr hb e2 h0 hw hE hsz hB
    refine ⟨by simp [setObj, Sem.run, hw], ?_⟩
    have hlt := hr.lt b L hb
    refine hr.write hb (by rw [ho]; simp) e2 (by simp) (fun i hi => by simp [Array.getElem?_setIfInBounds_ne (Ne.symm hi)]) rfl rfl rfl ⟨h0, en', by simp [hlt, hsz], hE, hB⟩ (fun i hi => ?_)
    have := hi.1
    simp [World.cell?, hw] at this
  rcases mput_inv es _ h5 with ⟨i, kx, x, p1, p2, p3, p4⟩ | ⟨p1, p2⟩
  · obtain ⟨h', e2, e3⟩ := fin _ p4
    refine ⟨h', e3, fun ρ w y a c hr hy ha hc => ?_⟩
    rw [eb] at hy
    cases hy with
    | m _ L hb =>
      have hob := hr.ob b L hb
      rw [ho] at hob
      obtain ⟨h0, en, hw, hE, hB⟩ := hob
      have hi : i < en.toList.length := by rw [← hE.1]; exact (List.getElem?_eq_some_iff.1 p1).1
      have hi' : i < en.size := by simpa using hi
      obtain ⟨q1, q2, q3⟩ := find_first hk ha es en.toList hE i kx x en[i] p1 (by simp [hi']) p2 p3
      have hf := findKey_ok (P := P) hk (a := a) (l := en.toList) (res := some (i, en[i].val)) q2 q3 w
      have hstay : (Instr.keyThatStays a a).run P w = .ok a w := by
        unfold Instr.keyThatStays
        rw [if_pos (key_bits ha hok 9999)]
        rfl
      have hE' : Ents ρ (es.set i (opd k st S.e, opd v st S.e)) (en.modify i fun e => { e with key := a, val := c }).toList := by
        refine ⟨by simp [hE.1], fun j p q hp hq => ?_⟩
        have hq' : (en.modify i fun e => { e with key := a, val := c })[j]? = some q := by rw [← Array.getElem?_toList]; exact hq
        rw [Array.getElem?_modify] at hq'
        by_cases hij : i = j
        · subst hij
          rw [List.getElem?_set_self (by rw [hE.1]; exact hi)] at hp
          simp only [if_true] at hq'
          obtain ⟨e, _, rfl⟩ := Option.map_eq_some_iff.1 hq'
          simp at hp
          subst hp
          exact ⟨ha, hc⟩
        · rw [List.getElem?_set_ne hij] at hp
          rw [if_neg hij] at hq'
          exact hE.2 j p q hp (by simpa using hq')
      have hB' : Born (en.modify i fun e => { e with key := a, val := c }) := by
        intro j y hy
        rw [Array.getElem?_modify] at hy
        split at hy
        · obtain ⟨e, he, rfl⟩ := Option.map_eq_some_iff.1 hy
          exact hB j e he
        · exact hB j y hy
      obtain ⟨r1, r2, r3⟩ := world hr hb e2 h0 hw hE' (ck' := en.size) (by simp) hB'
      refine ⟨_, ?_, r2, r3⟩
      simp [Instr.mapUpdate, run_underlying ht, run_getMap hw, check_ok hk ha hok false 9998, hf, hi', ← q1, hstay, r1]
  · obtain ⟨h', e2, e3⟩ := fin _ p2
    refine ⟨h', e3, fun ρ w y a c hr hy ha hc => ?_⟩
    rw [eb] at hy
    cases hy with
    | m _ L hb =>
      have hob := hr.ob b L hb
      rw [ho] at hob
      obtain ⟨h0, en, hw, hE, hB⟩ := hob
      obtain ⟨q2, q3⟩ := find_none hk ha es en.toList hE p1
      have hf := findKey_ok (P := P) hk (a := a) (l := en.toList) (res := none) q2 q3 w
      have hE' : Ents ρ (es ++ [(opd k st S.e, opd v st S.e)]) (en.push { key := a, val := c, born := en.size }).toList := by
        refine ⟨by simp [hE.1], fun j p q hp hq => ?_⟩
        rw [Array.toList_push] at hq
        have hlen := hE.1
        by_cases hj : j < es.length
        · rw [List.getElem?_append_left hj] at hp
          rw [List.getElem?_append_left (by omega)] at hq
          exact hE.2 j p q hp hq
        · rw [List.getElem?_append_right (by omega)] at hp
          rw [List.getElem?_append_right (by omega), ← hlen] at hq
          have : j - es.length = 0 := by
            have := (List.getElem?_eq_some_iff.1 hp).1
            simp at this; omega
          rw [this] at hp hq
          simp at hp hq
          subst hp
          subst hq
          exact ⟨ha, hc⟩
      have hB' : Born (en.push { key := a, val := c, born := en.size }) := by
        intro j y hy
        rw [Array.getElem?_push] at hy
        split at hy
        · rename_i hj
          cases hy
          exact hj.symm
        · exact hB j y hy
      obtain ⟨r1, r2, r3⟩ := world hr hb e2 h0 hw hE' (ck' := en.size + 1) (by simp) hB'
      refine ⟨_, ?_, r2, r3⟩
      simp [Instr.mapUpdate, run_underlying ht, run_getMap hw, check_ok hk ha hok false 9998, hf, r1]
end Go.Ev
set_option linter.constructorNameAsVariable false
namespace Go.Ev
open Go
variable {P : Program} {w : World} {ρ : Ren} {h : Heap} {nx : BK}
theorem asP_inv' {v : AV} {K : BK → Nat → Bool} (hh : asP v K = true) : ∃ k o, v = .p k o ∧ K k o = true := by
  cases v with
  | p k o => exact ⟨k, o, rfl, hh⟩
  | _ => cases hh
/-! ### an iterator made -/
theorem rg_ok (t kt et : TypeId) (ht : P.underlying t = some (.map kt et)) {S : St} {st : List AV} {m : X} {K Q : KV} (hh : eRg m S st K Q = true) :
    ∃ v h' nx', K v (S.setHn h' nx') = true ∧ ∀ ρ w x, Rel ρ S.h S.nx w → V ρ (opd m st S.e) x →
      ∃ c w' ρ', (Instr.range t x).run P w = .ok c w' ∧ V ρ' v c ∧ Rel ρ' h' nx' w' ∧ Ext ρ S.nx w ρ' nx' w' := by
  obtain ⟨b, eb, h1⟩ := asM_inv (show asM (opd m st S.e) (rg1 S K) = true from hh)
  obtain ⟨es, ho, h2⟩ := obM_inv (show obM (hat S.h b) (rg2 b S K) = true from h1)
  have h2 : frc (lenD es) (rg3 b S K) = true := h2
  rw [frc_eq, lenD_eq] at h2
  have h2 : new (.it b es.length [] es.length) S (rg4 K) = true := h2
  obtain ⟨h', nx', e1, e2, h3⟩ := new_inv h2
  refine ⟨.p S.nx 0, h', nx', h3, fun ρ w x hr hx => ?_⟩
  rw [eb] at hx
  cases hx with
  | m _ Lm hb =>
    have hob := hr.ob b Lm hb
    rw [ho] at hob
    obtain ⟨_, en, hw, hE, hB⟩ := hob
    have hlen : es.length = en.size := by rw [hE.1]; simp
    have hm : Made S.nx (.it b es.length [] es.length) (fun k => .p k 0) ρ w { w with heap := w.heap.push (.mapIter (some Lm.blk) en.size #[] en.size) } (.pointer (some ⟨w.heap.size, 0, none⟩)) ⟨w.heap.size, 0, 0, 0⟩ :=
      ⟨Grown.push w _ w.drawn, rfl, fun i hi => by simp at hi, fun ρ' hle hk => ⟨V.p S.nx 0 ⟨w.heap.size, 0, 0, 0⟩ hk, rfl, Lm, hle _ _ hb, by simp [hlen]⟩⟩
    obtain ⟨r1, r2, r3⟩ := new_rel hr e1 e2 hm
    refine ⟨_, _, _, ?_, r3, r1, r2⟩
    simp [Instr.range, run_underlying ht, run_getMap hw]

/-! ### an iterator moved on -/
theorem obI_inv {o : Ob} {K : BK → Nat → List Nat → Nat → Bool} (hh : obI o K = true) : ∃ b s l n, o = .it b s l n ∧ K b s l n = true := by
  cases o with
  | it b s l n => exact ⟨b, s, l, n, rfl, hh⟩
  | _ => cases hh
theorem memN_eq (i : Nat) : ∀ l : List Nat, memN i l = l.contains i := by
  intro l
  induction l with
  | nil => rfl
  | cons x l ih =>
    have e : memN i (x :: l) = ifb (Nat.beq i x) true (memN i l) := rfl
    rw [e, ifb_eq, ih, List.contains_cons]
    cases hx : Nat.beq i x with
    | true => have := Nat.eq_of_beq_eq_true hx; subst this; simp
    | false =>
      have : i ≠ x := Nat.ne_of_beq_eq_false hx
      simp [this]
theorem nxA_at : ∀ (es : List (AV × AV)) (f : AV × AV → Nat → Bool) (n : Nat), nxA es f n = true → ∀ (i : Nat) x, es[i]? = some x → f x (n + i) = true := by
  intro es
  induction es with
  | nil => intro f n _ i x hx; simp at hx
  | cons y es ih =>
    intro f n hh i x hx
    have hh : ifb (f y n) (nxA es f (Nat.add n 1)) false = true := hh
    obtain ⟨h1, h2⟩ := ifb_true hh
    cases i with
    | zero => simp at hx; subst hx; exact h1
    | succ i =>
      have := ih f _ h2 i x (by simpa using hx)
      rw [show Nat.add n 1 + i = n + (i + 1) by simp; omega] at this
      exact this
theorem nxA_not : ∀ (es : List (AV × AV)) (f : AV × AV → Nat → Bool) (n : Nat), nxA es f n = false → ∃ (i : Nat) (x : AV × AV), es[i]? = some x ∧ f x (n + i) = false := by
  intro es
  induction es with
  | nil => intro f n hh; cases hh
  | cons y es ih =>
    intro f n hh
    have hh : ifb (f y n) (nxA es f (Nat.add n 1)) false = false := hh
    rw [ifb_eq] at hh
    cases h1 : f y n with
    | false => exact ⟨0, y, rfl, h1⟩
    | true =>
      rw [h1] at hh
      obtain ⟨i, x, h2, h3⟩ := ih f _ hh
      exact ⟨i + 1, x, by simpa using h2, by rw [show n + (i + 1) = Nat.add n 1 + i by simp; omega]; exact h3⟩
section
variable {r m since last ck : Nat} {seen : Array Nat} {en : Array MapEntry} {ty : TypeId}
theorem next_over (h1 : w.heap[r]? = some (.mapIter (some m) since seen last)) (h2 : w.heap[m]? = some (.map en ck))
    (hc : ¬((¬seen = #[] ∧ ¬en = #[]) ∧ ∀ (i : Nat) (_ : i < en.size), last ≤ en[i].born)) (hA : ∀ a, a ∈ en → a.born < since → a.born ∈ seen)
    (h3 : (en.filter fun a => decide (a.born < since) && !decide (a.born ∈ seen)) = #[]) (h4 : (en.filter fun a => decide (since ≤ a.born) && !decide (a.born ∈ seen)) = #[]) :
    (Instr.next (.pointer (some ⟨r, 0, none⟩)) false ty).run P w = .ok (.tuple #[.bool false]) w := by
  have g1 : (getObj r).run P w = .ok (.mapIter (some m) since seen last) w := by simp [getObj, Sem.run, h1]
  have g2 : (getObj m).run P w = .ok (.map en ck) w := by simp [getObj, Sem.run, h2]
  simp [Instr.next, g1, g2]
  rw [if_neg hc, if_pos hA]
  simp [h3, h4, Question.forced]
theorem next_some (h1 : w.heap[r]? = some (.mapIter (some m) since seen last)) (h2 : w.heap[m]? = some (.map en ck))
    (hc : ¬((¬seen = #[] ∧ ¬en = #[]) ∧ ∀ (i : Nat) (_ : i < en.size), last ≤ en[i].born)) (hA : ¬∀ a, a ∈ en → a.born < since → a.born ∈ seen) {left : Array MapEntry} (hne : left.size ≠ 0)
    (h3 : (en.filter fun a => decide (a.born < since) && !decide (a.born ∈ seen)) = left) (h4 : (en.filter fun a => decide (since ≤ a.born) && !decide (a.born ∈ seen)) = #[]) :
    ∃ (e : MapEntry) (d : Nat), e ∈ left ∧ (Instr.next (.pointer (some ⟨r, 0, none⟩)) false ty).run P w = .ok (.tuple #[.bool true, e.key, e.val]) { w with drawn := d, heap := w.heap.setIfInBounds r (.mapIter (some m) since (seen.push e.born) ck) } := by
  have g1 : (getObj r).run P w = .ok (.mapIter (some m) since seen last) w := by simp [getObj, Sem.run, h1]
  have g2 : (getObj m).run P w = .ok (.map en ck) w := by simp [getObj, Sem.run, h2]
  by_cases h : left.size ≤ 1
  · refine ⟨left[0], w.drawn, Array.getElem_mem (by omega), ?_⟩
    simp [Instr.next, g1, g2]
    rw [if_neg hc, if_neg hA]
    simp [h3, h4, Sem.run, Question.forced, h, show 0 < left.size by omega, setObj, h1]
  · have hj : w.tape w.drawn (.mapNext left.size) % left.size < left.size := Nat.mod_lt _ (by omega)
    refine ⟨left[w.tape w.drawn (.mapNext left.size) % left.size], w.drawn + 1, Array.getElem_mem hj, ?_⟩
    simp [Instr.next, g1, g2]
    rw [if_neg hc, if_neg hA]
    simp [h3, h4, Sem.run, Question.forced, Question.cut, h, hj, setObj, h1, show w.drew.heap = w.heap from rfl, show w.drew.os = w.os from rfl, show w.drew.output = w.output from rfl]
end
theorem nx_ok {ty : TypeId} {S : St} {st : List AV} {a : X} {K Q : KV} (hh : eNx a S st K Q = true) {ρ : Ren} {w : World} {x : Value} (hr : Rel ρ S.h S.nx w) (hx : V ρ (opd a st S.e) x) :
    ∃ v h' c w', K v (S.setHn h' S.nx) = true ∧ (Instr.next x false ty).run P w = .ok c w' ∧ V ρ v c ∧ Rel ρ h' S.nx w' ∧ Ext ρ S.nx w ρ S.nx w' := by
  obtain ⟨k, o, ea, h1⟩ := asP_inv' (show asP (opd a st S.e) (nx0 S K) = true from hh)
  obtain ⟨ho, h1⟩ := ifb_true (show ifb (Nat.beq o 0) (obI (hat S.h k) (nx1 k S K)) false = true from h1)
  have ho := beq_true ho
  subst ho
  obtain ⟨b, since, seen, last, hk, h2⟩ := obI_inv h1
  obtain ⟨es, hm, h3⟩ := obM_inv (show obM (hat S.h b) (nx2 k b since seen last S K) = true from h2)
  have h3 : frc (lenD es) (nx3 k b since seen last es S K) = true := h3
  rw [frc_eq, lenD_eq] at h3
  obtain ⟨hs, h3⟩ := ifb_true (show ifb (Nat.ble es.length since) (ifb (ifb (nul seen) true (ifb (Nat.beq es.length 0) true (Nat.blt 0 last))) (ifb (nxA es (nxS seen) 0) (K (.tup [.b false]) S) (nxA es (nx4 k b since seen es.length S K) 0)) false) false = true from h3)
  obtain ⟨hl, h3⟩ := ifb_true h3
  have hs : es.length ≤ since := Nat.le_of_ble_eq_true hs
  rw [ea] at hx
  cases hx with
  | p _ _ L hL =>
    have hob := hr.ob k L hL
    rw [hk] at hob
    obtain ⟨h0, Lm, hLm, hi⟩ := hob
    have hob := hr.ob b Lm hLm
    rw [hm] at hob
    obtain ⟨_, en, hw, hE, hB⟩ := hob
    have hlen : es.length = en.size := by rw [hE.1]; simp
    have hc : ¬((¬seen.reverse.toArray = #[] ∧ ¬en = #[]) ∧ ∀ (i : Nat) (_ : i < en.size), last ≤ en[i].born) := by
      rintro ⟨⟨c1, c2⟩, c3⟩
      rw [ifb_eq] at hl
      cases seen with
      | nil => simp at c1
      | cons y r =>
        have e : nul (y :: r) = false := rfl
        rw [e, ifb_eq] at hl
        have hpos : 0 < en.size := Nat.pos_of_ne_zero fun e => c2 (by simpa using e)
        have hz : Nat.beq es.length 0 = false := by
          cases hq : Nat.beq es.length 0 with
          | false => rfl
          | true => have := beq_true hq; omega
        rw [hz] at hl
        have hl : 0 < last := Nat.le_of_ble_eq_true hl
        have := c3 0 hpos
        rw [hB 0 en[0] (by simp [hpos])] at this
        omega
    have hlt : ∀ a ∈ en, a.born < since := by
      intro a ha
      obtain ⟨i, hi, rfl⟩ := Array.mem_iff_getElem.1 ha
      rw [hB i en[i] (by simp [hi])]
      omega
    have f4 : (en.filter fun a => decide (since ≤ a.born) && !decide (a.born ∈ seen.reverse.toArray)) = #[] := by
      rw [Array.filter_eq_empty_iff]
      intro a ha
      have := hlt a ha
      simp
      omega
    rw [h0, Nat.add_zero]
    cases hA : nxA es (nxS seen) 0 with
    | true =>
      rw [hA, ifb_eq] at h3
      have hall : ∀ a ∈ en, a.born ∈ seen.reverse.toArray := by
        intro a ha
        obtain ⟨i, hi, rfl⟩ := Array.mem_iff_getElem.1 ha
        have := nxA_at es _ 0 hA i es[i] (by simp [show i < es.length by omega])
        have this : memN (0 + i) seen = true := this
        rw [memN_eq] at this
        rw [hB i en[i] (by simp [hi])]
        simpa using this
      refine ⟨.tup [.b false], S.h, _, w, ?_, next_over hi hw hc (fun a ha _ => hall a ha) ?_ f4, V.tup' (Vs.cons (.b false) (Vs.nil _)), hr, Ext.refl _ _ _⟩
      · rw [show S.setHn S.h S.nx = S by cases S; rfl]
        exact h3
      · rw [Array.filter_eq_empty_iff]
        intro a ha
        have := hall a ha
        simp only [this]
        simp
    | false =>
      rw [hA, ifb_eq] at h3
      obtain ⟨i, y, g1, g2⟩ := nxA_not es _ 0 hA
      have g2 : memN (0 + i) seen = false := g2
      rw [memN_eq, Nat.zero_add] at g2
      have hin : i < en.size := by have := (List.getElem?_eq_some_iff.1 g1).1; omega
      have hnA : ¬∀ a, a ∈ en → a.born < since → a.born ∈ seen.reverse.toArray := by
        intro hall
        have := hall en[i] (Array.getElem_mem hin) (hlt _ (Array.getElem_mem hin))
        rw [hB i en[i] (by simp [hin])] at this
        simp at this
        simp [this] at g2
      have hne : (en.filter fun a => decide (a.born < since) && !decide (a.born ∈ seen.reverse.toArray)).size ≠ 0 := by
        intro e
        have := (Array.filter_eq_empty_iff.1 (Array.eq_empty_of_size_eq_zero e)) en[i] (Array.getElem_mem hin)
        apply this
        have h5 := hlt _ (Array.getElem_mem hin)
        rw [hB i en[i] (by simp [hin])] at h5 ⊢
        simp at g2
        simp [h5, g2]
      obtain ⟨e, d, he, hrun⟩ := next_some (P := P) (ty := ty) hi hw hc hnA hne rfl f4
      obtain ⟨he1, he2⟩ := Array.mem_filter.1 he
      obtain ⟨j, hj, rfl⟩ := Array.mem_iff_getElem.1 he1
      have hbj := hB j en[j] (by simp [hj])
      have hjn : memN j seen = false := by
        rw [memN_eq]
        rw [hbj] at he2
        simpa [hlt] using (by simpa using he2 : _ ∧ _).2
      have hje : j < es.length := by omega
      have hf := nxA_at es _ 0 h3 j es[j] (by simp [hje])
      have hf : ifb (memN (0 + j) seen) true (pcase es[j] (nx5 k b since seen es.length (0 + j) S K)) = true := hf
      rw [Nat.zero_add, hjn, ifb_eq] at hf
      have hf : nx5 k b since seen es.length j S K es[j].1 es[j].2 = true := by
        revert hf
        generalize es[j] = z
        cases z
        exact fun hf => hf
      have hf : hput S.h k (.it b since (j :: seen) es.length) (wr3 S (K (.tup [.b true, es[j].1, es[j].2]))) = true := hf
      obtain ⟨h', e1, e2⟩ := hput_ex S.h k (.it b since (j :: seen) es.length)
      rw [e1] at hf
      have hf : S.withH h' (K (.tup [.b true, es[j].1, es[j].2])) = true := hf
      rw [St.withH_eq, St.setH_eq] at hf
      obtain ⟨v1, v2⟩ := hE.2 j es[j] en[j] (by simp [hje]) (by simp [hj])
      have hltL := hr.lt k L hL
      have hwr := (hr.drawn d).write (h' := h') (w' := { w with drawn := d, heap := w.heap.setIfInBounds L.blk (.mapIter (some Lm.blk) since (seen.reverse.toArray.push en[j].born) en.size) }) (ob := .it b since (j :: seen) es.length) hL (by rw [hk]; simp) e2 (by simp) (fun i hi => by simp [Array.getElem?_setIfInBounds_ne (Ne.symm hi)]) rfl rfl rfl
        ⟨h0, Lm, hLm, by simp [hltL, hbj, hlen]⟩ (fun i hr' => by
          have := hr'.1
          simp [World.cell?, hi] at this)
      exact ⟨_, h', _, _, hf, hrun, V.tup' (Vs.cons (.b true) (Vs.cons v1 (Vs.cons v2 (Vs.nil _)))), hwr.1, (Ext.drawn d).trans hwr.2⟩
end Go.Ev
set_option linter.constructorNameAsVariable false
namespace Go.Ev
open Go
variable {P : Program} {w : World} {ρ : Ren} {h : Heap} {nx : BK}
theorem shape_of_cell {b i : Nat} {c : Value} (hc : w.cell? ⟨b, i, none⟩ = some c) : ∃ e n, w.shape? b = some (e, n) ∧ i < n := by
  unfold World.cell? at hc
  unfold World.shape?
  simp only at hc
  split at hc
  · rename_i cs t f hb
    simp at hc
    exact ⟨t, cs.size, by simp, (Array.getElem?_eq_some_iff.1 hc).1⟩
  · cases hc
theorem cellB_inv {o : Ob} {i : Nat} (hh : cellB o i = true) : ∃ g l, o = .cells g l ∧ i < l.length := by
  cases o with
  | cells g l =>
    have hh : Nat.blt i (lenD l) = true := hh
    rw [lenD_eq] at hh
    exact ⟨g, l, rfl, Nat.le_of_ble_eq_true hh⟩
  | _ => cases hh
theorem up_ok {src dst t : TypeId} {j : TypeInfo} (hs : P.underlying src = some (.pointer t)) (hd : P.underlying dst = some .unsafePointer) (ht : P.info? t = some j) (hj : j.size ≠ 0)
    (hr : Rel ρ h nx w) {v : AV} {c : Value} (hv : V ρ v c) (hb : (upV v h).bad? = false) : ∃ r, V ρ (upV v h) r ∧ (convert src dst c).run P w = .ok r w := by
  cases hv with
  | pn => exact ⟨_, .pn, by simp [convert, run_underlying hs, run_underlying hd, Conv.unsafePointer]⟩
  | p k o L hk =>
    have e : upV (.p k o) h = ifv (cellB (hat h k) o) (.p k o) (.k .bad) := rfl
    rw [e] at hb ⊢
    obtain ⟨h1, e1⟩ := ifv_bad hb
    rw [e1]
    obtain ⟨g, l, hl, hlt⟩ := cellB_inv h1
    obtain ⟨c, h3, _⟩ := hr.cell hk hl (o := o) (x := l[o]) (by simp [hlt])
    obtain ⟨et, n, h4, h5⟩ := shape_of_cell h3
    exact ⟨_, .p k o L hk, Lib.run_to_unsafe w ⟨L.blk, L.off + o, none⟩ hs hd ht hj h4 h5⟩
  | _ => cases hb
theorem inP_inv {t n : Nat} : ∀ {l : List (Nat × Nat)}, inP t n l = true → (t, n) ∈ l := by
  intro l
  induction l with
  | nil => intro hh; cases hh
  | cons x l ih =>
    obtain ⟨a, b⟩ := x
    intro hh
    have hh : ifb (ifb (Nat.beq a t) (Nat.beq b n) false) true (inP t n l) = true := hh
    rw [ifb_eq] at hh
    cases hq : ifb (Nat.beq a t) (Nat.beq b n) false with
    | true =>
      obtain ⟨h1, h2⟩ := ifb_true hq
      have h1 := beq_true h1
      have h2 := beq_true h2
      subst h1 h2
      exact List.mem_cons_self ..
    | false =>
      rw [hq] at hh
      exact List.mem_cons_of_mem _ (ih hh)
theorem pu_ok {src dst u : TypeId} {j : TypeInfo} (hs : P.underlying src = some .unsafePointer) (hd : P.underlying dst = some (.pointer u)) (hu : P.info? u = some j) {ok : List (Nat × Nat)}
    (hok : ∀ t n, (t, n) ∈ ok → liesAt P P.depth t (n / P.cellsOf t) 0 u 1 = true)
    (hr : Rel ρ h nx w) {v : AV} {c : Value} (hv : V ρ v c) (hb : (puV v h ok).bad? = false) : ∃ r, V ρ (puV v h ok) r ∧ (convert src dst c).run P w = .ok r w := by
  cases hv with
  | pn => exact ⟨_, .pn, by simp [convert, run_underlying hs, run_underlying hd, Conv.unsafePointer]⟩
  | p k o L hk =>
    have e : puV (.p k o) h ok = ifv (ifb (Nat.beq o 0) (puB (hat h k) ok) false) (.p k o) (.k .bad) := rfl
    rw [e] at hb ⊢
    obtain ⟨h1, e1⟩ := ifv_bad hb
    rw [e1]
    obtain ⟨h1, h2⟩ := ifb_true h1
    have h1 := beq_true h1
    subst h1
    cases hl : hat h k with
    | cells g l =>
      rw [hl] at h2
      have h2 : tgIn g ok = true := h2
      cases g with
      | x t n =>
        have h2 := inP_inv (show inP t n ok = true from h2)
        have := hr.ob k L hk
        rw [hl] at this
        obtain ⟨_, _, h0, h4⟩ := this
        refine ⟨_, .p k 0 L hk, ?_⟩
        rw [h0]
        exact Lib.run_from_unsafe w ⟨L.blk, 0, none⟩ hs hd hu h4 (hok t n h2)
      | _ => cases h2
    | _ => rw [hl] at h2; cases h2
  | _ => cases hb
theorem pe_ok {t te : TypeId} {j : TypeInfo} (hp : P.underlying t = some (.pointer te)) (hte : P.info? te = some j) {v u : AV} {c d : Value} (hv : V ρ v c) (hu : V ρ u d) (hb : (peV v u).bad? = false) :
    ∃ r, V ρ (peV v u) r ∧ (binOp .neq t c d).run P w = .ok r w := by
  cases hv with
  | p k o L hk =>
    cases hu with
    | p k' o' L' hk' =>
      have e : peV (.p k o) (.p k' o') = ifv (ifb (decide (k = k')) (Nat.beq o o') false) (.b false) (.k .bad) := rfl
      rw [e] at hb ⊢
      obtain ⟨h1, e1⟩ := ifv_bad hb
      rw [e1]
      obtain ⟨h1, h2⟩ := ifb_true h1
      have h1 := of_decide_eq_true h1
      have h2 := beq_true h2
      subst h1 h2
      rw [hk] at hk'
      obtain rfl := Option.some.inj hk'
      exact ⟨_, .b false, Lib.run_neq_ptr_same w ⟨L.blk, L.off + o, none⟩ hp hte⟩
    | _ => cases hb
  | _ => cases hb
theorem sd_ok {ts : Array TypeId} {ty : TypeId} {v : AV} {c : Value} (hv : V ρ v c) (hb : (sdV v).bad? = false) : ∃ r, V ρ (sdV v) r ∧ (Builtin.unsafeSliceData_ ts ty #[c]).run P w = .ok r w := by
  have fin : ∀ {k o n cp}, (sdV (.sl k o n cp)).bad? = false → n ≠ 0 ∧ sdV (.sl k o n cp) = .p k o := by
    intro k o n cp hb
    have e : sdV (.sl k o n cp) = ifv (Nat.beq n 0) (.k .bad) (.p k o) := rfl
    rw [e] at hb ⊢
    cases hq : Nat.beq n 0 with
    | true => rw [hq] at hb; cases hb
    | false => exact ⟨(fun e => by subst e; cases hq), rfl⟩
  cases hv with
  | sln => exact ⟨_, .pn, Lib.run_unsafeSliceData_nil w ts ty 0 0⟩
  | slk k o n c L a hk hn ha =>
    obtain ⟨h0, e⟩ := fin hb
    rw [e]
    have ha := ha (by omega)
    subst ha
    exact ⟨_, .p k o L hk, Lib.run_unsafeSliceData_row w ts ty ⟨L.blk, L.off + o, none⟩ n c (by omega)⟩
  | slu k o n c sz L a hk hn ha hs hm hz =>
    obtain ⟨h0, e⟩ := fin hb
    rw [e]
    have ha := ha (by omega)
    subst ha
    exact ⟨_, .p k o L hk, Lib.run_unsafeSliceData_row w ts ty ⟨L.blk, L.off + o, none⟩ n c (by omega)⟩
  | _ => cases hb
theorem byV_inv {v : AV} {K : Nat → Bool} (hh : byV v K = true) : ∃ n, v = .i .u8 (.ofNat n) ∧ n ≤ 255 ∧ K n = true := by
  cases v with
  | i k m =>
    have hh : byK k m K = true := hh
    cases k with
    | u8 =>
      cases m with
      | ofNat n =>
        obtain ⟨h1, h2⟩ := ifb_true (show ifb (Nat.ble n 255) (K n) false = true from hh)
        exact ⟨n, rfl, Nat.le_of_ble_eq_true h1, h2⟩
      | negSucc n => cases hh
    | _ => cases hh
  | _ => cases hh
theorem byA_inv : ∀ {l : List AV} {K : List Nat → Bool}, byA l K = true → ∃ s : List Nat, l = s.map (fun n => AV.i .u8 (.ofNat n)) ∧ (∀ n ∈ s, n ≤ 255) ∧ K s = true := by
  intro l
  induction l with
  | nil => intro K hh; exact ⟨[], rfl, by simp, hh⟩
  | cons x l ih =>
    intro K hh
    obtain ⟨n, h1, h2, h3⟩ := byV_inv (show byV x (byS (byA l) K) = true from hh)
    obtain ⟨s, g1, g2, g3⟩ := ih (show byA l (kcons K n) = true from h3)
    exact ⟨n :: s, by rw [h1, g1]; rfl, by simpa using ⟨h2, g2⟩, g3⟩
theorem asN64_inv {v : AV} {K : Nat → Bool} (hh : asN64 v K = true) : ∃ n, v = .i .i64 (.ofNat n) ∧ K n = true := by
  cases v with
  | i k m =>
    obtain ⟨h1, h2⟩ := ifb_true (show ifb (kq .i64 k) (inatK m K) false = true from hh)
    cases k <;> first | (cases h1; done) | skip
    cases m with
    | ofNat n => exact ⟨n, rfl, h2⟩
    | negSucc n => cases h2
  | _ => cases hh
theorem tgR_inv {g : Tg} {e : Nat} (hh : tgR g e = true) : g = .r e := by
  cases g with
  | r t => rw [beq_true (show Nat.beq t e = true from hh)]
  | _ => cases hh
/-- cells that are frozen -/
theorem freeze_other (a : Addr) (n : Nat) (k : Nat) (hk : k ≠ a.block) : (w.freeze a n).heap[k]? = w.heap[k]? := by
  unfold World.freeze
  split
  · rfl
  · simp [Array.getElem?_modify, Ne.symm hk]
theorem freeze_size (a : Addr) (n : Nat) : (w.freeze a n).heap.size = w.heap.size := by
  unfold World.freeze
  split
  · rfl
  · simp
theorem freeze_rest (a : Addr) (n : Nat) : (w.freeze a n).os = w.os ∧ (w.freeze a n).tape = w.tape ∧ (w.freeze a n).output = w.output := by
  unfold World.freeze
  split <;> exact ⟨rfl, rfl, rfl⟩
theorem us_ok {pt it ty e : TypeId} (hp : P.underlying pt = some (.pointer e)) (hc : P.cellsOf e = 1) {S : St} {st : List AV} {a n : X} {K Q : KV} (hh : eUs e a n S st K Q = true) :
    ∃ v h', K v (S.setHn h' S.nx) = true ∧ ∀ ρ w x y, Rel ρ S.h S.nx w → V ρ (opd a st S.e) x → V ρ (opd n st S.e) y →
      ∃ c w', (Builtin.unsafeString_ #[pt, it] ty #[x, y]).run P w = .ok c w' ∧ V ρ v c ∧ Rel ρ h' S.nx w' ∧ Ext ρ S.nx w ρ S.nx w' := by
  obtain ⟨m, en, h1⟩ := asN64_inv (show asN64 (opd n st S.e) (us1 e (opd a st S.e) S K) = true from hh)
  have h1 : ifb (Nat.beq m 0) false (asP (opd a st S.e) (us2 e m S K)) = true := h1
  rw [ifb_eq] at h1
  cases hm0 : Nat.beq m 0 with
  | true => rw [hm0] at h1; cases h1
  | false =>
  rw [hm0] at h1
  have hm : m ≠ 0 := fun e => by subst e; cases hm0
  obtain ⟨k, o, ea, j1⟩ : ∃ k o, opd a st S.e = .p k o ∧ us2 e m S K k o = true := by
    have h1 : asP (opd a st S.e) (us2 e m S K) = true := h1
    revert h1
    cases opd a st S.e with
    | p k o => exact fun h1 => ⟨k, o, rfl, h1⟩
    | _ => intro h1; cases h1
  obtain ⟨ho, j2⟩ := ifb_true (show ifb (Nat.beq o 0) (ifb (Nat.ble m 1000000) (obC (hat S.h k) (us3 e m k S K)) false) false = true from j1)
  clear j1
  have ho := beq_true ho
  subst ho
  obtain ⟨j3, j4⟩ := ifb_true j2
  clear j2
  have hbig : m ≤ 1000000 := Nat.le_of_ble_eq_true j3
  obtain ⟨g, l, hk, h5⟩ := obC_inv j4
  obtain ⟨h3, h6⟩ := ifb_true (show ifb (tgR g e) (ifb (Nat.ble m (lenD l)) (tak m l (us4 k S K)) false) false = true from h5)
  clear h5
  obtain ⟨h4, h7⟩ := ifb_true h6
  clear h6
  have h3 := tgR_inv h3
  subst h3
  rw [lenD_eq] at h4
  have h4 : m ≤ l.length := Nat.le_of_ble_eq_true h4
  rw [tak_eq] at h7
  simp only [Bool.and_eq_true] at h7
  obtain ⟨s, hs, hs1, h2⟩ := byA_inv (show byA (l.take m) (us5 k S K) = true from h7.2)
  have h2 : hput S.h k .no (us6 S K s) = true := h2
  obtain ⟨h', e1, e2⟩ := hput_ex S.h k .no
  rw [e1] at h2
  have h2 : S.withH h' (K (.s s)) = true := h2
  rw [St.withH_eq, St.setH_eq] at h2
  refine ⟨_, h', h2, fun ρ w x y hr hx hy => ?_⟩
  rw [ea] at hx
  rw [en] at hy
  cases hy
  cases hx with
  | p _ _ L hL =>
    have hob := hr.ob k L hL
    rw [hk] at hob
    obtain ⟨_, hcells, h0, N, hsh⟩ := hob
    have hlen : s.length = m := by
      have := congrArg List.length hs
      simp at this
      omega
    have hat_ : ∀ i, (hi : i < s.length) → w.cell? ⟨L.blk, i, none⟩ = some (.int .u8 (Int.ofNat s[i])) := by
      intro i hi
      have hl : l[i]? = some (.i .u8 (Int.ofNat s[i])) := by
        have := congrArg (·[i]?) hs
        simp only [List.getElem?_take, List.getElem?_map] at this
        rw [if_pos (by omega)] at this
        rw [this]
        simp [hi]
      obtain ⟨_, _, c, g3, g4⟩ := hcells i _ hl
      rw [h0, Nat.zero_add] at g3
      cases g4
      exact g3
    have hN : s.length ≤ N := by
      have := hat_ (m - 1) (by omega)
      obtain ⟨e', n', q1, q2⟩ := shape_of_cell this
      rw [hsh] at q1
      cases q1
      omega
    let u : List UInt8 := s.map fun n => n.toUInt8
    have hu : ∀ (j : Nat) x, u[j]? = some x → w.cell? ((⟨L.blk, 0, none⟩ : Addr).add j) = some (.int .u8 x.toNat) := by
      intro j x hx
      have hj : j < s.length := by
        have := (List.getElem?_eq_some_iff.1 hx).1
        simpa [u] using this
      have e3 : (⟨L.blk, 0, none⟩ : Addr).add j = ⟨L.blk, j, none⟩ := by unfold Addr.add; by_cases hz : j = 0 <;> simp [hz]
      rw [e3, hat_ j hj]
      have hx' : s[j].toUInt8 = x := by simpa [u, hj] using hx
      subst hx'
      have := hs1 s[j] (List.getElem_mem hj)
      simp only [Nat.toUInt8_eq, UInt8.toNat_ofNat', Int.ofNat_eq_natCast]
      rw [Nat.mod_eq_of_lt (by omega)]
    have h63 : u.length ≤ 9223372036854775807 := by simp [u]; omega
    have hne0 : u ≠ [] := by
      intro e
      have : u.length = 0 := by rw [e]; rfl
      simp [u] at this
      rw [this] at hlen
      simp at hlen
      omega
    have hrun := Lib.run_unsafeString_row (P := P) w pt it ty e hp hc L.blk N hsh u hne0 (by simpa [u] using hN) h63 hu
    have hul : (u.length : Int) = Int.ofNat m := by simp [u, hlen]
    rw [hul] at hrun
    rw [h0, Nat.zero_add]
    have hV : V ρ (.s s) (.string ⟨u.toArray⟩) := by
      have : (ByteArray.mk u.toArray).data.toList.map UInt8.toNat = s := by
        simp only [u, List.map_map]
        conv => rhs; rw [← List.map_id s]
        refine List.map_congr_left fun n hn => ?_
        have := hs1 n hn
        simp
        omega
      rw [← this]
      exact .s _
    obtain ⟨r1, r2, r3⟩ := freeze_rest (w := w) ⟨L.blk, 0, none⟩ u.length
    have hlive : hat S.h k ≠ .no := by rw [hk]; simp
    have hbk : ∀ b, hat h' b ≠ .no → b ≠ k ∧ hat S.h b ≠ .no := fun b hb => by
      rw [e2] at hb
      by_cases e : b = k
      · rw [if_pos e] at hb; exact absurd rfl hb
      · rw [if_neg e] at hb; exact ⟨e, hb⟩
    have hne : ∀ b L', ρ b = some L' → b ≠ k → hat S.h b ≠ .no → L'.blk ≠ L.blk := fun b L' hb hbk hn he => hbk (hr.inj b k L' L hb hL hn hlive he)
    refine ⟨_, _, hrun, hV, ⟨fun b L' hb => ?_, fun b L' hb => by rw [freeze_size]; exact hr.lt b L' hb, hr.fresh, fun b b' L1 L2 g1 g2 n1 n2 he => ?_, fun b L' hb hn i hi => ?_⟩, Ren.le_refl _, Nat.le_refl _, r1, r2, r3, by rw [freeze_size]; exact Nat.le_refl _, fun i _ hno => freeze_other _ _ _ (fun e => hno k L hL e.symm), fun _ _ hb => .inl hb⟩
    · rw [e2]
      by_cases e : b = k
      · rw [if_pos e]; trivial
      · rw [if_neg e]
        by_cases hn : hat S.h b = .no
        · rw [hn]; trivial
        · exact (hr.ob b L' hb).of_block (Ren.le_refl _) (freeze_other _ _ _ (hne b L' hb e hn))
    · exact hr.inj b b' L1 L2 g1 g2 (hbk b n1).2 (hbk b' n2).2 he
    · obtain ⟨q1, q2⟩ := hbk b hn
      exact (hr.room b L' hb q2 i hi).of_block (freeze_other _ _ _ (hne b L' hb q1 q2))
theorem asAg_inv {v : AV} {K : List AV → Bool} (hh : asAg v K = true) : ∃ l, v = .agg l ∧ K l = true := by
  cases v with
  | agg l => exact ⟨l, rfl, hh⟩
  | _ => cases hh
theorem ixa_ok {t el : TypeId} {len sz : Nat} {ag : Bool} (ht : P.underlying t = some (.array len el)) (hag : aggT P el = some ag) (hs : szOf P el = some sz) {v u : AV} {K : AV → Bool} (hh : asN u (ixa1 len sz ag v K) = true) :
    ∃ y, K y = true ∧ ∀ ρ w c d, V ρ v c → V ρ u d → ∃ r, V ρ y r ∧ (Instr.index t c d).run P w = .ok r w := by
  obtain ⟨k, n, rfl, h1⟩ := asN_inv hh
  obtain ⟨h2, h3⟩ := ifb_true (show ifb (Nat.blt n len) (asAg v (ixa2 sz n ag K)) false = true from h1)
  have h2 : n < len := Nat.le_of_ble_eq_true h2
  obtain ⟨l, rfl, h4⟩ := asAg_inv h3
  have h4 : ifb ag (drp (Nat.mul n sz) l (taks sz (kagg K))) (drp (Nat.mul n sz) l (ixa3 K)) = true := h4
  rw [ifb_eq] at h4
  have start : ∀ (c : Array Value) (w : World), (Instr.index t (.agg c) (.int k (Int.ofNat n))).run P w = (part el c (n * sz)).run P w := by
    intro c w
    simp [Instr.index, asIntOf, run_underlying ht, run_sz hs, h2]
  cases ag with
  | true =>
    simp only [if_true] at h4
    rw [drp_eq] at h4
    simp only [Bool.and_eq_true, decide_eq_true_eq] at h4
    obtain ⟨h5, h6⟩ := h4
    have h6 : tak sz (l.drop (n * sz)) (kagg K) = true := h6
    rw [tak_eq] at h6
    simp only [Bool.and_eq_true, decide_eq_true_eq] at h6
    refine ⟨_, h6.2, fun ρ w c d hc hd => ?_⟩
    cases hd
    cases hc with
    | agg _ c g1 g2 g3 =>
      have hv : Vs ρ l c.toList := ⟨by simpa using g1, fun i x y hx hy => g2 i x y hx (by simpa using hy)⟩
      refine ⟨.agg (c.extract (n * sz) (n * sz + sz)), V.agg' (by
        have := (hv.drop (n * sz)).take sz
        simpa [Array.toList_extract, List.extract_eq_take_drop] using this) (fun x hx => g3 x (List.mem_of_mem_drop (List.mem_of_mem_take hx))), ?_⟩
      rw [start]
      simp [part, run_aggT hag, run_sz hs]
  | false =>
    simp only [Bool.false_eq_true, if_false] at h4
    rw [drp_eq] at h4
    simp only [Bool.and_eq_true, decide_eq_true_eq] at h4
    obtain ⟨h5, h6⟩ := h4
    have h6 : lcase (l.drop (n * sz)) false (ixa4 K) = true := h6
    rw [lcase_eq] at h6
    cases hx : l.drop (n * sz) with
    | nil => rw [hx] at h6; cases h6
    | cons x r =>
      rw [hx] at h6
      obtain ⟨_, h7⟩ := frcV_inv (show frcV x K = true from h6)
      have hxi : l[n * sz]? = some x := by
        have := congrArg (·[0]?) hx
        simpa using this
      refine ⟨x, h7, fun ρ w c d hc hd => ?_⟩
      cases hd
      cases hc with
      | agg _ c g1 g2 g3 =>
        have hi : n * sz < c.size := by rw [← g1]; exact (List.getElem?_eq_some_iff.1 hxi).1
        refine ⟨c[n * sz], g2 _ _ _ hxi (by simp [hi]), ?_⟩
        rw [start]
        simp [part, run_aggT hag, hi]
end Go.Ev
set_option linter.constructorNameAsVariable false
namespace Go.Ev
open Go
variable {P : Program} {w : World} {ρ : Ren} {h : Heap} {nx : BK}

/-! ### constants -/
def avC1 : Value → Option AV
  | .bool b => some (.b b)
  | .int k n => some (.i k n)
  | .string s => some (.s (s.data.toList.map UInt8.toNat))
  | .pointer none => some (.k .pn)
  | .slice none 0 0 => some (.k .sln)
  | .map none => some (.k .mn)
  | .nilFunc => some (.k .fnn)
  | .nilIface => some (.k .ifn)
  | _ => none
def avL : List Value → Option (List AV)
  | [] => some []
  | v :: r => (avC1 v).bind fun x => (avL r).map (x :: ·)
def avC : Value → Option AV
  | .agg cs => (avL cs.toList).map .agg
  | v => avC1 v
theorem avC1_ok {v : Value} {x : AV} (hv : avC1 v = some x) : (∀ ρ, V ρ x v) ∧ x.one = true := by
  unfold avC1 at hv
  split at hv <;> cases hv
  · exact ⟨fun _ => .b _, rfl⟩
  · exact ⟨fun _ => .i _ _, rfl⟩
  · exact ⟨fun _ => .s _, rfl⟩
  · exact ⟨fun _ => .pn, rfl⟩
  · exact ⟨fun _ => .sln, rfl⟩
  · exact ⟨fun _ => .mn, rfl⟩
  · exact ⟨fun _ => .fnn, rfl⟩
  · exact ⟨fun _ => .ifn, rfl⟩
theorem avL_ok : ∀ {vs : List Value} {l : List AV}, avL vs = some l → (∀ ρ, Vs ρ l vs) ∧ ∀ x ∈ l, x.one = true := by
  intro vs
  induction vs with
  | nil => intro l hl; cases hl; exact ⟨fun _ => Vs.nil _, by simp⟩
  | cons v vs ih =>
    intro l hl
    unfold avL at hl
    obtain ⟨x, hx, hl⟩ := Option.bind_eq_some_iff.1 hl
    obtain ⟨r, hr, rfl⟩ := Option.map_eq_some_iff.1 hl
    obtain ⟨h1, h2⟩ := avC1_ok hx
    obtain ⟨h3, h4⟩ := ih hr
    exact ⟨fun ρ => Vs.cons (h1 ρ) (h3 ρ), by simpa using ⟨h2, h4⟩⟩
theorem avC_ok {v : Value} {x : AV} (hv : avC v = some x) : ∀ ρ, V ρ x v := by
  unfold avC at hv
  split at hv
  · obtain ⟨l, hl, rfl⟩ := Option.map_eq_some_iff.1 hv
    obtain ⟨h1, h2⟩ := avL_ok hl
    exact fun ρ => V.agg' (h1 ρ) h2
  · exact (avC1_ok hv).1
/-- the zero cells of a type -/
def zlOf (P : Program) (t : TypeId) : Option (List AV) := (zeroC P t).bind fun z => avL z.cells.toList
theorem zlOf_ok {t : TypeId} {l : List AV} (hl : zlOf P t = some l) : ∃ z, zeroC P t = some z ∧ (∀ ρ, Vs ρ l z.cells.toList) ∧ ∀ x ∈ l, x.one = true := by
  obtain ⟨z, hz, hl⟩ := Option.bind_eq_some_iff.1 hl
  exact ⟨z, hz, (avL_ok hl).1, (avL_ok hl).2⟩
/-- the zero value of a type -/
def zvOf (P : Program) (t : TypeId) : Option AV := (zeroC P t).bind avC
theorem zvOf_ok {t : TypeId} {x : AV} (hx : zvOf P t = some x) : ∃ i zc, P.info? t = some i ∧ i.zero = some zc ∧ ∀ ρ, V ρ x zc := by
  obtain ⟨z, hz, hx⟩ := Option.bind_eq_some_iff.1 hx
  obtain ⟨i, hi, hz⟩ := Option.bind_eq_some_iff.1 hz
  exact ⟨i, z, hi, hz, avC_ok hx⟩

/-! ### operations, put into instructions -/
def RI.reads : RI → Bool
  | .ld _ | .lda .. | .lm _ | .lk .. | .b2s _ | .sv .. | .en _ | .up _ | .pu .. => true
  | _ => false
inductive B0 where
  | r (i : RI) | a (i : AI) | e (i : EI) | f
def nilConst : TypeDesc → Operand → Bool
  | .pointer _, .const (.pointer none) => true
  | .slice _, .const (.slice none 0 0) => true
  | .map .., .const (.map none) => true
  | .func .., .const .nilFunc => true
  | .interface _, .const .nilIface => true
  | _, _ => false
theorem nilConst_ok {d : TypeDesc} {x : Operand} (hx : nilConst d x = true) : ∃ z, nilOf d = some z ∧ x = .const z := by
  unfold nilConst at hx
  split at hx <;> first | exact ⟨_, rfl, rfl⟩ | cases hx
def kindsOf (P : Program) : List Field → Option (List Nat)
  | [] => some []
  | f :: fs => (scalarK P f.type).bind fun k => (kindsOf P fs).map (k :: ·)
def cPtr (P : Program) (ne : Bool) (d : TypeDesc) (a b : X) : Option RI := match ne, d with
  | true, .pointer te => if (P.info? te).isSome then some (.pe a b) else none
  | _, _ => none
def cBin (P : Program) (op : BinOp) (t : TypeId) (x y : Operand) (a b : X) : Option RI :=
  match P.underlying t with
  | some (.int _) => some (.ib op a b)
  | some .string => if op = .add then some (.sc a b) else some (.sb op a b)
  | some .bool => (neOf op).map fun ne => .bb ne a b
  | some (.struct fs) => (neOf op).bind fun ne => (kindsOf P fs.toList).bind fun ks => if flatT P t ks then some (.ae ne ks a b) else none
  | some d => (neOf op).bind fun ne => (kindNo d).bind fun kd => if nilConst d y then some (.nl kd ne a) else if nilConst d x then some (.nl kd ne b) else cPtr P ne d a b
  | none => none
def isU8 (P : Program) (t : TypeId) : Bool := match P.underlying t with
  | some (.int .u8) => true
  | _ => false
theorem isU8_ok {t : TypeId} (hh : isU8 P t = true) : P.underlying t = some (.int .u8) := by
  unfold isU8 at hh
  split at hh
  · assumption
  · cases hh
def firstIs (P : Program) (u t : TypeId) : Bool := match P.underlying t with
  | some (.struct fs) => match fs[0]? with
    | some f => f.type == u
    | none => false
  | _ => false
/-- types whose head lies as a type does, and so many cells -/
def liesL (P : Program) (u : TypeId) : List (Nat × Nat) := ((List.range P.types.size).filter (firstIs P u)).filterMap fun t => if liesAt P P.depth t (P.cellsOf t / P.cellsOf t) 0 u 1 then some (t, P.cellsOf t) else none
theorem liesL_ok {P : Program} {u t n : Nat} (h : (t, n) ∈ liesL P u) : liesAt P P.depth t (n / P.cellsOf t) 0 u 1 = true := by
  unfold liesL at h
  obtain ⟨t', _, h⟩ := List.mem_filterMap.1 h
  split at h
  · rename_i h1
    cases h
    exact h1
  · cases h
def cConv (P : Program) (s d : TypeId) (a : X) : Option RI :=
  match P.underlying s, P.underlying d with
  | some (.int _), some (.int k) => some (.cv k a)
  | some .string, some .string => some (.ss a (.c (.i .i64 (.ofNat 0))) (.c (.k .bad)))
  | some (.int _), some .string => some (.i2s a)
  | some (.slice e), some .string => if isU8 P e then some (.b2s a) else none
  | some (.pointer t), some .unsafePointer => match P.info? t with
    | some j => if j.size ≠ 0 then some (.up a) else none
    | none => none
  | some .unsafePointer, some (.pointer u) => if (P.info? u).isSome then some (.pu (liesL P u) a) else none
  | _, _ => none
abbrev Rs := Operand → Option X
def Ro (R : Rs) (z : AV) : Option Operand → Option X
  | none => some (.c z)
  | some o => R o
def Rl (R : Rs) : List Operand → Option (List X)
  | [] => some []
  | o :: r => (R o).bind fun x => (Rl R r).map (x :: ·)
def z0 : AV := .i .i64 (.ofNat 0)
def cSlice (P : Program) (R : Rs) (t : TypeId) (a : X) (lo hi mx : Option Operand) : Option RI :=
  (Ro R z0 lo).bind fun l => (Ro R (.k .bad) hi).bind fun h =>
  match P.underlying t with
  | some .string => if mx.isNone then some (.ss a l h) else none
  | some (.slice e) => (szOf P e).bind fun n => if mx.isSome && hi.isNone then none else (Ro R (.k .bad) mx).map fun m => .sv n a l h m
  | _ => none
def isIface : TypeDesc → Bool
  | .interface _ => true
  | _ => false
def keyOfT (P : Program) (t : TypeId) : Option (Bool × List Nat) :=
  match P.underlying t with
  | some (.struct fs) => (kindsOf P fs.toList).bind fun ks => if keyT P t true ks then some (true, ks) else none
  | _ => (scalarK P t).bind fun k => if keyT P t false [k] then some (false, [k]) else none
theorem keyOfT_ok {t : TypeId} {g : Bool} {ks : List Nat} (hh : keyOfT P t = some (g, ks)) : keyT P t g ks = true := by
  unfold keyOfT at hh
  split at hh
  · obtain ⟨k, _, hh⟩ := Option.bind_eq_some_iff.1 hh
    split at hh
    · cases hh; assumption
    · cases hh
  · obtain ⟨k, _, hh⟩ := Option.bind_eq_some_iff.1 hh
    split at hh
    · cases hh; assumption
    · cases hh
def dig : Nat → D
  | 0 => .d0 | 1 => .d1 | 2 => .d2 | 3 => .d3 | 4 => .d4 | 5 => .d5 | 6 => .d6 | _ => .d7
def fkOf (f : Nat) : FK := ⟨dig (f / 512 % 8), dig (f / 64 % 8), dig (f / 8 % 8), dig (f % 8)⟩
theorem dig_val (n : Nat) (hn : n < 8) : (dig n).val = n := by
  match n, hn with
  | 0, _ => rfl
  | 1, _ => rfl
  | 2, _ => rfl
  | 3, _ => rfl
  | 4, _ => rfl
  | 5, _ => rfl
  | 6, _ => rfl
  | 7, _ => rfl
theorem fkOf_val (f : Nat) (hf : f < 4096) : (fkOf f).val = f := by
  have e : (fkOf f).val = (((dig (f / 512 % 8)).val * 8 + (dig (f / 64 % 8)).val) * 8 + (dig (f / 8 % 8)).val) * 8 + (dig (f % 8)).val := rfl
  rw [e, dig_val _ (Nat.mod_lt _ (by decide)), dig_val _ (Nat.mod_lt _ (by decide)), dig_val _ (Nat.mod_lt _ (by decide)), dig_val _ (Nat.mod_lt _ (by decide))]
  omega
/-- where the parts of a value lie -/
def placeOf (P : Program) (t : TypeId) : Option (Nat → Option (Nat × Nat)) :=
  match P.underlying t with
  | some (.struct fs) => (fs.toList.mapM (fun f => (P.info? f.type).map fun i => (f.offset, i.size))).map fun places => (places.toArray[·]?)
  | some (.array _ e) => (P.info? e).map fun ie => fun i => some (i * ie.size, ie.size)
  | _ => none
def cParts (R : Rs) (place : Nat → Option (Nat × Nat)) : List (Nat × Operand) → Option (List (Nat × Nat × X))
  | [] => some []
  | (i, x) :: r => (place i).bind fun p => (R x).bind fun a => (cParts R place r).map fun l => (p.1, p.2, a) :: l
/-- parts put in the order of their places -/
def insP (place : Nat → Option (Nat × Nat)) (x : Nat × Operand) : List (Nat × Operand) → Option (List (Nat × Operand))
  | [] => some [x]
  | y :: l => (place x.1).bind fun p => (place y.1).bind fun q =>
    if p.1 ≤ q.1 then some (x :: y :: l) else if q.1 + q.2 ≤ p.1 then (insP place x l).map (y :: ·) else none
def sortP (place : Nat → Option (Nat × Nat)) : List (Nat × Operand) → Option (List (Nat × Operand))
  | [] => some []
  | x :: l => (sortP place l).bind (insP place x)
def cBuild (P : Program) (R : Rs) (t : TypeId) (ps : List (Nat × Operand)) : Option RI :=
  (zlOf P t).bind fun z => (placeOf P t).bind fun place => (sortP place ps).bind fun ps => (cParts R place ps).bind fun l =>
    if partsOk z.length 0 l then some (.bld (mkPcs z 0 l)) else none
def cR (P : Program) (ix : Nat → Bool) (R : Rs) (o : Oper) : Option RI :=
  match o.op with
  | .move x => (R x).map .mv
  | .assign x => (R x).map .mv
  | .pick c a b => (R c).bind fun c => (R a).bind fun a => (R b).map fun b => .pick c a b
  | .binOp op t x y _ => (R x).bind fun a => (R y).bind fun b => cBin P op t x y a b
  | .unOp .not _ x => (R x).map .not
  | .unOp .neg _ x => (R x).map .neg
  | .convert s d x => (R x).bind fun a => cConv P s d a
  | .nilCheck x => (R x).map .nc
  | .fieldAddr t x f => (R x).bind fun a => match P.underlying t with
    | some (.struct fs) => (fs[f]?).bind fun fd => (szOf P fd.type).bind fun n => if n = 0 then none else some (.fa fd.offset a)
    | _ => none
  | .indexAddr t x i => (R x).bind fun a => (R i).bind fun j => match P.underlying t with
    | some (.slice e) => (szOf P e).map fun n => .ia n a j
    | some (.array len e) => (szOf P e).map fun n => .iaa n len a j
    | _ => none
  | .index t x i => (R x).bind fun a => (R i).bind fun j => match P.underlying t with
    | some .string => some (.ix a j)
    | some (.array len e) => (aggT P e).bind fun ag => (szOf P e).map fun sz => .ixa len sz ag a j
    | _ => none
  | .slice t x lo hi mx => (R x).bind fun a => cSlice P R t a lo hi mx
  | .extract x j => (R x).map (.ext j)
  | .load t x => (R x).bind fun a => match aggT P t with
    | some true => (szOf P t).bind fun n => if n = 0 then none else some (.lda n a)
    | some false => some (.ld a)
    | none => none
  | .build t ps => cBuild P R t ps.toList
  | .lookup t m k ok => (R m).bind fun a => (R k).bind fun b => match P.underlying t with
    | some (.map kt et) => (keyOfT P kt).bind fun g => (zvOf P et).map fun z => .lk g.1 g.2 ok z a b
    | _ => none
  | .makeInterface t x => (R x).bind fun a => match P.underlying t with
    | some d => if isIface d then none else some (.mi t a)
    | none => none
  | .makeFunc (.func f) first cap => if f < 4096 then (Rl R first.toList).bind fun l => (Rl R cap.toList).map fun r => .mf (fkOf f) l r else none
  | .typeAssert x _ t ok => (R x).bind fun a => match P.underlying t with
    | some d => if isIface d then none else (zvOf P t).map fun z => .ta t z ok a
    | none => none
  | .entry x => (R x).map .en
  | .call c => match c.callee, c.args.toList, c.argTypes.toList with
    | .builtin .len, [x], [t] => (R x).bind fun a => match P.underlying t with
      | some .string => some (.ls a)
      | some (.slice _) => some (.ll a)
      | some (.map ..) => some (.lm a)
      | _ => none
    | .builtin .max, [x, y], _ => (R x).bind fun a => (R y).map fun b => .mx a b
    | .value (.func g), [x, y], _ => if ix g && decide (g < 4096) then (R x).bind fun a => (R y).map fun b => .ixb a b else none
    | .value (.func g), [x], _ => if ix (g + 4096) then (R x).map .mv else none
    | .builtin .unsafeSliceData, [x], _ => (R x).map .sd
    | _, _, _ => none
  | _ => none
/-- what a resolver says -/
def Good (ρ : Ren) (R : Rs) (st : List AV) (e : Env) (a : Act) : Prop := ∀ x y, R x = some y → V ρ (opd y st e) (a.eval x)
theorem Good.opt {R : Rs} {st : List AV} {e : Env} {a : Act} (g : Good ρ R st e a) {z : AV} {o : Option Operand} {y : X} (ha : Ro R z o = some y) : OptR ρ z (opd y st e) (o.map a.eval) := by
  cases o with
  | none => cases ha; rfl
  | some o => exact g o y ha
theorem Good.list {R : Rs} {st : List AV} {e : Env} {a : Act} (g : Good ρ R st e a) : ∀ {os : List Operand} {l : List X}, Rl R os = some l → Vs ρ (l.map fun y => opd y st e) (os.map a.eval) := by
  intro os
  induction os with
  | nil => intro l hl; cases hl; exact Vs.nil _
  | cons o os ih =>
    intro l hl
    obtain ⟨x, hx, hl⟩ := Option.bind_eq_some_iff.1 hl
    obtain ⟨r, hr, rfl⟩ := Option.map_eq_some_iff.1 hl
    exact Vs.cons (g _ _ hx) (ih hr)
theorem evXs_inv (st : List AV) (e : Env) : ∀ (xs : List X) (K : List AV → Bool), evXs xs st e K = true → K (xs.map fun a => opd a st e) = true := by
  intro xs
  induction xs with
  | nil => exact fun K hh => hh
  | cons x xs ih =>
    intro K hh
    have h1 : frcV (opd x st e) (xs1 (evXs xs) st e K) = true := hh
    obtain ⟨_, h2⟩ := frcV_inv h1
    exact ih _ h2
end Go.Ev
set_option linter.constructorNameAsVariable false
namespace Go.Ev
open Go
variable {P : Program} {w : World} {ρ : Ren} {h : Heap} {nx : BK}

theorem run_v {s : Sem Value} {c : Value} {w w' : World} (hs : s.run P w = .ok c w') : (do pure (Next.value (← s)) : Sem Next).run P w = .ok (.value c) w' := by simp [hs]
theorem run_u {s : Sem Unit} {w w' : World} (hs : s.run P w = .ok () w') : (do s; pure Next.skip : Sem Next).run P w = .ok .skip w' := by simp [hs]
theorem run_then {α β : Type} {s : Sem α} {f : α → Sem β} {a : α} {w w' : World} (hs : s.run P w = .ok a w') : (s >>= f).run P w = (f a).run P w' := by simp [hs]

def RSem (P : Program) (o : Oper) (R : Rs) (st : List AV) (e : Env) (rd : Bool) (h : Heap) (v : AV) : Prop :=
  ∀ ρ nx w (ac : Act), (rd = true → Rel ρ h nx w) → Good ρ R st e ac → ∃ c, (execOp ac.eval o).run P w = .ok (.value c) w ∧ V ρ v c

section
variable {R : Rs} {st : List AV} {e : Env} {K : AV → Bool}
theorem bin_ok {op : BinOp} {t : TypeId} {x y : Operand} {a b : X} {i : RI} {yt : TypeId} {ds : Option Tmp} {ty : TypeId} {pos : String} {af : Array Edge} {gd : Option (Nat × Bool)}
    (hx : R x = some a) (hy : R y = some b) (hc : cBin P op t x y a b = some i) (hh : evR i st e h K = true) :
    i.reads = false ∧ ∃ v, K v = true ∧ RSem P ⟨ds, .binOp op t x y yt, ty, pos, af, gd⟩ R st e false h v := by
  have go : ∀ {v : AV}, (∀ ρ w (ac : Act), Good ρ R st e ac → ∃ r, V ρ v r ∧ (eqGuard op t x y (ac.eval x) (ac.eval y)).run P w = .ok () w ∧ (binOp op t (ac.eval x) (ac.eval y)).run P w = .ok r w) →
      RSem P ⟨ds, .binOp op t x y yt, ty, pos, af, gd⟩ R st e false h v := by
    intro v hv ρ nx w ac _ hg
    obtain ⟨r, h1, h2, h3⟩ := hv ρ w ac hg
    exact ⟨r, run_v (by rw [run_then h2, h3]), h1⟩
  unfold cBin at hc
  split at hc
  · cases hc
    obtain ⟨h1, h2⟩ := frcV_inv (show frcV (ibV (opd a st e) op (opd b st e)) K = true from hh)
    refine ⟨rfl, _, h2, go fun ρ w ac hg => ?_⟩
    obtain ⟨r, q1, q2, k, n, q3⟩ := ib_ok (P := P) (w := w) op t (hg x a hx) (hg y b hy) h1
    exact ⟨r, q2, by rw [q3]; exact ib_guard op t x y k n _, q1⟩
  · split at hc
    · rename_i hop
      cases hc
      subst hop
      obtain ⟨z, h1, h2⟩ := sc_ok (P := P) t (show asS (opd a st e) (sc0 (opd b st e) K) = true from hh)
      refine ⟨rfl, z, h1, go fun ρ w ac hg => ?_⟩
      obtain ⟨r, q1, q2, s, q3⟩ := h2 ρ w _ _ (hg x a hx) (hg y b hy)
      exact ⟨r, q1, by rw [q3]; exact str_guard _ t x y s _, q2⟩
    · rename_i hop
      cases hc
      obtain ⟨h1, h2⟩ := frcV_inv (show frcV (sbV (opd a st e) op (opd b st e)) K = true from hh)
      refine ⟨rfl, _, h2, go fun ρ w ac hg => ?_⟩
      obtain ⟨r, q1, q2, s, q3⟩ := sb_ok (P := P) (w := w) op t (hg x a hx) (hg y b hy) hop h1
      exact ⟨r, q2, by rw [q3]; exact str_guard _ t x y s _, q1⟩
  · rename_i hu
    obtain ⟨ne, hne, rfl⟩ := Option.map_eq_some_iff.1 hc
    obtain ⟨h1, h2⟩ := frcV_inv (show frcV (bbV (opd a st e) ne (opd b st e)) K = true from hh)
    refine ⟨rfl, _, h2, go fun ρ w ac hg => ?_⟩
    obtain ⟨r, q1, q2, s, q3⟩ := bb_ok (P := P) (w := w) op ne t hu hne (hg x a hx) (hg y b hy) h1
    exact ⟨r, q2, by rw [q3]; exact bool_guard _ t x y s _, q1⟩
  · obtain ⟨ne, hne, hc⟩ := Option.bind_eq_some_iff.1 hc
    obtain ⟨ks, _, hc⟩ := Option.bind_eq_some_iff.1 hc
    split at hc
    · rename_i hT
      cases hc
      obtain ⟨h1, h2⟩ := frcV_inv (show frcV (notV (aggEqV (opd a st e) ks (opd b st e)) ne) K = true from hh)
      refine ⟨rfl, _, h2, go fun ρ w ac hg => ?_⟩
      obtain ⟨r, q1, q2, q3⟩ := ae_ok (P := P) (w := w) op ne hne t ks hT (hg x a hx) (hg y b hy) h1
      exact ⟨r, q1, q3 x y, q2⟩
    · cases hc
  · rename_i d _ _ _ _ hd
    obtain ⟨ne, hne, hc⟩ := Option.bind_eq_some_iff.1 hc
    obtain ⟨kd, hkd, hc⟩ := Option.bind_eq_some_iff.1 hc
    split at hc
    · rename_i hn
      cases hc
      obtain ⟨z, hz, rfl⟩ := nilConst_ok hn
      obtain ⟨h1, h2⟩ := frcV_inv (show frcV (nilV (opd a st e) kd ne) K = true from hh)
      refine ⟨rfl, _, h2, go fun ρ w ac hg => ?_⟩
      obtain ⟨r, q1, q2, _, q3⟩ := nl_ok (P := P) (w := w) op kd ne hne t d hd hkd z hz (hg x a hx) h1
      exact ⟨r, q1, (q3 x _).1 rfl, q2⟩
    · split at hc
      · rename_i hn
        cases hc
        obtain ⟨z, hz, rfl⟩ := nilConst_ok hn
        obtain ⟨h1, h2⟩ := frcV_inv (show frcV (nilV (opd b st e) kd ne) K = true from hh)
        refine ⟨rfl, _, h2, go fun ρ w ac hg => ?_⟩
        obtain ⟨r, q1, _, q2, q3⟩ := nl_ok (P := P) (w := w) op kd ne hne t d hd hkd z hz (hg y b hy) h1
        exact ⟨r, q1, (q3 _ y).2 rfl, q2⟩
      · unfold cPtr at hc
        split at hc
        · rename_i te
          split at hc
          · rename_i hte
            cases hc
            obtain ⟨j, hj⟩ := Option.isSome_iff_exists.1 hte
            obtain ⟨h1, h2⟩ := frcV_inv (show frcV (peV (opd a st e) (opd b st e)) K = true from hh)
            refine ⟨rfl, _, h2, go fun ρ w ac hg => ?_⟩
            obtain ⟨r, q1, q2⟩ := pe_ok (P := P) (w := w) hd hj (hg x a hx) (hg y b hy) h1
            have hop : op = .neq := by cases op <;> first | rfl | cases hne
            subst hop
            refine ⟨r, q1, ?_, q2⟩
            obtain ⟨c, hc⟩ : ∃ c, ac.eval x = .pointer c := by
              have hv := hg x a hx
              revert h1 hv
              generalize ac.eval x = cc
              cases opd a st e with
              | p k o => intro _ hv; cases hv; exact ⟨_, rfl⟩
              | _ => intro h1; cases h1
            rw [hc]
            unfold eqGuard
            split <;> simp
          · cases hc
        · cases hc
  · cases hc
theorem conv_ok {s d : TypeId} {x : Operand} {a : X} {i : RI} {ds : Option Tmp} {ty : TypeId} {pos : String} {af : Array Edge} {gd : Option (Nat × Bool)}
    (hx : R x = some a) (hc : cConv P s d a = some i) (hh : evR i st e h K = true) :
    ∃ v, K v = true ∧ RSem P ⟨ds, .convert s d x, ty, pos, af, gd⟩ R st e i.reads h v := by
  have go : ∀ {v : AV} {rd : Bool}, (∀ ρ nx w (ac : Act), (rd = true → Rel ρ h nx w) → Good ρ R st e ac → ∃ r, V ρ v r ∧ (convert s d (ac.eval x)).run P w = .ok r w) →
      RSem P ⟨ds, .convert s d x, ty, pos, af, gd⟩ R st e rd h v := by
    intro v rd hv ρ nx w ac hr hg
    obtain ⟨r, h1, h3⟩ := hv ρ nx w ac hr hg
    exact ⟨r, run_v h3, h1⟩
  unfold cConv at hc
  split at hc
  · rename_i ks k hs hd
    cases hc
    obtain ⟨h1, h2⟩ := frcV_inv (show frcV (cvtV (opd a st e) k) K = true from hh)
    refine ⟨_, h2, go fun ρ nx w ac _ hg => ?_⟩
    obtain ⟨r, q1, q2⟩ := cv_ok (P := P) s d ks k hs hd (hg x a hx) h1
    exact ⟨r, q1, q2 w⟩
  · rename_i hs hd
    cases hc
    obtain ⟨l, h1, h2⟩ := asS_inv (show asS (opd a st e) (ss1 (.i .i64 (.ofNat 0)) (.k .bad) K) = true from hh)
    have h2 : len l (ss2 (.i .i64 (.ofNat 0)) (.k .bad) l K) = true := h2
    rw [len_eq] at h2
    have h2 : ss3 l l.length 0 l.length K = true := h2
    obtain ⟨_, h3⟩ := ifb_true (show ifb (ifb (Nat.ble 0 l.length) (Nat.ble l.length l.length) false) (drp 0 l (ss4 (Nat.sub l.length 0) K)) false = true from h2)
    have h3 : tak (l.length - 0) l (ks K) = true := h3
    rw [tak_eq] at h3
    simp only [Nat.sub_zero, Nat.le_refl, decide_true, Bool.true_and, List.take_length] at h3
    refine ⟨_, h3, go fun ρ nx w ac _ hg => ?_⟩
    have hv := hg x a hx
    rw [h1] at hv
    exact ⟨_, hv, s2s_ok (P := P) s d hs hd hv w⟩
  · rename_i ks hs hd
    cases hc
    obtain ⟨h1, h2⟩ := frcV_inv (show frcV (i2sV (opd a st e)) K = true from hh)
    refine ⟨_, h2, go fun ρ nx w ac _ hg => ?_⟩
    obtain ⟨r, q1, q2⟩ := i2s_ok (P := P) s d ks hs hd (hg x a hx) h1
    exact ⟨r, q1, q2 w⟩
  · rename_i el hs hd
    split at hc
    · rename_i h8
      cases hc
      obtain ⟨y, h1, h2⟩ := b2s_ok (P := P) s d el hs (isU8_ok h8) hd (show asSl (opd a st e) (K (.s [])) (b2s1 h K) = true from hh)
      refine ⟨y, h1, go fun ρ nx w ac hr hg => ?_⟩
      exact h2 ρ nx w _ (hr rfl) (hg x a hx)
    · cases hc
  · rename_i t hs hd
    split at hc
    · rename_i j hj
      split at hc
      · rename_i h0
        cases hc
        obtain ⟨h1, h2⟩ := frcV_inv (show frcV (upV (opd a st e) h) K = true from hh)
        refine ⟨_, h2, go fun ρ nx w ac hr hg => ?_⟩
        exact up_ok (P := P) hs hd hj h0 (hr rfl) (hg x a hx) h1
      · cases hc
    · cases hc
  · rename_i u hs hd
    split at hc
    · rename_i hu
      cases hc
      obtain ⟨j, hj⟩ := Option.isSome_iff_exists.1 hu
      obtain ⟨h1, h2⟩ := frcV_inv (show frcV (puV (opd a st e) h (liesL P u)) K = true from hh)
      refine ⟨_, h2, go fun ρ nx w ac hr hg => ?_⟩
      exact pu_ok (P := P) hs hd hj (fun t n h => liesL_ok h) (hr rfl) (hg x a hx) h1
    · cases hc
  · cases hc
theorem slice_ok {t : TypeId} {x : Operand} {lo hi mx : Option Operand} {a : X} {i : RI} {ds : Option Tmp} {ty : TypeId} {pos : String} {af : Array Edge} {gd : Option (Nat × Bool)}
    (hx : R x = some a) (hc : cSlice P R t a lo hi mx = some i) (hh : evR i st e h K = true) :
    ∃ v, K v = true ∧ RSem P ⟨ds, .slice t x lo hi mx, ty, pos, af, gd⟩ R st e i.reads h v := by
  have go : ∀ {v : AV} {rd : Bool}, (∀ ρ nx w (ac : Act), (rd = true → Rel ρ h nx w) → Good ρ R st e ac → ∃ r, V ρ v r ∧ (Instr.sliceAt t (ac.eval x) (lo.map ac.eval) (hi.map ac.eval) (mx.map ac.eval)).run P w = .ok r w) →
      RSem P ⟨ds, .slice t x lo hi mx, ty, pos, af, gd⟩ R st e rd h v := by
    intro v rd hv ρ nx w ac hr hg
    obtain ⟨r, h1, h3⟩ := hv ρ nx w ac hr hg
    exact ⟨r, run_v h3, h1⟩
  unfold cSlice at hc
  obtain ⟨l, hl, hc⟩ := Option.bind_eq_some_iff.1 hc
  obtain ⟨u, hu, hc⟩ := Option.bind_eq_some_iff.1 hc
  split at hc
  · rename_i ht
    split at hc
    · rename_i hm
      cases hc
      have : mx = none := by simpa using hm
      subst this
      obtain ⟨y, h1, h2⟩ := ss_ok (P := P) t ht (show asS (opd a st e) (ss1 (opd l st e) (opd u st e) K) = true from hh)
      refine ⟨y, h1, go fun ρ nx w ac _ hg => ?_⟩
      exact h2 ρ w _ _ _ (hg x a hx) (hg.opt hl) (hg.opt hu)
    · cases hc
  · rename_i el ht
    obtain ⟨n, hn, hc⟩ := Option.bind_eq_some_iff.1 hc
    split at hc
    · cases hc
    · rename_i hm
      obtain ⟨m, hmx, rfl⟩ := Option.map_eq_some_iff.1 hc
      obtain ⟨h1, h2⟩ := frcV_inv (show frcV (svV n (opd a st e) (opd l st e) (opd u st e) (opd m st e) h) K = true from hh)
      refine ⟨_, h2, go fun ρ nx w ac hr hg => ?_⟩
      refine sv_ok (P := P) t el n ht hn (hr rfl) (hg x a hx) (hg.opt hl) (hg.opt hu) (hg.opt hmx) ?_ h1
      cases mx <;> cases hi <;> simp_all
  · cases hc
theorem parts_ok {place : Nat → Option (Nat × Nat)} : ∀ {ps : List (Nat × Operand)} {l : List (Nat × Nat × X)}, cParts R place ps = some l →
    l.length = ps.length ∧ ∀ (j : Nat) p v, l[j]? = some p → ps[j]? = some v → place v.1 = some (p.1, p.2.1) ∧ R v.2 = some p.2.2 := by
  intro ps
  induction ps with
  | nil => intro l hl; cases hl; exact ⟨rfl, fun j p v hp => by simp at hp⟩
  | cons q ps ih =>
    intro l hl
    obtain ⟨i, x⟩ := q
    obtain ⟨p, hp, hl⟩ := Option.bind_eq_some_iff.1 hl
    obtain ⟨a, ha, hl⟩ := Option.bind_eq_some_iff.1 hl
    obtain ⟨r, hr, rfl⟩ := Option.map_eq_some_iff.1 hl
    obtain ⟨h1, h2⟩ := ih hr
    refine ⟨by simp [h1], fun j p' v hp' hv => ?_⟩
    cases j with
    | zero => simp at hp' hv; subst hp'; subst hv; exact ⟨hp, ha⟩
    | succ j => exact h2 j p' v (by simpa using hp') (by simpa using hv)
theorem fill_inv {place : Nat → Option (Nat × Nat)} {cs : Array Value} {i : Nat} {v : Value} {rest : List (Nat × Value)} {r : Array Value} (hf : Instr.fill place cs ((i, v) :: rest) = some r) :
    ∃ off, place i = some (off, v.cells.size) ∧ off + v.cells.size ≤ cs.size := by
  rw [Instr.fill] at hf
  cases hp : place i with
  | none => rw [hp] at hf; cases hf
  | some p =>
    obtain ⟨off, sz⟩ := p
    rw [hp] at hf
    simp only at hf
    split at hf
    · cases hf
    · rename_i hc
      simp at hc
      exact ⟨off, by rw [hc.1], by omega⟩
theorem fill_at {place : Nat → Option (Nat × Nat)} {cs : Array Value} {i : Nat} {v : Value} {off : Nat} (hp : place i = some (off, v.cells.size)) (A B C : List Value) (hc : cs.toList = A ++ (B ++ C)) (hA : A.length = off) (hB : B.length = v.cells.size) (rest : List (Nat × Value)) :
    ∃ cs' : Array Value, cs'.toList = A ++ (v.cells.toList ++ C) ∧ Instr.fill place cs ((i, v) :: rest) = Instr.fill place cs' rest := by
  have hsz : cs.size = A.length + (B.length + C.length) := by have := congrArg List.length hc; simpa using this
  obtain ⟨cs', h1, h2⟩ := fill_step place cs i v rest off _ hp rfl (by omega)
  refine ⟨cs', ?_, h2⟩
  rw [h1, hc]
  have e1 : (A ++ (B ++ C)).take off = A := by rw [← hA]; simp
  have e2 : (A ++ (B ++ C)).drop (off + v.cells.size) = C := by
    rw [← hA, ← hB, ← List.append_assoc, ← List.length_append]
    simp
  rw [e1, e2]
theorem fill_swap {place : Nat → Option (Nat × Nat)} {cs : Array Value} {i j : Nat} {u v : Value} {rest : List (Nat × Value)} {r : Array Value} (hf : Instr.fill place cs ((j, v) :: (i, u) :: rest) = some r)
    {o1 s1 o2 s2 : Nat} (hi : place i = some (o1, s1)) (hj : place j = some (o2, s2)) (hle : o2 + s2 ≤ o1) : Instr.fill place cs ((i, u) :: (j, v) :: rest) = some r := by
  obtain ⟨q2, e2, l2⟩ := fill_inv hf
  obtain ⟨c1, k1, k2⟩ := fill_step place cs j v ((i, u) :: rest) q2 _ e2 rfl l2
  have hf' := hf
  rw [k2] at hf'
  obtain ⟨q1, e1, l1⟩ := fill_inv hf'
  have hsz : c1.size = cs.size := by
    have := congrArg List.length k1
    simp at this
    omega
  have g1 : q1 = o1 ∧ u.cells.size = s1 := by rw [hi] at e1; simpa [eq_comm] using e1
  have g2 : q2 = o2 ∧ v.cells.size = s2 := by rw [hj] at e2; simpa [eq_comm] using e2
  have hd : cs.toList = cs.toList.take q2 ++ ((cs.toList.drop q2).take v.cells.size ++ ((cs.toList.drop (q2 + v.cells.size)).take (q1 - (q2 + v.cells.size)) ++ ((cs.toList.drop q1).take u.cells.size ++ cs.toList.drop (q1 + u.cells.size)))) := by
    have e3 : cs.toList.drop (q1 + u.cells.size) = (cs.toList.drop q1).drop u.cells.size := by rw [List.drop_drop]
    rw [e3, List.take_append_drop]
    have e4 : cs.toList.drop q1 = (cs.toList.drop (q2 + v.cells.size)).drop (q1 - (q2 + v.cells.size)) := by
      rw [List.drop_drop]; congr 1; omega
    rw [e4, List.take_append_drop]
    rw [← List.drop_drop, List.take_append_drop, List.take_append_drop]
  generalize hA : cs.toList.take q2 = A at hd
  generalize hB : (cs.toList.drop q2).take v.cells.size = B at hd
  generalize hM : (cs.toList.drop (q2 + v.cells.size)).take (q1 - (q2 + v.cells.size)) = M at hd
  generalize hD : (cs.toList.drop q1).take u.cells.size = D at hd
  generalize hE : cs.toList.drop (q1 + u.cells.size) = E at hd
  have lA : A.length = q2 := by rw [← hA]; simp; omega
  have lB : B.length = v.cells.size := by rw [← hB]; simp; omega
  have lM : M.length = q1 - (q2 + v.cells.size) := by rw [← hM]; simp; omega
  have lD : D.length = u.cells.size := by rw [← hD]; simp; omega
  obtain ⟨x1, y1, z1⟩ := fill_at e2 A B (M ++ (D ++ E)) hd lA lB ((i, u) :: rest)
  obtain ⟨x2, y2, z2⟩ := fill_at e1 (A ++ (v.cells.toList ++ M)) D E (by rw [y1]; simp) (by simp; omega) lD rest
  obtain ⟨x3, y3, z3⟩ := fill_at e1 (A ++ (B ++ M)) D E (by rw [hd]; simp) (by simp; omega) lD ((j, v) :: rest)
  obtain ⟨x4, y4, z4⟩ := fill_at e2 A B (M ++ (u.cells.toList ++ E)) (by rw [y3]; simp) lA lB rest
  have : x4 = x2 := by
    apply Array.ext'
    rw [y4, y2]
    simp
  rw [z3, z4, this, ← z2, ← z1]
  exact hf
theorem ins_ok {place : Nat → Option (Nat × Nat)} {f : Operand → Value} {x : Nat × Operand} : ∀ {l l' : List (Nat × Operand)} {cs r : Array Value}, insP place x l = some l' → Instr.fill place cs (l'.map fun v => (v.1, f v.2)) = some r → Instr.fill place cs ((x :: l).map fun v => (v.1, f v.2)) = some r := by
  intro l
  induction l with
  | nil => intro l' cs r hl hf; cases hl; exact hf
  | cons y l ih =>
    intro l' cs r hl hf
    obtain ⟨p, hp, hl⟩ := Option.bind_eq_some_iff.1 hl
    obtain ⟨q, hq, hl⟩ := Option.bind_eq_some_iff.1 hl
    split at hl
    · cases hl; exact hf
    · split at hl
      · rename_i hle
        obtain ⟨l2, hl2, rfl⟩ := Option.map_eq_some_iff.1 hl
        simp only [List.map_cons] at hf ⊢
        refine fill_swap (i := x.1) (j := y.1) ?_ (o1 := p.1) (s1 := p.2) (o2 := q.1) (s2 := q.2) hp hq hle
        obtain ⟨off, e1, e2⟩ := fill_inv hf
        obtain ⟨c1, _, k2⟩ := fill_step place cs y.1 (f y.2) (l2.map fun v => (v.1, f v.2)) off _ e1 rfl e2
        obtain ⟨c1', k1', k2'⟩ := fill_step place cs y.1 (f y.2) ((x.1, f x.2) :: l.map fun v => (v.1, f v.2)) off _ e1 rfl e2
        obtain ⟨c2, k3, k4⟩ := fill_step place cs y.1 (f y.2) (l2.map fun v => (v.1, f v.2)) off _ e1 rfl e2
        have : c1' = c2 := by apply Array.ext'; rw [k1', k3]
        rw [k2', this]
        rw [k4] at hf
        exact ih hl2 hf
      · cases hl
theorem sort_ok {place : Nat → Option (Nat × Nat)} {f : Operand → Value} : ∀ {l l' : List (Nat × Operand)} {cs r : Array Value}, sortP place l = some l' → Instr.fill place cs (l'.map fun v => (v.1, f v.2)) = some r → Instr.fill place cs (l.map fun v => (v.1, f v.2)) = some r := by
  intro l
  induction l with
  | nil => intro l' cs r hl hf; cases hl; exact hf
  | cons x l ih =>
    intro l' cs r hl hf
    obtain ⟨l2, hl2, hl⟩ := Option.bind_eq_some_iff.1 hl
    have h1 := ins_ok hl hf
    simp only [List.map_cons] at h1 ⊢
    obtain ⟨off, e1, e2⟩ := fill_inv h1
    obtain ⟨c1, k1, k2⟩ := fill_step place cs x.1 (f x.2) (l2.map fun v => (v.1, f v.2)) off _ e1 rfl e2
    obtain ⟨c2, k3, k4⟩ := fill_step place cs x.1 (f x.2) (l.map fun v => (v.1, f v.2)) off _ e1 rfl e2
    have : c2 = c1 := by apply Array.ext'; rw [k1, k3]
    rw [k4, this]
    rw [k2] at h1
    exact ih hl2 h1
theorem build_ok {t : TypeId} {ps : Array (Nat × Operand)} {i : RI} {ds : Option Tmp} {ty : TypeId} {pos : String} {af : Array Edge} {gd : Option (Nat × Bool)}
    (hc : cBuild P R t ps.toList = some i) (hh : evR i st e h K = true) :
    i.reads = false ∧ ∃ v, K v = true ∧ RSem P ⟨ds, .build t ps, ty, pos, af, gd⟩ R st e false h v := by
  unfold cBuild at hc
  obtain ⟨z, hz, hc⟩ := Option.bind_eq_some_iff.1 hc
  obtain ⟨place, hp, hc⟩ := Option.bind_eq_some_iff.1 hc
  obtain ⟨sps, hsp, hc⟩ := Option.bind_eq_some_iff.1 hc
  obtain ⟨l, hl, hc⟩ := Option.bind_eq_some_iff.1 hc
  split at hc
  · rename_i hok
    cases hc
    obtain ⟨r, h1, h2⟩ := evP_inv st e _ _ (show evP (mkPcs z 0 l) st e (kagg K) = true from hh)
    refine ⟨rfl, .agg r, h1, fun ρ nx w ac _ hg => ?_⟩
    obtain ⟨zc, hzc, hzv, hz1⟩ := zlOf_ok hz
    obtain ⟨p1, p2⟩ := parts_ok hl
    obtain ⟨cs', B, q1, q2, q3, q4⟩ := fill_ok (ρ := ρ) st e place z zc.cells.toList (hzv ρ) hz1 l (sps.map fun v => (v.1, ac.eval v.2)) 0 r zc.cells [] hok h2 (by simp [p1])
      (fun j p v hj hv => by
        rw [List.getElem?_map] at hv
        obtain ⟨q, hq, rfl⟩ := Option.map_eq_some_iff.1 hv
        obtain ⟨g1, g2⟩ := p2 j p q hj hq
        exact ⟨g1, hg _ _ g2⟩) (by simp) rfl (Nat.zero_le _)
    refine ⟨.agg cs', run_v (run_build w t _ cs' ?_), V.agg' (by rw [q2]; exact q3) q4⟩
    rw [Array.toList_map]
    have e1 : (ps.toList.map fun x => match x with | (i, x) => (i, ac.eval x)) = ps.toList.map fun v => (v.1, ac.eval v.2) := rfl
    rw [e1]
    have q1 := sort_ok (f := ac.eval) hsp q1
    obtain ⟨it, hit, hz0⟩ := Option.bind_eq_some_iff.1 hzc
    unfold placeOf at hp
    unfold Program.built
    split at hp
    · rename_i fs hu
      obtain ⟨pl, hpl, rfl⟩ := Option.map_eq_some_iff.1 hp
      simp only [hit, hu, hz0, hpl]
      exact q1
    · rename_i n el hu
      obtain ⟨ie, hie, rfl⟩ := Option.map_eq_some_iff.1 hp
      simp only [hit, hu, hz0, hie]
      exact q1
    · cases hp
  · cases hc
end
end Go.Ev
set_option linter.constructorNameAsVariable false
namespace Go.Ev
open Go
variable {P : Program} {w : World} {ρ : Ren} {h : Heap} {nx : BK}
section
variable {R : Rs} {st : List AV} {e : Env} {K : AV → Bool}
theorem isIface_ok {d : TypeDesc} (hd : ¬ isIface d = true) : (match d with | .interface _ => true | _ => false) = false := by
  cases d <;> simp [isIface] at hd ⊢
/-- a function of the library that finds a byte -/
def IxOk (P : Program) (ix : Nat → Bool) : Prop := (∀ g, g < 4096 → ix g = true → ∀ args w v, (Extern.BytealgIndexByte.indexByte args).run P w = .ok v w → (callFunc g args).run P w = .ok (.value v) w) ∧ ∀ g, ix (g + 4096) = true → ∀ (x : Value) w, (callFunc g #[x]).run P w = .ok (.value x) w
theorem nc_run {c : Value} {a : Addr} (hc : c = .pointer (some a)) (x : Operand) (ac : Act) (hx : ac.eval x = c) (ds : Option Tmp) (ty : TypeId) (pos : String) (af : Array Edge) (gd : Option (Nat × Bool)) (w : World) :
    (execOp ac.eval ⟨ds, .nilCheck x, ty, pos, af, gd⟩).run P w = .ok (.value c) w := by
  subst hc
  show (match ac.eval x with
    | .pointer none | .nilIface | .nilFunc => runtimePanic .nilDeref
    | .func (.method name) first captured => _
    | x => pure (.value x) : Sem Next).run P w = _
  rw [hx]
  rfl
theorem call_builtin (b : Builtin) (args : Array Operand) (ats : Array TypeId) (ρ : Operand → Value) (ds : Option Tmp) (ty : TypeId) (pos : String) (af : Array Edge) (gd : Option (Nat × Bool)) :
    ∃ cs, execOp ρ ⟨ds, .call ⟨.builtin b, args, ats⟩, ty, pos, af, gd⟩ = builtin b ats ty cs (args.map ρ) := ⟨_, rfl⟩
theorem builtin1 {b : Builtin} {f : Array TypeId → TypeId → Array Value → Sem Value} (hb : ∀ ats ty cs args, builtin b ats ty cs args = do pure (.value (← f ats ty args))) {l : List Operand} {ats : Array TypeId} {ρ : Operand → Value} {ds : Option Tmp} {ty : TypeId} {pos : String} {af : Array Edge}
    {gd : Option (Nat × Bool)} {r : Value} {w w' : World} (h : (f ats ty (l.map ρ).toArray).run P w = .ok r w') : (execOp ρ ⟨ds, .call ⟨.builtin b, ⟨l⟩, ats⟩, ty, pos, af, gd⟩).run P w = .ok (.value r) w' := by
  obtain ⟨cs, hcs⟩ := call_builtin b ⟨l⟩ ats ρ ds ty pos af gd
  rw [hcs, hb]
  exact run_v (by rw [List.map_toArray]; exact h)
theorem cR_ok {ix : Nat → Bool} (hix : IxOk P ix) {o : Oper} {i : RI} (hc : cR P ix R o = some i) (hh : evR i st e h K = true) : ∃ v, K v = true ∧ RSem P o R st e i.reads h v := by
  obtain ⟨ds, op, ty, pos, af, gd⟩ := o
  unfold cR at hc
  split at hc <;> rename_i hop <;> (try simp only at hop) <;> (try subst hop)
  · -- move
    rename_i x
    obtain ⟨a, hx, rfl⟩ := Option.map_eq_some_iff.1 hc
    obtain ⟨_, h2⟩ := frcV_inv (show frcV (opd a st e) K = true from hh)
    exact ⟨_, h2, fun ρ nx w ac _ hg => ⟨_, rfl, hg x a hx⟩⟩
  · rename_i x
    obtain ⟨a, hx, rfl⟩ := Option.map_eq_some_iff.1 hc
    obtain ⟨_, h2⟩ := frcV_inv (show frcV (opd a st e) K = true from hh)
    exact ⟨_, h2, fun ρ nx w ac _ hg => ⟨_, rfl, hg x a hx⟩⟩
  · -- pick
    rename_i x y z
    obtain ⟨a, hx, hc⟩ := Option.bind_eq_some_iff.1 hc
    obtain ⟨b, hy, hc⟩ := Option.bind_eq_some_iff.1 hc
    obtain ⟨c, hz, rfl⟩ := Option.map_eq_some_iff.1 hc
    obtain ⟨h1, h2⟩ := frcV_inv (show frcV (pickV (opd a st e) (opd b st e) (opd c st e)) K = true from hh)
    refine ⟨_, h2, fun ρ nx w ac _ hg => ?_⟩
    obtain ⟨r, q1, q2⟩ := pick_ok (P := P) (hg x a hx) (hg y b hy) (hg z c hz) h1
    exact ⟨r, q2 w, q1⟩
  · -- binOp
    rename_i op t x y yt
    obtain ⟨a, hx, hc⟩ := Option.bind_eq_some_iff.1 hc
    obtain ⟨b, hy, hc⟩ := Option.bind_eq_some_iff.1 hc
    obtain ⟨h1, h2⟩ := bin_ok (P := P) (h := h) (yt := yt) (ds := ds) (ty := ty) (pos := pos) (af := af) (gd := gd) hx hy hc hh
    rw [h1]; exact h2
  · rename_i t x
    obtain ⟨a, hx, rfl⟩ := Option.map_eq_some_iff.1 hc
    obtain ⟨h1, h2⟩ := frcV_inv (show frcV (notV1 (opd a st e)) K = true from hh)
    refine ⟨_, h2, fun ρ nx w ac _ hg => ?_⟩
    obtain ⟨r, q1, q2⟩ := not_ok (P := P) (hg x a hx) h1
    exact ⟨r, run_v (q2 w), q1⟩
  · rename_i t x
    obtain ⟨a, hx, rfl⟩ := Option.map_eq_some_iff.1 hc
    obtain ⟨h1, h2⟩ := frcV_inv (show frcV (negV (opd a st e)) K = true from hh)
    refine ⟨_, h2, fun ρ nx w ac _ hg => ?_⟩
    obtain ⟨r, q1, q2⟩ := neg_ok (P := P) (hg x a hx) h1
    exact ⟨r, run_v (q2 w), q1⟩
  · rename_i s d x
    obtain ⟨a, hx, hc⟩ := Option.bind_eq_some_iff.1 hc
    exact conv_ok hx hc hh
  · rename_i x
    obtain ⟨a, hx, rfl⟩ := Option.map_eq_some_iff.1 hc
    obtain ⟨h1, h2⟩ := frcV_inv (show frcV (ncV (opd a st e)) K = true from hh)
    refine ⟨_, h2, fun ρ nx w ac _ hg => ?_⟩
    obtain ⟨ad, q1, q2⟩ := nc_ok (hg x a hx) h1
    exact ⟨_, nc_run q1 x ac rfl _ _ _ _ _ w, q2⟩
  · -- fieldAddr
    rename_i t x f
    obtain ⟨a, hx, hc⟩ := Option.bind_eq_some_iff.1 hc
    split at hc
    · rename_i fs ht
      obtain ⟨fd, hf, hc⟩ := Option.bind_eq_some_iff.1 hc
      obtain ⟨n, hn, hc⟩ := Option.bind_eq_some_iff.1 hc
      split at hc
      · cases hc
      · rename_i h0
        cases hc
        obtain ⟨h1, h2⟩ := frcV_inv (show frcV (faV (opd a st e) fd.offset) K = true from hh)
        refine ⟨_, h2, fun ρ nx w ac _ hg => ?_⟩
        obtain ⟨r, q1, q2⟩ := fa_ok (P := P) t fs f fd ht hf n hn h0 (hg x a hx) h1
        exact ⟨r, run_v (q2 w), q1⟩
    · cases hc
  · -- indexAddr
    rename_i t x ii
    obtain ⟨a, hx, hc⟩ := Option.bind_eq_some_iff.1 hc
    obtain ⟨b, hy, hc⟩ := Option.bind_eq_some_iff.1 hc
    split at hc
    · rename_i el ht
      obtain ⟨n, hn, rfl⟩ := Option.map_eq_some_iff.1 hc
      obtain ⟨h1, h2⟩ := frcV_inv (show frcV (iaV (opd b st e) n (opd a st e)) K = true from hh)
      refine ⟨_, h2, fun ρ nx w ac _ hg => ?_⟩
      obtain ⟨r, q1, q2⟩ := ia_ok (P := P) t el n ht hn (hg x a hx) (hg ii b hy) h1
      exact ⟨r, run_v (q2 w), q1⟩
    · rename_i len el ht
      obtain ⟨n, hn, rfl⟩ := Option.map_eq_some_iff.1 hc
      obtain ⟨h1, h2⟩ := frcV_inv (show frcV (iaaV (opd b st e) n len (opd a st e)) K = true from hh)
      refine ⟨_, h2, fun ρ nx w ac _ hg => ?_⟩
      obtain ⟨r, q1, q2⟩ := iaa_ok (P := P) t el n len ht hn (hg x a hx) (hg ii b hy) h1
      exact ⟨r, run_v (q2 w), q1⟩
    · cases hc
  · -- index
    rename_i t x ii
    obtain ⟨a, hx, hc⟩ := Option.bind_eq_some_iff.1 hc
    obtain ⟨b, hy, hc⟩ := Option.bind_eq_some_iff.1 hc
    split at hc
    · rename_i ht
      cases hc
      obtain ⟨h1, h2⟩ := frcV_inv (show frcV (ixV (opd b st e) (opd a st e)) K = true from hh)
      refine ⟨_, h2, fun ρ nx w ac _ hg => ?_⟩
      obtain ⟨r, q1, q2⟩ := ix_ok (P := P) t ht (hg x a hx) (hg ii b hy) h1
      exact ⟨r, run_v (q2 w), q1⟩
    · rename_i len el ht
      obtain ⟨ag, hag, hc⟩ := Option.bind_eq_some_iff.1 hc
      obtain ⟨sz, hsz, rfl⟩ := Option.map_eq_some_iff.1 hc
      obtain ⟨y, h1, h2⟩ := ixa_ok (P := P) ht hag hsz (show asN (opd b st e) (ixa1 len sz ag (opd a st e) K) = true from hh)
      refine ⟨y, h1, fun ρ nx w ac _ hg => ?_⟩
      obtain ⟨r, q1, q2⟩ := h2 ρ w _ _ (hg x a hx) (hg ii b hy)
      exact ⟨r, run_v q2, q1⟩
    · cases hc
  · -- slice
    rename_i t x lo hi mx
    obtain ⟨a, hx, hc⟩ := Option.bind_eq_some_iff.1 hc
    exact slice_ok hx hc hh
  · -- extract
    rename_i x j
    obtain ⟨a, hx, rfl⟩ := Option.map_eq_some_iff.1 hc
    obtain ⟨h1, h2⟩ := frcV_inv (show frcV (extV (opd a st e) j) K = true from hh)
    refine ⟨_, h2, fun ρ nx w ac _ hg => ?_⟩
    obtain ⟨r, q1, q2⟩ := ext_ok (P := P) j (hg x a hx) h1
    exact ⟨r, run_v (q2 w), q1⟩
  · -- load
    rename_i t x
    obtain ⟨a, hx, hc⟩ := Option.bind_eq_some_iff.1 hc
    split at hc
    · rename_i ht
      obtain ⟨n, hn, hc⟩ := Option.bind_eq_some_iff.1 hc
      split at hc
      · cases hc
      · rename_i h0
        cases hc
        obtain ⟨y, h1, h2⟩ := lda_ok (P := P) t n ht hn h0 (show asP (opd a st e) (cellsAt h n (kagg K)) = true from hh)
        refine ⟨y, h1, fun ρ nx w ac hr hg => ?_⟩
        obtain ⟨r, q1, q2⟩ := h2 ρ nx w _ (hr rfl) (hg x a hx)
        exact ⟨r, run_v q2, q1⟩
    · rename_i ht
      cases hc
      obtain ⟨h1, h2⟩ := frcV_inv (show frcV (ldV (opd a st e) h) K = true from hh)
      refine ⟨_, h2, fun ρ nx w ac hr hg => ?_⟩
      obtain ⟨r, q1, q2⟩ := ld_ok (P := P) t ht (hr rfl) (hg x a hx) h1
      exact ⟨r, run_v q2, q1⟩
    · cases hc
  · -- build
    obtain ⟨h1, h2⟩ := build_ok (P := P) (h := h) (ds := ds) (ty := ty) (pos := pos) (af := af) (gd := gd) hc hh
    rw [h1]; exact h2
  · -- lookup
    rename_i t m k ok
    obtain ⟨a, hx, hc⟩ := Option.bind_eq_some_iff.1 hc
    obtain ⟨b, hy, hc⟩ := Option.bind_eq_some_iff.1 hc
    split at hc
    · rename_i kt et ht
      obtain ⟨g, hg, hc⟩ := Option.bind_eq_some_iff.1 hc
      obtain ⟨z, hz, rfl⟩ := Option.map_eq_some_iff.1 hc
      obtain ⟨ti, zc, z1, z2, z3⟩ := zvOf_ok hz
      obtain ⟨g, ks⟩ := g
      have hk := keyOfT_ok hg
      obtain ⟨h1, h2⟩ := frcV_inv (show frcV (lkV (opd a st e) g ks ok z h (opd b st e)) K = true from hh)
      refine ⟨_, h2, fun ρ nx w ac hr hg => ?_⟩
      obtain ⟨r, q1, q2⟩ := lk_ok (P := P) t kt et ht g ks hk z zc ti z1 z2 (z3 ρ) ok (hr rfl) (hg m a hx) (hg k b hy) h1
      exact ⟨r, run_v q2, q1⟩
    · cases hc
  · -- makeInterface
    rename_i t x
    obtain ⟨a, hx, hc⟩ := Option.bind_eq_some_iff.1 hc
    split at hc
    · rename_i d ht
      split at hc
      · cases hc
      · rename_i hd
        cases hc
        obtain ⟨h1, h2⟩ := frcV_inv (show frcV (opd a st e) (mi1 t K) = true from hh)
        refine ⟨.iface t (opd a st e), h2, fun ρ nx w ac _ hg => ?_⟩
        exact ⟨_, run_v (mi_ok (P := P) t d ht (by revert hd; cases d <;> simp [isIface]) _ w), .iface t _ _ (hg x a hx)⟩
    · cases hc
  · -- makeFunc
    rename_i f first cap
    split at hc
    · rename_i hf
      obtain ⟨l, hl, hc⟩ := Option.bind_eq_some_iff.1 hc
      obtain ⟨r, hr, rfl⟩ := Option.map_eq_some_iff.1 hc
      have h1 := evXs_inv st e l _ (show evXs l st e (mfn1 (fkOf f) r st e K) = true from hh)
      have h2 := evXs_inv st e r _ (show evXs r st e (mfn2 (fkOf f) (l.map fun a => opd a st e) K) = true from h1)
      refine ⟨.fn (fkOf f) (l.map fun a => opd a st e) (r.map fun a => opd a st e), h2, fun ρ nx w ac _ hg => ?_⟩
      refine ⟨.func (.func f) (first.map ac.eval) (cap.map ac.eval), rfl, ?_⟩
      have := V.fn' (ρ := ρ) (fkOf f) (l := l.map fun a => opd a st e) (r := r.map fun a => opd a st e) (cl := first.map ac.eval) (cr := cap.map ac.eval) (by rw [Array.toList_map]; exact hg.list hl) (by rw [Array.toList_map]; exact hg.list hr)
      rwa [fkOf_val f hf] at this
    · cases hc
  · -- typeAssert
    rename_i x xt t ok
    obtain ⟨a, hx, hc⟩ := Option.bind_eq_some_iff.1 hc
    split at hc
    · rename_i d ht
      split at hc
      · cases hc
      · rename_i hd
        obtain ⟨z, hz, rfl⟩ := Option.map_eq_some_iff.1 hc
        obtain ⟨ti, zc, z1, z2, z3⟩ := zvOf_ok hz
        obtain ⟨h1, h2⟩ := frcV_inv (show frcV (taV (opd a st e) t z ok) K = true from hh)
        refine ⟨_, h2, fun ρ nx w ac _ hg => ?_⟩
        obtain ⟨r, q1, q2⟩ := ta_ok (P := P) xt t d ht (by revert hd; cases d <;> simp [isIface]) z zc ti z1 z2 (z3 ρ) ok (hg x a hx) h1
        exact ⟨r, run_v (q2 w), q1⟩
    · cases hc
  · -- entry
    rename_i x
    obtain ⟨a, hx, rfl⟩ := Option.map_eq_some_iff.1 hc
    obtain ⟨h1, h2⟩ := frcV_inv (show frcV (enV (opd a st e) h) K = true from hh)
    refine ⟨_, h2, fun ρ nx w ac hr hg => ?_⟩
    obtain ⟨r, q1, q2⟩ := en_ok (P := P) (hr rfl) (hg x a hx) h1
    exact ⟨r, run_v q2, q1⟩
  · -- call
    rename_i c
    obtain ⟨callee, args, ats⟩ := c
    simp only at hc
    split at hc
    · rename_i x t h1 h2
      obtain ⟨args⟩ := args
      obtain ⟨ats⟩ := ats
      simp only at h1 h2
      subst h1 h2
      obtain ⟨a, hx, hc⟩ := Option.bind_eq_some_iff.1 hc
      split at hc
      · rename_i ht
        cases hc
        obtain ⟨h1, h2⟩ := frcV_inv (show frcV (lsV (opd a st e)) K = true from hh)
        refine ⟨_, h2, fun ρ nx w ac _ hg => ?_⟩
        obtain ⟨r, q1, q2⟩ := ls_ok (P := P) t ht ty (hg x a hx) h1
        exact ⟨r, builtin1 (fun _ _ _ _ => rfl) (q2 w), q1⟩
      · rename_i el ht
        cases hc
        obtain ⟨h1, h2⟩ := frcV_inv (show frcV (llV (opd a st e)) K = true from hh)
        refine ⟨_, h2, fun ρ nx w ac _ hg => ?_⟩
        obtain ⟨r, q1, q2⟩ := ll_ok (P := P) t el ht ty (hg x a hx) h1
        exact ⟨r, builtin1 (fun _ _ _ _ => rfl) (q2 w), q1⟩
      · rename_i kt et ht
        cases hc
        obtain ⟨h1, h2⟩ := frcV_inv (show frcV (lmV (opd a st e) h) K = true from hh)
        refine ⟨_, h2, fun ρ nx w ac hr hg => ?_⟩
        obtain ⟨r, q1, q2⟩ := lm_ok (P := P) t kt et ht ty (hr rfl) (hg x a hx) h1
        exact ⟨r, builtin1 (fun _ _ _ _ => rfl) q2, q1⟩
      · cases hc
    · rename_i x y h1
      obtain ⟨args⟩ := args
      simp only at h1
      subst h1
      obtain ⟨a, hx, hc⟩ := Option.bind_eq_some_iff.1 hc
      obtain ⟨b, hy, rfl⟩ := Option.map_eq_some_iff.1 hc
      obtain ⟨h1, h2⟩ := frcV_inv (show frcV (mxV (opd a st e) (opd b st e)) K = true from hh)
      refine ⟨_, h2, fun ρ nx w ac _ hg => ?_⟩
      obtain ⟨r, q1, q2⟩ := mx_ok (P := P) ats ty (hg x a hx) (hg y b hy) h1
      exact ⟨r, builtin1 (fun _ _ _ _ => rfl) (q2 w), q1⟩
    · rename_i g x y h1
      obtain ⟨args⟩ := args
      simp only at h1
      subst h1
      split at hc
      · rename_i hg
        obtain ⟨a, hx, hc⟩ := Option.bind_eq_some_iff.1 hc
        obtain ⟨b, hy, rfl⟩ := Option.map_eq_some_iff.1 hc
        obtain ⟨h1, h2⟩ := frcV_inv (show frcV (ixbV (opd a st e) (opd b st e)) K = true from hh)
        refine ⟨_, h2, fun ρ nx w ac _ hgd => ?_⟩
        obtain ⟨r, q1, q2⟩ := ixb_ok (P := P) (hgd x a hx) (hgd y b hy) h1
        refine ⟨r, ?_, q1⟩
        have hg := Bool.and_eq_true_iff.1 hg
        have := hix.1 g (of_decide_eq_true hg.2) hg.1 #[ac.eval x, ac.eval y] w r (q2 w)
        show (do let d ← resolve ac.eval ⟨.value (.func g), #[x, y], ats⟩ ty; invoke d.target d.args : Sem Next).run P w = _
        simpa [resolve, Deferred.ofValue, Act.eval, invoke] using this
      · cases hc
    · rename_i g x h1
      obtain ⟨args⟩ := args
      simp only at h1
      subst h1
      split at hc
      · rename_i hg
        obtain ⟨a, hx, rfl⟩ := Option.map_eq_some_iff.1 hc
        obtain ⟨h1, h2⟩ := frcV_inv (show frcV (opd a st e) K = true from hh)
        refine ⟨_, h2, fun ρ nx w ac _ hgd => ?_⟩
        refine ⟨ac.eval x, ?_, hgd x a hx⟩
        have := hix.2 g hg (ac.eval x) w
        show (do let d ← resolve ac.eval ⟨.value (.func g), #[x], ats⟩ ty; invoke d.target d.args : Sem Next).run P w = _
        simpa [resolve, Deferred.ofValue, Act.eval, invoke] using this
      · cases hc
    · rename_i x h1
      obtain ⟨args⟩ := args
      simp only at h1
      subst h1
      obtain ⟨a, hx, rfl⟩ := Option.map_eq_some_iff.1 hc
      obtain ⟨h1, h2⟩ := frcV_inv (show frcV (sdV (opd a st e)) K = true from hh)
      refine ⟨_, h2, fun ρ nx w ac _ hg => ?_⟩
      obtain ⟨r, q1, q2⟩ := sd_ok (P := P) (w := w) (ts := ats) (ty := ty) (hg x a hx) h1
      exact ⟨r, builtin1 (fun _ _ _ _ => rfl) q2, q1⟩
    · cases hc
  · cases hc
end
end Go.Ev
set_option linter.constructorNameAsVariable false
namespace Go.Ev
open Go
variable {P : Program} {w : World} {ρ : Ren} {h : Heap} {nx : BK}

/-! ### what makes blocks -/
def constInt : Operand → Bool
  | .const (.int _ _) => true
  | _ => false
def isMap : Option TypeDesc → Bool
  | some (.map ..) => true
  | _ => false
def cA (P : Program) (R : Rs) (o : Oper) : Option AI :=
  match o.op with
  | .alloc t => (zlOf P t).map fun zl => .al (.x t zl.length) zl
  | .box t x => (R x).map (.bx t)
  | .buildSlice t n ps => match P.underlying t with
    | some (.slice e) => (zlOf P e).bind fun zl => (szOf P e).bind fun sz => if zl.length = sz ∧ n * sz ≤ 2 ^ 24 then
        (cParts R (fun i => some (i * sz, sz)) ps.toList).bind fun l => if partsOk (n * sz) 0 l then some (.bs n (mkPcs (List.replicate n zl).flatten 0 l)) else none
      else none
    | _ => none
  | .makeSlice t l c => (R l).bind fun a => (R c).bind fun b => match P.underlying t with
    | some (.slice e) => (zlOf P e).bind fun zl => (szOf P e).bind fun sz => if zl.length = sz ∧ byteT P e then some (.ms zl a b) else none
    | _ => none
  | .makeMap t r => match r with
    | none => some .mm
    | some x => if constInt x && isMap (P.underlying t) then some .mm else none
  | .convert s d x => (R x).bind fun a => match P.underlying s, P.underlying d with
    | some .string, some (.slice e) => if isU8 P e then some (.s2b a) else none
    | _, _ => none
  | _ => none
def ASem (P : Program) (o : Oper) (R : Rs) (st : List AV) (e : Env) (ob : Ob) (mk : BK → AV) : Prop :=
  ∀ ρ w (ac : Act) k, Good ρ R st e ac → ∃ c w' L, (execOp ac.eval o).run P w = .ok (.value c) w' ∧ Made k ob mk ρ w w' c L
theorem cA_ok {R : Rs} {st : List AV} {e : Env} {K : Ob → (BK → AV) → Bool} {o : Oper} {i : AI} (hc : cA P R o = some i) (hh : evA i st e K = true) : ∃ ob mk, K ob mk = true ∧ ASem P o R st e ob mk := by
  obtain ⟨ds, op, ty, pos, af, gd⟩ := o
  unfold cA at hc
  split at hc <;> rename_i hop <;> (try simp only at hop) <;> (try subst hop)
  · rename_i t
    obtain ⟨zl, hz, rfl⟩ := Option.map_eq_some_iff.1 hc
    obtain ⟨z, h1, h2, h3⟩ := zlOf_ok hz
    refine ⟨.cells (.x t zl.length) zl, ptr0, hh, fun ρ w ac k _ => ?_⟩
    obtain ⟨c, w', L, q1, q2⟩ := al_ok (ρ := ρ) t z h1 zl (h2 ρ) h3 k w (.x t zl.length) (.inr (.inl (by have := (h2 ρ).1; simp at this; rw [this])))
    exact ⟨c, w', L, run_v q1, q2⟩
  · rename_i t x
    obtain ⟨a, hx, rfl⟩ := Option.map_eq_some_iff.1 hc
    obtain ⟨ob, mk, h1, h2⟩ := bx_ok (P := P) t st e a (show mBx t a st e K = true from hh)
    refine ⟨ob, mk, h1, fun ρ w ac k hg => ?_⟩
    obtain ⟨c, w', L, q1, q2⟩ := h2 ρ w _ k (hg x a hx)
    exact ⟨c, w', L, run_v q1, q2⟩
  · rename_i t n ps
    split at hc
    · rename_i el ht
      obtain ⟨zl, hz, hc⟩ := Option.bind_eq_some_iff.1 hc
      obtain ⟨sz, hs, hc⟩ := Option.bind_eq_some_iff.1 hc
      split at hc
      · rename_i hcond
        obtain ⟨l, hl, hc⟩ := Option.bind_eq_some_iff.1 hc
        split at hc
        · rename_i hok
          cases hc
          obtain ⟨z, z1, z2, z3⟩ := zlOf_ok hz
          obtain ⟨p1, p2⟩ := parts_ok hl
          have hlen : z.cells.size = sz := by have := (z2 (fun _ => none)).1; simp at this; omega
          obtain ⟨ob, mk, h1, h2⟩ := bs_ok (P := P) t el ht z z1 sz hs hlen zl z2 z3 n hcond.2 l hok st e (show mBs n (mkPcs (List.replicate n zl).flatten 0 l) st e K = true from hh)
          refine ⟨ob, mk, h1, fun ρ w ac k hg => ?_⟩
          obtain ⟨c, w', L, q1, q2⟩ := h2 ρ w k (ps.toList.map fun v => (v.1, ac.eval v.2)) (by simp [p1]) (fun j p v hj hv => by
            rw [List.getElem?_map] at hv
            obtain ⟨q, hq, rfl⟩ := Option.map_eq_some_iff.1 hv
            obtain ⟨g1, g2⟩ := p2 j p q hj hq
            simp only [Option.some.injEq, Prod.mk.injEq] at g1
            exact ⟨g1.1.symm, g1.2.symm, hg _ _ g2⟩)
          refine ⟨c, w', L, run_v ?_, q2⟩
          have e1 : (ps.map fun x => match x with | (i, x) => (i, ac.eval x)) = (ps.toList.map fun v => (v.1, ac.eval v.2)).toArray := by
            rw [← List.map_toArray]
          rw [e1]
          exact q1
        · cases hc
      · cases hc
    · cases hc
  · rename_i t l c
    obtain ⟨a, hx, hc⟩ := Option.bind_eq_some_iff.1 hc
    obtain ⟨b, hy, hc⟩ := Option.bind_eq_some_iff.1 hc
    split at hc
    · rename_i el ht
      obtain ⟨zl, hz, hc⟩ := Option.bind_eq_some_iff.1 hc
      obtain ⟨sz, hs, hc⟩ := Option.bind_eq_some_iff.1 hc
      split at hc
      · rename_i hcond
        cases hc
        obtain ⟨z, z1, z2, z3⟩ := zlOf_ok hz
        have hlen : z.cells.size = sz := by have := (z2 (fun _ => none)).1; simp at this; omega
        obtain ⟨ob, mk, h1, h2⟩ := ms_ok (P := P) t el ht z z1 sz hs hlen hcond.2 zl z2 z3 st e a b (show mMs zl a b st e K = true from hh)
        refine ⟨ob, mk, h1, fun ρ w ac k hg => ?_⟩
        obtain ⟨c, w', L, q1, q2⟩ := h2 ρ w _ _ k (hg _ a hx) (hg _ b hy)
        exact ⟨c, w', L, run_v q1, q2⟩
      · cases hc
    · cases hc
  · rename_i t r
    split at hc
    · cases hc
      refine ⟨.map [], .m, hh, fun ρ w ac k hg => ?_⟩
      obtain ⟨c, w', L, q1, q2⟩ := mm_ok (P := P) t none (.inl rfl) k ρ w
      exact ⟨c, w', L, run_v q1, q2⟩
    · rename_i x
      split at hc
      · rename_i hcond
        cases hc
        simp only [Bool.and_eq_true] at hcond
        refine ⟨.map [], .m, hh, fun ρ w ac k hg => ?_⟩
        have h1 : ∃ kk n, x = .const (.int kk n) := by
          have := hcond.1
          unfold constInt at this
          split at this
          · exact ⟨_, _, rfl⟩
          · cases this
        have h2 : ∃ kt et, P.underlying t = some (.map kt et) := by
          have := hcond.2
          unfold isMap at this
          split at this
          · rename_i heq; exact ⟨_, _, heq⟩
          · cases this
        obtain ⟨kk, n, rfl⟩ := h1
        obtain ⟨kt, et, h2⟩ := h2
        obtain ⟨c, w', L, q1, q2⟩ := mm_ok (P := P) t (some (.int kk n)) (.inr ⟨kt, et, kk, n, h2, rfl⟩) k ρ w
        exact ⟨c, w', L, run_v q1, q2⟩
      · cases hc
  · rename_i s d x
    obtain ⟨a, hx, hc⟩ := Option.bind_eq_some_iff.1 hc
    split at hc
    · rename_i el hs hd
      split at hc
      · rename_i h8
        cases hc
        obtain ⟨ob, mk, h1, h2⟩ := s2b_ok (P := P) s d el hs hd (isU8_ok h8) st e a (show mS2b a st e K = true from hh)
        refine ⟨ob, mk, h1, fun ρ w ac k hg => ?_⟩
        obtain ⟨c, w', L, q1, q2⟩ := h2 ρ w _ k (hg x a hx)
        exact ⟨c, w', L, run_v q1, q2⟩
      · cases hc
    · cases hc
  · cases hc

/-! ### what turns memory, and calls -/
def hasBody (P : Program) (g : Nat) : Bool := match P.funcs[g]? with
  | some fn => fn.body.isSome
  | none => false
def cE (P : Program) (ix : Nat → Bool) (R : Rs) (o : Oper) : Option EI :=
  match o.op with
  | .store t a v => (R a).bind fun x => (R v).bind fun y => (szOf P t).map fun n => .st n x y
  | .mapUpdate t m k v => (R m).bind fun x => (R k).bind fun y => (R v).bind fun z => match P.underlying t with
    | some (.map kt _) => (keyOfT P kt).map fun g => .mu g.1 g.2 x y z
    | _ => none
  | .insert t m k v => (R m).bind fun x => (R k).bind fun y => (R v).bind fun z => match P.underlying t with
    | some (.map kt _) => (keyOfT P kt).map fun g => .mu g.1 g.2 x y z
    | _ => none
  | .range t m => (R m).bind fun x => match P.underlying t with
    | some (.map _ _) => some (.rg x)
    | _ => none
  | .next x false => (R x).map .nx
  | .panic x => (R x).map .pan
  | .defer c => match c.callee with
    | .value f => (R f).bind fun x => (Rl R c.args.toList).map fun l => .df x l
    | _ => none
  | .call c => match c.callee with
    | .value (.func g) => if ix g || ix (g + 4096) || !decide (g < 4096) then none else (Rl R c.args.toList).map fun l => .call (fkOf g) l
    | .value f => (R f).bind fun x => (Rl R c.args.toList).map fun l => .cv x l
    | .builtin .append => match c.args.toList, c.argTypes.toList with
      | [s, x], [sT, xT] => (R s).bind fun a => (R x).bind fun b => match P.underlying sT, P.underlying xT with
        | some (.slice e), some d => (szOf P e).bind fun sz => (zeroC P e).bind fun z => if rowT d ∧ 0 < sz ∧ z.cells.size = sz ∧ byteT P e then some (.ap e sz a b) else none
        | _, _ => none
      | _, _ => none
    | .builtin .copy => match c.args.toList, c.argTypes.toList with
      | [d, s], [dT, _] => (R d).bind fun a => (R s).bind fun b => match P.underlying dT with
        | some (.slice e) => (szOf P e).map fun sz => .cp sz a b
        | _ => none
      | _, _ => none
    | .builtin .unsafeString => match c.args.toList, c.argTypes.toList with
      | [p, n], [pt, _] => (R p).bind fun a => (R n).bind fun b => match P.underlying pt with
        | some (.pointer e) => if P.cellsOf e = 1 then some (.us e a b) else none
        | _ => none
      | _, _ => none
    | .builtin .clear => match c.args.toList, c.argTypes.toList with
      | [x], [t] => (R x).bind fun a => match P.underlying t with
        | some (.slice e) => (zlOf P e).map fun zl => .clr zl a
        | _ => none
      | _, _ => none
    | _ => none
  | _ => none
/-- deferred calls -/
inductive DsR (ρ : Ren) : List AV → List Deferred → Prop
  | nil : DsR ρ [] []
  | cons (f : FK) (l r : List AV) (cl cr : Array Value) {ds : List AV} {defs : List Deferred} (h1 : Vs ρ l cl.toList) (h2 : Vs ρ r cr.toList) (h : DsR ρ ds defs) :
      DsR ρ (.fn f l r :: ds) ({ target := .fn (.func f.val) cr, args := cl } :: defs)
theorem DsR.mono {ρ ρ' : Ren} (hle : ρ.le ρ') {ds : List AV} {defs : List Deferred} (hd : DsR ρ ds defs) : DsR ρ' ds defs := by
  induction hd with
  | nil => exact .nil
  | cons f l r cl cr h1 h2 _ ih => exact .cons f l r cl cr (h1.mono hle) (h2.mono hle) ih
/-- what a call comes to -/
def Ends (ρ : Ren) (nx : BK) (w : World) (K Q : KT) : Ending → World → Prop := fun en w' => ∃ ρ' h' nx', Rel ρ' h' nx' w' ∧ Ext ρ nx w ρ' nx' w' ∧
  ((∃ v c, en = .returned c ∧ V ρ' v c ∧ K v h' nx' = true) ∨ (∃ v c, en = .panicked [{ v := c, recovered := false }] ∧ V ρ' v c ∧ Q v h' nx' = true))
def Enters (P : Program) (f : Nat) : Prop := ∃ fn c, P.funcs[f]? = some fn ∧ fn.body = some c ∧ (fn.name == "runtime.NumGoroutine") = false
def CallOk (P : Program) (call : CT) : Prop := ∀ f args h nx K Q, call f args h nx K Q = true → Enters P f.val ∧ ∀ ρ w cs, Rel ρ h nx w → Vs ρ args cs → Calls P f.val cs.toArray w (Ends ρ nx w K Q)
def ESem (P : Program) (o : Oper) (R : Rs) (S : St) (st : List AV) (K Q' : KV) : Prop := ∀ ρ w (ac : Act) (next : Act → World → Prop) (Q : Exit → Act → World → Prop), Rel ρ S.h S.nx w → Good ρ R st S.e ac → DsR ρ S.ds ac.defers →
  (∀ v c S' ρ' w' ds, K v S' = true → S'.e = S.e → S'.call = S.call → V ρ' v c → Rel ρ' S'.h S'.nx w' → Ext ρ S.nx w ρ' S'.nx w' → DsR ρ' S'.ds ds → next ({ ac with defers := ds }.put o.dst c) w') →
  (∀ v c S' ρ' w', Q' v S' = true → S'.e = S.e → S'.call = S.call → S'.ds = S.ds → V ρ' v c → Rel ρ' S'.h S'.nx w' → Ext ρ S.nx w ρ' S'.nx w' → Q (.panic [{ v := c, recovered := false }]) ac w') →
  o.wp P ac w next Q
end Go.Ev
set_option linter.constructorNameAsVariable false
namespace Go.Ev
open Go
variable {P : Program} {w : World} {ρ : Ren} {h : Heap} {nx : BK}
section
variable {o : Oper} {ac : Act} {next : Act → World → Prop} {Q : Exit → Act → World → Prop}
theorem wp_value {c : Value} {w' : World} (hr : (execOp ac.eval o).run P w = .ok (.value c) w') (hn : next (ac.put o.dst c) w') : o.wp P ac w next Q := by unfold Oper.wp; rw [hr]; exact hn
theorem wp_skipped {w' : World} (hr : (execOp ac.eval o).run P w = .ok .skip w') (hn : next (ac.put o.dst undef) w') : o.wp P ac w next Q := by unfold Oper.wp; rw [hr]; exact hn
theorem wp_deferred {d : Deferred} {w' : World} (hr : (execOp ac.eval o).run P w = .ok (.defer d) w') (hn : next ({ ac with defers := d :: ac.defers }.put o.dst undef) w') : o.wp P ac w next Q := by unfold Oper.wp; rw [hr]; exact hn
theorem wp_panicked {v : Value} {w' : World} (hr : (execOp ac.eval o).run P w = .halt (.panic v) w') (hn : Q (.panic [{ v, recovered := false }]) ac w') : o.wp P ac w next Q := by unfold Oper.wp; rw [hr]; exact hn
theorem wp_entered {f : FuncId} {args : Array Value} {w' : World} {R : Ending → World → Prop} (hr : (execOp ac.eval o).run P w = .ok (.enter f args) w') (hc : Calls P f args w' R)
    (hR : ∀ e w'', R e w'' → match e with | .returned v => next (ac.put o.dst v) w'' | .panicked chain => Q (.panic chain) ac w'' | .outgrown => False) : o.wp P ac w next Q := by
  unfold Oper.wp
  rw [hr]
  show Calls P f args w' _
  refine hc.mono fun e w'' he => ?_
  have := hR e w'' he
  cases e with
  | returned v => exact this
  | panicked chain => exact this
  | outgrown => exact this.elim
end
theorem St.setHn_e (S : St) (h : Heap) (nx : BK) : (S.setHn h nx).e = S.e := by cases S; rfl
theorem St.setHn_call (S : St) (h : Heap) (nx : BK) : (S.setHn h nx).call = S.call := by cases S; rfl
theorem St.setHn_ds (S : St) (h : Heap) (nx : BK) : (S.setHn h nx).ds = S.ds := by cases S; rfl
theorem enter_run {f : Nat} (he : Enters P f) (args : Array Value) (w : World) : (callFunc f args).run P w = .ok (.enter f args) w := by
  obtain ⟨fn, c, h1, h2, h3⟩ := he
  have h1' : fn.name ≠ "runtime.NumGoroutine" := by simpa using h3
  simp [callFunc, h1, h1', h2]
section
variable {R : Rs} {S : St} {st : List AV} {K Q' : KV}
/-- an effect that is done at once -/
theorem eff_value {o : Oper} {v : AV} {h' : Heap} {nx' : BK} (hK : K v (S.setHn h' nx') = true)
    (hs : ∀ ρ w (ac : Act), Rel ρ S.h S.nx w → Good ρ R st S.e ac → ∃ c w' ρ', (execOp ac.eval o).run P w = .ok (.value c) w' ∧ V ρ' v c ∧ Rel ρ' h' nx' w' ∧ Ext ρ S.nx w ρ' nx' w') : ESem P o R S st K Q' := by
  intro ρ w ac next Q hr hg hd h1 _
  obtain ⟨c, w', ρ', q1, q2, q3, q4⟩ := hs ρ w ac hr hg
  refine wp_value q1 ?_
  have := h1 v c (S.setHn h' nx') ρ' w' ac.defers hK (St.setHn_e ..) (St.setHn_call ..) q2 (by rw [St.setHn_h, St.setHn_nx]; exact q3) (by rw [St.setHn_nx]; exact q4) (by rw [St.setHn_ds]; exact hd.mono q4.le)
  exact this
theorem eff_skip {o : Oper} {h' : Heap} {nx' : BK} (hK : K (.k .u) (S.setHn h' nx') = true)
    (hs : ∀ ρ w (ac : Act), Rel ρ S.h S.nx w → Good ρ R st S.e ac → ∃ w' ρ', (execOp ac.eval o).run P w = .ok .skip w' ∧ Rel ρ' h' nx' w' ∧ Ext ρ S.nx w ρ' nx' w') : ESem P o R S st K Q' := by
  intro ρ w ac next Q hr hg hd h1 _
  obtain ⟨w', ρ', q1, q3, q4⟩ := hs ρ w ac hr hg
  refine wp_skipped q1 ?_
  have := h1 (.k .u) undef (S.setHn h' nx') ρ' w' ac.defers hK (St.setHn_e ..) (St.setHn_call ..) .u (by rw [St.setHn_h, St.setHn_nx]; exact q3) (by rw [St.setHn_nx]; exact q4) (by rw [St.setHn_ds]; exact hd.mono q4.le)
  exact this
theorem eff_call {o : Oper} {f : FK} {l : List AV} (hok : CallOk P S.call) (hK : ec1 f S K Q' l = true)
    (hs : ∀ ρ w (ac : Act), Rel ρ S.h S.nx w → Good ρ R st S.e ac → ∃ cs : List Value, Vs ρ l cs ∧ (execOp ac.eval o).run P w = (callFunc f.val cs.toArray).run P w) : ESem P o R S st K Q' := by
  intro ρ w ac next Q hr hg hd h1 h2
  obtain ⟨cs, q1, q2⟩ := hs ρ w ac hr hg
  obtain ⟨g1, g2⟩ := hok f l S.h S.nx _ _ (show S.call f l S.h S.nx (kre S K) (kre S Q') = true from hK)
  rw [enter_run g1] at q2
  refine wp_entered q2 (g2 ρ w cs hr q1) fun en w'' he => ?_
  obtain ⟨ρ', h', nx', r1, r2, r3⟩ := he
  rcases r3 with ⟨v, c, rfl, r4, r5⟩ | ⟨v, c, rfl, r4, r5⟩
  · have r5 : S.withHn h' nx' (K v) = true := r5
    rw [St.withHn_eq] at r5
    exact h1 v c (S.setHn h' nx') ρ' w'' ac.defers r5 (St.setHn_e ..) (St.setHn_call ..) r4 (by rw [St.setHn_h, St.setHn_nx]; exact r1) (by rw [St.setHn_nx]; exact r2) (by rw [St.setHn_ds]; exact hd.mono r2.le)
  · have r5 : S.withHn h' nx' (Q' v) = true := r5
    rw [St.withHn_eq] at r5
    exact h2 v c (S.setHn h' nx') ρ' w'' r5 (St.setHn_e ..) (St.setHn_call ..) (St.setHn_ds ..) r4 (by rw [St.setHn_h, St.setHn_nx]; exact r1) (by rw [St.setHn_nx]; exact r2)
theorem asFn_inv {v : AV} {K : FK → List AV → List AV → Bool} (hh : asFn v K = true) : ∃ f l r, v = .fn f l r ∧ K f l r = true := by
  cases v with
  | fn f l r => exact ⟨f, l, r, rfl, hh⟩
  | _ => cases hh
theorem V.fn_inv {f : FK} {l r : List AV} {c : Value} (hv : V ρ (.fn f l r) c) : ∃ cl cr : Array Value, c = .func (.func f.val) cl cr ∧ Vs ρ l cl.toList ∧ Vs ρ r cr.toList := by
  cases hv with
  | fn _ _ _ cl cr h1 h2 h3 h4 => exact ⟨cl, cr, rfl, ⟨by simpa using h1, fun i x y hx hy => h2 i x y hx (by simpa using hy)⟩, ⟨by simpa using h3, fun i x y hx hy => h4 i x y hx (by simpa using hy)⟩⟩
theorem isIf_inv {v : AV} {b : Bool} (hh : isIf v b = true) : (∃ t x, v = .iface t x) ∧ b = true := by
  cases v with
  | iface t x => exact ⟨⟨t, x, rfl⟩, hh⟩
  | _ => cases hh
theorem call_value (f : Operand) (args : Array Operand) (ats : Array TypeId) (ρ : Operand → Value) (ds : Option Tmp) (ty : TypeId) (pos : String) (af : Array Edge) (gd : Option (Nat × Bool)) {g : Nat} {cl cr : Array Value} (hf : ρ f = .func (.func g) cl cr) (w : World) :
    (execOp ρ ⟨ds, .call ⟨.value f, args, ats⟩, ty, pos, af, gd⟩).run P w = (callFunc g (cl ++ args.map ρ ++ cr)).run P w := by
  show (do let d ← resolve ρ ⟨.value f, args, ats⟩ ty; invoke d.target d.args : Sem Next).run P w = _
  simp [resolve, hf, Deferred.ofValue, invoke]
theorem defer_value (f : Operand) (args : Array Operand) (ats : Array TypeId) (ρ : Operand → Value) (ds : Option Tmp) (ty : TypeId) (pos : String) (af : Array Edge) (gd : Option (Nat × Bool)) {g : Nat} {cl cr : Array Value} (hf : ρ f = .func (.func g) cl cr) (w : World) :
    (execOp ρ ⟨ds, .defer ⟨.value f, args, ats⟩, ty, pos, af, gd⟩).run P w = .ok (.defer { target := .fn (.func g) cr, args := cl ++ args.map ρ }) w := by
  show (do pure (.defer (← resolve ρ ⟨.value f, args, ats⟩ ty)) : Sem Next).run P w = _
  simp [resolve, hf, Deferred.ofValue]
theorem cE_ok {ix : Nat → Bool} {o : Oper} {i : EI} (hok : CallOk P S.call) (hc : cE P ix R o = some i) (hh : evE i S st K Q' = true) : ESem P o R S st K Q' := by
  obtain ⟨ds, op, ty, pos, af, gd⟩ := o
  unfold cE at hc
  split at hc <;> rename_i hop <;> (try simp only at hop) <;> (try subst hop)
  · -- store
    rename_i t a v
    obtain ⟨x, hx, hc⟩ := Option.bind_eq_some_iff.1 hc
    obtain ⟨y, hy, hc⟩ := Option.bind_eq_some_iff.1 hc
    obtain ⟨n, hn, rfl⟩ := Option.map_eq_some_iff.1 hc
    obtain ⟨h', h1, h2⟩ := st_ok (P := P) t n hn (show eSt n x y S st K Q' = true from hh)
    refine eff_skip h1 fun ρ w ac hr hg => ?_
    obtain ⟨w', q1, q2, q3⟩ := h2 ρ w _ _ hr (hg a x hx) (hg v y hy)
    exact ⟨w', ρ, run_u q1, q2, q3⟩
  · rename_i t m k v
    obtain ⟨x, hx, hc⟩ := Option.bind_eq_some_iff.1 hc
    obtain ⟨y, hy, hc⟩ := Option.bind_eq_some_iff.1 hc
    obtain ⟨z, hz, hc⟩ := Option.bind_eq_some_iff.1 hc
    split at hc
    · rename_i kt et ht
      obtain ⟨g, hg, rfl⟩ := Option.map_eq_some_iff.1 hc
      obtain ⟨g, ks⟩ := g
      obtain ⟨h', h1, h2⟩ := mu_ok (P := P) t kt et ht g ks (keyOfT_ok hg) (show eMu g ks x y z S st K Q' = true from hh)
      refine eff_skip h1 fun ρ w ac hr hg => ?_
      obtain ⟨w', q1, q2, q3⟩ := h2 ρ w _ _ _ hr (hg m x hx) (hg k y hy) (hg v z hz)
      exact ⟨w', ρ, run_u q1, q2, q3⟩
    · cases hc
  · rename_i t m k v
    obtain ⟨x, hx, hc⟩ := Option.bind_eq_some_iff.1 hc
    obtain ⟨y, hy, hc⟩ := Option.bind_eq_some_iff.1 hc
    obtain ⟨z, hz, hc⟩ := Option.bind_eq_some_iff.1 hc
    split at hc
    · rename_i kt et ht
      obtain ⟨g, hg, rfl⟩ := Option.map_eq_some_iff.1 hc
      obtain ⟨g, ks⟩ := g
      obtain ⟨h', h1, h2⟩ := mu_ok (P := P) t kt et ht g ks (keyOfT_ok hg) (show eMu g ks x y z S st K Q' = true from hh)
      refine eff_skip h1 fun ρ w ac hr hg => ?_
      obtain ⟨w', q1, q2, q3⟩ := h2 ρ w _ _ _ hr (hg m x hx) (hg k y hy) (hg v z hz)
      exact ⟨w', ρ, run_u q1, q2, q3⟩
    · cases hc
  · -- range
    rename_i t m
    obtain ⟨x, hx, hc⟩ := Option.bind_eq_some_iff.1 hc
    split at hc
    · rename_i kt et ht
      cases hc
      obtain ⟨v, h', nx', q1, q2⟩ := rg_ok (P := P) t kt et ht (show eRg x S st K Q' = true from hh)
      refine eff_value q1 fun ρ w ac hr hg => ?_
      obtain ⟨c, w', ρ', r1, r2, r3, r4⟩ := q2 ρ w _ hr (hg m x hx)
      exact ⟨c, w', ρ', run_v r1, r2, r3, r4⟩
    · cases hc
  · -- next
    rename_i x
    obtain ⟨a, hx, rfl⟩ := Option.map_eq_some_iff.1 hc
    intro ρ w ac next Q hr hg hd h1 _
    obtain ⟨v, h', c, w', q0, q1, q2, q3, q4⟩ := nx_ok (P := P) (ty := ty) (show eNx a S st K Q' = true from hh) hr (hg x a hx)
    refine wp_value (run_v q1) ?_
    exact h1 v c (S.setHn h' S.nx) ρ w' ac.defers q0 (St.setHn_e ..) (St.setHn_call ..) q2 (by rw [St.setHn_h, St.setHn_nx]; exact q3) (by rw [St.setHn_nx]; exact q4) (by rw [St.setHn_ds]; exact hd)
  · -- panic
    rename_i x
    obtain ⟨a, hx, rfl⟩ := Option.map_eq_some_iff.1 hc
    obtain ⟨h1, h2⟩ := frcV_inv (show frcV (opd a st S.e) (pan0 S Q') = true from hh)
    obtain ⟨⟨t, y, e1⟩, h3⟩ := isIf_inv (show isIf (opd a st S.e) (Q' (opd a st S.e) S) = true from h2)
    intro ρ w ac next Q hr hg hd _ hp
    have hv := hg x a hx
    refine wp_panicked (v := ac.eval x) (w' := w) ?_ (hp (opd a st S.e) _ S ρ w h3 rfl rfl rfl hv hr (Ext.refl _ _ _))
    rw [e1] at hv
    cases hv' : ac.eval x with
    | iface t' c =>
      show (do pure (.value (← Instr.panic (ac.eval x))) : Sem Next).run P w = _
      rw [hv']
      simp [Instr.panic, goPanic, Sem.run]
    | _ => rw [hv'] at hv; cases hv
  · -- defer
    rename_i c
    obtain ⟨callee, args, ats⟩ := c
    simp only at hc
    split at hc
    · rename_i f
      obtain ⟨x, hx, hc⟩ := Option.bind_eq_some_iff.1 hc
      obtain ⟨l, hl, rfl⟩ := Option.map_eq_some_iff.1 hc
      obtain ⟨ff, fl, fr, e1, h1⟩ := asFn_inv (show asFn (opd x st S.e) (df2 l S st K) = true from hh)
      have h2 := evXs_inv st S.e l _ (show evXs l st S.e (df3 ff fl fr S K) = true from h1)
      have h2 : app fl (l.map fun a => opd a st S.e) (df4 ff fr S K) = true := h2
      rw [app_eq] at h2
      intro ρ w ac next Q hr hg hd hn _
      have hv := hg f x hx
      rw [e1] at hv
      obtain ⟨cl, cr, e2, v1, v2⟩ := hv.fn_inv
      refine wp_deferred (defer_value f args ats ac.eval ds ty pos af gd e2 w) ?_
      have hds : DsR ρ (.fn ff (fl ++ l.map fun a => opd a st S.e) fr :: S.ds) ({ target := .fn (.func ff.val) cr, args := cl ++ args.map ac.eval } :: ac.defers) :=
        .cons ff _ _ _ _ (by rw [Array.toList_append, Array.toList_map]; exact v1.append (hg.list hl)) v2 hd
      obtain ⟨sc, se, sd, sh, sn⟩ := S
      exact hn (.k .u) undef (.mk sc se (.fn ff (fl ++ l.map fun a => opd a st se) fr :: sd) sh sn) ρ w _ h2 rfl rfl .u hr (Ext.refl _ _ _) hds
    · cases hc
  · -- call
    rename_i c
    obtain ⟨callee, args, ats⟩ := c
    simp only at hc
    split at hc
    · rename_i g
      split at hc
      · cases hc
      · rename_i hcond
        obtain ⟨l, hl, rfl⟩ := Option.map_eq_some_iff.1 hc
        simp only [Bool.or_eq_true, Bool.not_eq_true', decide_eq_false_iff_not, not_or, Decidable.not_not] at hcond
        have h2 := evXs_inv st S.e l _ (show evXs l st S.e (ec1 (fkOf g) S K Q') = true from hh)
        refine eff_call hok h2 fun ρ w ac hr hg => ⟨args.toList.map ac.eval, hg.list hl, ?_⟩
        rw [call_value (.func g) args ats ac.eval ds ty pos af gd (g := g) (cl := #[]) (cr := #[]) rfl w, fkOf_val g hcond.2]
        congr 2
        apply Array.ext'
        simp
    · rename_i f _
      obtain ⟨x, hx, hc⟩ := Option.bind_eq_some_iff.1 hc
      obtain ⟨l, hl, rfl⟩ := Option.map_eq_some_iff.1 hc
      obtain ⟨ff, fl, fr, e1, h1⟩ := asFn_inv (show asFn (opd x st S.e) (ev2 l S st K Q') = true from hh)
      have h2 := evXs_inv st S.e l _ (show evXs l st S.e (ev3 ff fl fr S K Q') = true from h1)
      have h2 : app (l.map fun a => opd a st S.e) fr (ev4 ff fl S K Q') = true := h2
      rw [app_eq] at h2
      have h2 : app fl ((l.map fun a => opd a st S.e) ++ fr) (ec1 ff S K Q') = true := h2
      rw [app_eq] at h2
      refine eff_call hok h2 fun ρ w ac hr hg => ?_
      have hv := hg f x hx
      rw [e1] at hv
      obtain ⟨cl, cr, e2, v1, v2⟩ := hv.fn_inv
      refine ⟨cl.toList ++ (args.toList.map ac.eval ++ cr.toList), v1.append ((hg.list hl).append v2), ?_⟩
      rw [call_value f args ats ac.eval ds ty pos af gd e2 w]
      congr 2
      apply Array.ext'
      simp
    · -- append
      split at hc
      · rename_i s x sT xT h1 h2
        obtain ⟨args⟩ := args
        obtain ⟨ats⟩ := ats
        simp only at h1 h2
        subst h1 h2
        obtain ⟨a, hx, hc⟩ := Option.bind_eq_some_iff.1 hc
        obtain ⟨b, hy, hc⟩ := Option.bind_eq_some_iff.1 hc
        split at hc
        · rename_i el d hs hd
          obtain ⟨sz, hsz, hc⟩ := Option.bind_eq_some_iff.1 hc
          obtain ⟨z, hz, hc⟩ := Option.bind_eq_some_iff.1 hc
          split at hc
          · rename_i hcond
            cases hc
            have T : ApT P sT xT el d sz z := ⟨hs, hd, hcond.1, hsz, hcond.2.1, hz, hcond.2.2.1, hcond.2.2.2⟩
            obtain ⟨v, h', nx', q1, q2⟩ := ap_ok (ty := ty) T (show eAp el sz a b S st K Q' = true from hh)
            refine eff_value q1 fun ρ w ac hr hg => ?_
            obtain ⟨c, w', ρ', r1, r2, r3, r4⟩ := q2 ρ w _ _ hr (hg s a hx) (hg x b hy)
            exact ⟨c, w', ρ', builtin1 (fun _ _ _ _ => rfl) r1, r2, r3, r4⟩
          · cases hc
        · cases hc
      · cases hc
    · -- copy
      split at hc
      · rename_i d s dT sT h1 h2
        obtain ⟨args⟩ := args
        obtain ⟨ats⟩ := ats
        simp only at h1 h2
        subst h1 h2
        obtain ⟨a, hx, hc⟩ := Option.bind_eq_some_iff.1 hc
        obtain ⟨b, hy, hc⟩ := Option.bind_eq_some_iff.1 hc
        split at hc
        · rename_i el hd
          obtain ⟨sz, hsz, rfl⟩ := Option.map_eq_some_iff.1 hc
          obtain ⟨v, h', q1, q2⟩ := cp_ok (P := P) dT sT ty el hd sz hsz (show eCp sz a b S st K Q' = true from hh)
          refine eff_value q1 fun ρ w ac hr hg => ?_
          obtain ⟨c, w', r1, r2, r3, r4⟩ := q2 ρ w _ _ hr (hg d a hx) (hg s b hy)
          exact ⟨c, w', ρ, builtin1 (fun _ _ _ _ => rfl) r1, r2, r3, r4⟩
        · cases hc
      · cases hc
    · -- unsafeString
      split at hc
      · rename_i p n pt it h1 h2
        obtain ⟨args⟩ := args
        obtain ⟨ats⟩ := ats
        simp only at h1 h2
        subst h1 h2
        obtain ⟨a, hx, hc⟩ := Option.bind_eq_some_iff.1 hc
        obtain ⟨b, hy, hc⟩ := Option.bind_eq_some_iff.1 hc
        split at hc
        · rename_i el hp
          split at hc
          · rename_i h1
            cases hc
            obtain ⟨v, h', q1, q2⟩ := us_ok (P := P) (it := it) (ty := ty) hp h1 (show eUs el a b S st K Q' = true from hh)
            refine eff_value q1 fun ρ w ac hr hg => ?_
            obtain ⟨c, w', r1, r2, r3, r4⟩ := q2 ρ w _ _ hr (hg p a hx) (hg n b hy)
            exact ⟨c, w', ρ, builtin1 (fun _ _ _ _ => rfl) r1, r2, r3, r4⟩
          · cases hc
        · cases hc
      · cases hc
    · -- clear
      split at hc
      · rename_i x t h1 h2
        obtain ⟨args⟩ := args
        obtain ⟨ats⟩ := ats
        simp only at h1 h2
        subst h1 h2
        obtain ⟨a, hx, hc⟩ := Option.bind_eq_some_iff.1 hc
        split at hc
        · rename_i el ht
          obtain ⟨zl, hz, rfl⟩ := Option.map_eq_some_iff.1 hc
          obtain ⟨z, z1, z2, z3⟩ := zlOf_ok hz
          obtain ⟨h', q1, q2⟩ := clr_ok (P := P) t el ty ht z z1 zl z2 z3 (show eClr zl a S st K Q' = true from hh)
          refine eff_value q1 fun ρ w ac hr hg => ?_
          obtain ⟨c, w', ρ', r1, r2, r3, r4⟩ := q2 ρ w _ hr (hg x a hx)
          exact ⟨c, w', ρ', builtin1 (fun _ _ _ _ => rfl) r1, r2, r3, r4⟩
        · cases hc
      · cases hc
    · cases hc
  · cases hc
end
end Go.Ev
