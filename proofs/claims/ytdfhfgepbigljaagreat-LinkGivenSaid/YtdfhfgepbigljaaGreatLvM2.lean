/- The small language and its interpreter, part 2. -/
import Derived.Test.YtdfhfgepbigljaaGreatLvM1
/- Operations and calls: what they do, for the rules of the kit. -/
namespace Go.Lv
set_option linter.unusedVariables false
set_option linter.unusedSimpArgs false

/-- An operation comes to a value, as a call or at once. -/
def Does (P : Program) (o : Oper) (a : Act) (w : World) (K : Value → World → Prop) : Prop :=
  ∀ (next : Act → World → Prop) (Q : Exit → Act → World → Prop), (∀ rv w', K rv w' → next (a.put o.dst rv) w') → o.wp P a w next Q

section
variable {P : Program} {g : Gh} {H : Heap} {w : World} {a : Act} {o : Oper}

theorem Runs.does {K : Value → World → Prop} (h : Runs P o a w K) : Does P o a w K := by
  intro next Q hn
  obtain ⟨rv, w', h1, h2⟩ := h
  unfold Oper.wp
  rcases h1 with h1 | ⟨h1, rfl⟩
  · rw [h1]; exact hn _ _ h2
  · rw [h1]; exact hn _ _ h2

theorem Does.mono {K K' : Value → World → Prop} (h : Does P o a w K) (hk : ∀ rv w', K rv w' → K' rv w') : Does P o a w K' :=
  fun next Q hn => h next Q fun rv w' h => hn rv w' (hk rv w' h)

/-- What a call comes to. -/
def Comes' (g : Gh) (H : Heap) (w : World) (H' : Heap) (v : DV) : Ending → World → Prop
  | .returned rv, w' => Post g H w H' v rv w'
  | _, _ => False

/-- A caller is right: its calls stand for calls of the program's functions. -/
def CallOk (P : Program) (call : Caller) : Prop :=
  ∀ {g : Gh} {H H' : Heap} {w : World} {lo f : Nat} {args : List DV} {v : DV} {rargs : Array Value}, Rel g H w → lo ≤ H.length → args.length = rargs.size →
    (∀ (i : Nat) (c : DV) (v : Value), args[i]? = some c → rargs[i]? = some v → DRel g H w c v) → call lo f args H = some (v, H') →
    (∃ fn, P.funcs[rid f]? = some fn ∧ (fn.name == "runtime.NumGoroutine") = false ∧ fn.body.isSome = true) ∧ Calls P (rid f) rargs w (Comes' g H w H' v)

theorem callFunc_run {f : Nat} {args : Array Value} {fn : Func} (hf : P.funcs[f]? = some fn) (hn : (fn.name == "runtime.NumGoroutine") = false) (hb : fn.body.isSome = true) :
    (callFunc f args).run P w = .ok (.enter f args) w := by
  have hb' : fn.body.isNone = false := by cases h : fn.body <;> simp_all
  unfold callFunc
  have hn' : fn.name ≠ "runtime.NumGoroutine" := by simpa using hn
  have hb2 : fn.body ≠ none := by intro e; rw [e] at hb; simp at hb
  simp [hf, hn', hb2]

theorem does_enter {f : Nat} {args : Array Value} {H' : Heap} {v : DV} (he : (execOp a.eval o).run P w = .ok (.enter f args) w) (h : Calls P f args w (Comes' g H w H' v)) :
    Does P o a w (Post g H w H' v) := by
  intro next Q hn
  unfold Oper.wp
  rw [he]
  refine Calls.mono h fun e w' hc => ?_
  cases e with
  | returned rv => exact hn rv w' hc
  | panicked c => exact hc.elim
  | outgrown => exact hc.elim

variable {vt : List (Option Nat)} {ds : List (Option Nat)} {env ts : List DV}

def okCall (vt ds : List (Option Nat)) (f : Nat) (args : List Opd) : Op → Bool
  | .call { callee := .value (.func f'), args := ys, .. } => rid f == f' && okOpds vt ds args ys.toList
  | _ => false
def okCallv (vt ds : List (Option Nat)) (f : Opd) (args : List Opd) : Op → Bool
  | .call { callee := .value f', args := ys, .. } => okOpd vt ds f f' && okOpds vt ds args ys.toList
  | _ => false

theorem call_does {call : Caller} (hc : CallOk P call) {lo f : Nat} {args : List Opd} {v : DV} {H' : Heap} (hs : St vt ds g H w env ts a) (hr : Rel g H w) (hlo : lo ≤ H.length) (h : okCall vt ds f args o.op = true)
    (he : call lo f (opds env ts args) H = some (v, H')) : Does P o a w (Post g H w H' v) := by
  unfold okCall at h
  split at h
  · rename_i f' ys tys ho
    simp only [Bool.and_eq_true, beq_iff_eq] at h
    obtain ⟨rfl, h1⟩ := h
    obtain ⟨h2, h3⟩ := hs.opds h1
    obtain ⟨⟨fn, hf, hn, hb⟩, hcalls⟩ := hc (rargs := ys.map a.eval) hr hlo (by rw [opds_len]; simpa using h2) (fun i c v hc hv => h3 i c v hc (by simpa using hv)) he
    refine does_enter (f := rid f) (args := ys.map a.eval) ?_ hcalls
    have e1 : execOp a.eval o = callFunc (rid f) (ys.map a.eval) := by
      simp only [execOp, ho, resolve, Act.eval, Deferred.ofValue, pure_bind, invoke]
      simp
    rw [e1]
    exact callFunc_run hf hn hb
  · simp at h

theorem callv_does {call : Caller} (hc : CallOk P call) {lo : Nat} {f : Opd} {args : List Opd} {v : DV} {H' : Heap} (hs : St vt ds g H w env ts a) (hr : Rel g H w) (hlo : lo ≤ H.length) (h : okCallv vt ds f args o.op = true)
    (he : (match opd env ts f with
      | .p (.fn k cs) => call lo k (opds env ts args ++ cs.map .p) H
      | .fn k cs => call lo k (opds env ts args ++ cs) H
      | _ => none) = some (v, H')) : Does P o a w (Post g H w H' v) := by
  unfold okCallv at h
  split at h
  · rename_i f' ys tys ho
    simp only [Bool.and_eq_true] at h
    obtain ⟨h0, h1⟩ := h
    obtain ⟨h2, h3⟩ := hs.opds h1
    have key : ∀ (k : Nat) (cs : List DV) (vs : Array Value), a.eval f' = .func (.func (rid k)) #[] vs → cs.length = vs.size → (∀ (i : Nat) (c : DV) (v : Value), cs[i]? = some c → vs[i]? = some v → DRel g H w c v) →
        call lo k (opds env ts args ++ cs) H = some (v, H') → Does P o a w (Post g H w H' v) := by
      intro k cs vs hf hl hcv hcall
      have hlen : (opds env ts args).length = (ys.map a.eval).size := by rw [opds_len]; simpa using h2
      obtain ⟨⟨fn, hf', hn, hb⟩, hcalls⟩ := hc (rargs := ys.map a.eval ++ vs) hr hlo (by rw [List.length_append, Array.size_append, hlen, hl]) (fun i c v hc hv => by
        rcases Nat.lt_or_ge i (opds env ts args).length with hlt | hge
        · rw [List.getElem?_append_left hlt] at hc
          rw [Array.getElem?_append_left (by omega)] at hv
          exact h3 i c v hc (by simpa using hv)
        · rw [List.getElem?_append_right hge] at hc
          rw [Array.getElem?_append_right (by omega)] at hv
          exact hcv _ c v hc (by rw [hlen]; exact hv)) hcall
      refine does_enter (f := rid k) (args := ys.map a.eval ++ vs) ?_ hcalls
      have e1 : execOp a.eval o = callFunc (rid k) (ys.map a.eval ++ vs) := by
        simp only [execOp, ho, resolve, hf, Deferred.ofValue, pure_bind, invoke]
        simp
      rw [e1]
      exact callFunc_run hf' hn hb
    have hx := hs.opd h0
    split at he
    · rename_i k cs hfx
      rw [hfx] at hx
      have hp := hx.pure
      generalize hrf : a.eval f' = rf at hp
      cases hp with
      | fn k cs vs hl hh => exact key k (cs.map .p) vs hrf (by simpa using hl) (fun i c v hc hv => by
          simp only [List.getElem?_map, Option.map_eq_some_iff] at hc
          obtain ⟨c', h4, rfl⟩ := hc
          exact .p _ _ (hh i c' v h4 hv)) he
    · rename_i k cs hfx
      rw [hfx] at hx
      generalize hrf : a.eval f' = rf at hx
      cases hx with
      | fn k cs vs hl hh => exact key k cs vs hrf hl hh he
    · simp at he
  · simp at h
end
end Go.Lv

/- A box that is made and then stored to: in two steps. -/
namespace Go.Lv
set_option linter.unusedVariables false
set_option linter.unusedSimpArgs false

section
variable {P : Program} {g : Gh} {H : Heap} {w w0 : World} {a : Act} {o : Oper}

/-- A block that has been made, and not yet been stored to. -/
structure Pend (g : Gh) (H : Heap) (w w0 : World) (R n : Nat) : Prop where
  ge : w0.heap.size ≤ R
  lt : R < w.heap.size
  free : Free g H R
  notI : ∀ o, ¬ g.I R o
  cells : ∃ zv t z, w.heap[R]? = some (.cells zv.cells t (0, 0)) ∧ relZero z zv = true ∧ (cellsP z).length = n

theorem Pend.mono {g' : Gh} {H' : Heap} {w' : World} {R n : Nat} (h : Pend g H w w0 R n) (hv : Ev g H w g' H' w') : Pend g' H' w' w0 R n where
  ge := h.ge
  lt := Nat.lt_of_lt_of_le h.lt hv.size
  free := hv.free' h.lt h.free
  notI := fun o hI => by
    rcases hv.newI R o hI with h1 | h1 | h1
    · exact h.notI o h1
    · have := h.lt; omega
    · exact h1 h.free
  cells := by
    obtain ⟨zv, t, z, h1, h2⟩ := h.cells
    exact ⟨zv, t, z, by rw [hv.free R h.lt h.free, h1], h2⟩

def okNew (P : Program) (n : Nat) (z : PV) (op : Op) : Bool := okAlloc P n z op && (cellsP z).length == n

/-- a box is made -/
theorem new_does {n : Nat} {z : PV} (hr : Rel g H w) (hw : w0.heap.size ≤ w.heap.size) (h : okNew P n z o.op = true) :
    Does P o a w fun rv w' => rv = .pointer (some ⟨w.heap.size, 0, none⟩) ∧ (∃ g', Rel g' H w' ∧ Ev g H w g' H w' ∧ Pend g' H w' w0 w.heap.size n) := by
  simp only [okNew, Bool.and_eq_true, beq_iff_eq] at h
  obtain ⟨h, hn⟩ := h
  unfold okAlloc at h
  split at h
  · rename_i t ho
    split at h
    · rename_i i hi
      split at h
      · rename_i zv hz
        refine Runs.does (Runs.of_value (s := Instr.alloc t true (.tuple #[])) (by simp only [execOp, ho]) ⟨.pointer (some ⟨w.heap.size, 0, none⟩), w.alloc (.cells zv.cells t), ?_, rfl, ?_⟩)
        · simp [Instr.alloc, newVar, newRow, r_zero hi hz]
        · obtain ⟨h1, h2⟩ := alloc_val hr (.cells zv.cells t) 0
          refine ⟨_, h1, h2, ⟨hw, by simp, fun b k hb ha hφ => ?_, fun o hI => ?_, zv, t, z, heap_alloc_new, h, hn⟩⟩
          · obtain ⟨R, h3, h4, _⟩ := hr.blk b k hb ha
            have h5 : g.φ b = some w.heap.size := hφ
            rw [h3] at h5
            have := Option.some.inj h5
            omega
          · rcases hI with hI | ⟨_, hI⟩
            · exact absurd (hr.low _ _ hI) (Nat.lt_irrefl _)
            · omega
      · simp at h
    · simp at h
  · simp at h

theorem freeze_p (n : Nat) (h : Heap) (x : PV) : freeze (n + 1) h (.p x) = some (x, h) := by simp only [freeze]
theorem frzs_p (n : Nat) : ∀ (l : List PV) (h : Heap), frzs (freeze (n + 1)) h (l.map .p) = some (l, h)
  | [], h => rfl
  | x :: r, h => by
    have ih := frzs_p n r h
    simp only [List.map_cons, frzs, freeze_p, ih]

theorem valOfP_self (u : PV) : valOfP (isAggP u) (cellsP u) = some u := by cases u <;> rfl

theorem putAt_all {α : Type} {l v : List α} (h : l.length = v.length) : putAt l 0 v = v := by
  apply List.ext_getElem?
  intro k
  rw [putAt_get]
  by_cases hk : k < v.length
  · rw [if_pos ⟨Nat.zero_le _, by omega, by omega⟩, Nat.sub_zero]
  · rw [if_neg (by omega), List.getElem?_eq_none (by omega), List.getElem?_eq_none (by omega)]

/-- What is so behind a box's store. -/
structure Boxed (g : Gh) (H : Heap) (w w0 : World) (R : Nat) (u : PV) (g' : Gh) (w' : World) : Prop where
  rel : Rel g' H w'
  val : PRel g'.I w' (.cptr u) (.pointer (some ⟨R, 0, none⟩))
  ev : ∀ {g0 : Gh} {H0 : Heap}, Ev g0 H0 w0 g H w → Ev g0 H0 w0 g' H w'
  mono : ∀ {v : DV} {rv : Value}, DRel g H w v rv → DRel g' H w' v rv
  pend : ∀ {R' n : Nat}, R' ≠ R → Pend g H w w0 R' n → Pend g' H w' w0 R' n

theorem boxed {t : TypeId} {n R : Nat} {i : TypeInfo} {u : PV} {rv : Value} (hr : Rel g H w) (hp : Pend g H w w0 R n) (hi : P.info? t = some i) (hsz : i.size = n) (hv : DRel g H w (.p u) rv)
    (hk : okCells (cellsD (.p u)) = true) (hn : (cellsP u).length = n) :
    ∃ w', (Instr.storeAt t (.pointer (some ⟨R, 0, none⟩)) rv).run P w = .ok () w' ∧ ∃ g', Boxed g H w w0 R u g' w' := by
  obtain ⟨zv, ty, z, hc, hz, hzn⟩ := hp.cells
  let k : Blk := .vec false (isAggP u) n [(cellsP z).map .p]
  let g1 := g.own H.length R
  have hblk : BlkRel g1 (H ++ [k]) w R k := by
    obtain ⟨e1, e2, e3⟩ := relZero_cells (I := g1.I) (w := w) hz
    refine ⟨⟨zv.cells, ty, (0, 0), hc, by simp [e1, hzn], .inl rfl⟩, fun j e hj => ?_, fun j e m d hj hm => ?_, fun o => ⟨fun h => absurd h (hp.notI o), fun h => by simp at h⟩⟩
    · have : j = 0 := by have := (List.getElem?_eq_some_iff.1 hj).1; simpa using this
      subst this; simp at hj; subst hj
      refine ⟨by simp [hzn], fun d hd => ?_⟩
      obtain ⟨c, h1, rfl⟩ := List.mem_map.1 hd
      exact e2 c h1
    · have : j = 0 := by have := (List.getElem?_eq_some_iff.1 hj).1; simpa using this
      subst this; simp at hj; subst hj
      simp only [List.getElem?_map, Option.map_eq_some_iff] at hm
      obtain ⟨c, h1, rfl⟩ := hm
      obtain ⟨rc, e4, e5⟩ := e3 m c h1
      refine ⟨rc, ?_, .p _ _ e5⟩
      rw [Nat.zero_mul, Nat.zero_add, cell?_eq hc, e4]
  have hr1 : Rel g1 (H ++ [k]) w := own_blk hr hp.free hp.lt hblk
  have hx : DRel g1 (H ++ [k]) w (.ptr H.length 0 0) (.pointer (some ⟨R, 0, none⟩)) := by
    have := DRel.fptr (g := g1) (H := H ++ [k]) (w := w) H.length 0 0 R n (isAggP u) [(cellsP z).map .p] (look_last _) (by simp [g1, Gh.own])
    simpa using this
  obtain ⟨w', h1, g2, h2, h3⟩ := s_store (P := P) (j := 0) (o := 0) hr1 hi hsz hx hv.own (look_last _) rfl (by rw [cellsD_p, List.length_map]; exact hn) hk (by simp [hzn])
  have hput : putAt ((cellsP z).map DV.p) 0 (cellsD (.p u)) = (cellsP u).map .p := by
    rw [cellsD_p]; exact putAt_all (by simp [hzn, hn])
  rw [hput] at h2 h3
  simp only [List.set_cons_zero] at h2 h3
  have hset : ∀ b : Blk, (H ++ [k]).set H.length b = H ++ [b] := fun b => by
    rw [List.set_append_right _ _ (Nat.le_refl _)]; simp
  rw [hset] at h2 h3
  have hfz : freeze 2 (H ++ [.vec false (isAggP u) n [(cellsP u).map .p]]) (.ptr H.length 0 0) = some (.cptr u, H ++ [.dead]) := by
    have e1 : (H ++ [Blk.vec false (isAggP u) n [(cellsP u).map .p]])[H.length]? = some (Blk.vec false (isAggP u) n [(cellsP u).map .p]) := look_last _
    have e2 : (H ++ [Blk.vec false (isAggP u) n [(cellsP u).map .p]]).set H.length .dead = H ++ [.dead] := by rw [List.set_append_right _ _ (Nat.le_refl _)]; simp
    unfold freeze
    simp only [getN_eq, setN_eq, e1, e2, frzs_p 0, valOfP_self]
  obtain ⟨g3, h4, h5, h6, _⟩ := freeze_rel 2 h2 (hx.mono h3) hfz
  have htk : (H ++ [Blk.dead]).take H.length = H := by simp
  have hlo : LoInv H.length (H ++ [Blk.dead]) := (LoStep.app (lo := H.length) (k := .dead)).2 (Nat.le_refl _) _ (Nat.le_refl _) hr.lo
  have h7 := h4.take hlo
  rw [htk] at h7
  have h35 := h3.trans h5
  refine ⟨w', h1, g3, h7, h6, fun hv0 => ?_, fun hd => ?_, fun hne hq => ?_⟩
  · have := ((ev_own (k := k) hv0 hp.ge).trans h35).take (n := H.length) hv0.len
    rw [htk] at this; exact this
  · have := ((hd.own (R := R) (k := k)).mono h35).take (n := H.length) hd.inH
    rw [htk] at this; exact this
  · rename_i R' n'
    have hq1 : Pend g1 (H ++ [k]) w w0 R' n' := ⟨hq.ge, hq.lt, fun b k' hb ha hφ => by
      rcases Nat.lt_or_ge b H.length with hlt | hge
      · rw [List.getElem?_append_left hlt] at hb
        simp only [g1, Gh.own] at hφ; rw [if_neg (by omega)] at hφ
        exact hq.free b k' hb ha hφ
      · have hb' : b = H.length := by
          have := (List.getElem?_eq_some_iff.1 hb).1
          simp at this; omega
        subst hb'
        simp only [g1, Gh.own, if_true, Option.some.injEq] at hφ
        exact hne hφ.symm, hq.notI, hq.cells⟩
    have hq2 := hq1.mono h35
    refine ⟨hq2.ge, hq2.lt, fun b k' hb ha hφ => ?_, hq2.notI, hq2.cells⟩
    exact hq2.free b k' (by rw [List.getElem?_append_left (List.getElem?_eq_some_iff.1 hb).1]; exact hb) ha hφ

def okSet (P : Program) (vt ds : List (Option Nat)) (n d : Nat) (x : Opd) : Op → Bool
  | .store t (.tmp d') y => szOf P t == some n && d == d' && okOpd vt ds x y
  | _ => false

/-- a box is stored to -/
theorem set_does {vt ds : List (Option Nat)} {env ts : List DV} {n d R : Nat} {x : Opd} {u : PV} (hs : St vt ds g H w env ts a) (hr : Rel g H w) (hp : Pend g H w w0 R n) (hd : a.tmps[d]? = some (.pointer (some ⟨R, 0, none⟩)))
    (h : okSet P vt ds n d x o.op = true) (hx : opd env ts x = .p u) (hk : okCells (cellsD (.p u)) = true) (hn : (cellsP u).length = n) :
    Does P o a w fun rv w' => rv = Go.undef ∧ ∃ g', Boxed g H w w0 R u g' w' := by
  unfold okSet at h
  split at h
  · rename_i t d' y ho
    simp only [Bool.and_eq_true, beq_iff_eq] at h
    obtain ⟨⟨h1, rfl⟩, h2⟩ := h
    obtain ⟨i, hi, hsz⟩ := szOf_spec h1
    have hv := hs.opd h2
    rw [hx] at hv
    obtain ⟨w', h3, h4⟩ := boxed (P := P) hr hp hi hsz hv hk hn
    have he : a.eval (.tmp d) = .pointer (some ⟨R, 0, none⟩) := by simp [Act.eval, hd]
    exact Runs.does (Runs.of_unit (s := Instr.storeAt t (a.eval (.tmp d)) (a.eval y)) (by simp only [execOp, ho]) ⟨w', by rw [he]; exact h3, rfl, h4⟩)
  · simp at h
end
end Go.Lv

/- A region's run: its values and heaps, and what is so whenever an operation runs. -/
namespace Go.Lv
set_option linter.unusedVariables false
set_option linter.unusedSimpArgs false

/-! ### which operations come before which -/
def mask1 (B : List Nat) : List Edge → Nat
  | [] => 0
  | e :: r => if Region.binds .any e then (2 ^ e.on ||| (getN B e.on).getD 0) ||| mask1 B r else mask1 B r
def masks (draw : Bool) : List Nat → List Oper → List Nat
  | B, [] => B
  | B, o :: r => masks draw (B ++ [if draw then mask1 B o.after.toList else 2 ^ B.length - 1]) r
def dep (B : List Nat) (i j : Nat) : Bool := ((getN B i).getD 0).testBit j

theorem mask1_spec {B : List Nat} {j : Nat} : ∀ {es : List Edge}, (mask1 B es).testBit j = true → ∃ e ∈ es, Region.binds .any e = true ∧ (e.on = j ∨ dep B e.on j = true)
  | [], h => by simp [mask1] at h
  | e :: r, h => by
    simp only [mask1] at h
    split at h
    · rename_i hb
      simp only [Nat.testBit_or, Bool.or_eq_true, Nat.testBit_two_pow, decide_eq_true_eq] at h
      rcases h with (h | h) | h
      · exact ⟨e, by simp, hb, .inl h⟩
      · exact ⟨e, by simp, hb, .inr h⟩
      · obtain ⟨e', h1, h2⟩ := mask1_spec h; exact ⟨e', by simp [h1], h2⟩
    · obtain ⟨e', h1, h2⟩ := mask1_spec h; exact ⟨e', by simp [h1], h2⟩

theorem masks_app (draw : Bool) : ∀ (ops : List Oper) (B : List Nat), ∃ ext : List Nat, masks draw B ops = B ++ ext ∧ ext.length = ops.length ∧
    ∀ (k : Nat) (o : Oper), ops[k]? = some o → ext[k]? = some (if draw then mask1 (B ++ ext.take k) o.after.toList else 2 ^ (B.length + k) - 1)
  | [], B => ⟨[], by simp [masks], rfl, fun k o h => by simp at h⟩
  | o :: r, B => by
    obtain ⟨ext, h1, h2, h3⟩ := masks_app draw r (B ++ [if draw then mask1 B o.after.toList else 2 ^ B.length - 1])
    refine ⟨(if draw then mask1 B o.after.toList else 2 ^ B.length - 1) :: ext, by simp only [masks]; rw [h1]; simp, by simp [h2], fun k o' hk => ?_⟩
    cases k with
    | zero => simp at hk; subst hk; simp
    | succ k =>
      have := h3 k o' (by simpa using hk)
      simp only [List.getElem?_cons_succ, List.take_succ_cons, List.length_append, List.length_cons, List.length_nil, List.append_assoc, List.cons_append, List.nil_append] at this ⊢
      rw [this]
      congr 2
      congr 1
      congr 1
      omega

theorem dep_draw {ops : List Oper} {i j : Nat} (h : dep (masks true [] ops) i j = true) : ∃ o e, ops[i]? = some o ∧ e ∈ o.after.toList ∧ Region.binds .any e = true ∧ (e.on = j ∨ dep (masks true [] ops) e.on j = true) := by
  obtain ⟨ext, h1, h2, h3⟩ := masks_app true ops []
  rw [h1] at h ⊢
  simp only [List.nil_append] at h h3 ⊢
  unfold dep at h
  rw [getN_eq] at h
  rcases Nat.lt_or_ge i ops.length with hlt | hge
  · have ho : ops[i]? = some ops[i] := by simp [hlt]
    rw [h3 i _ ho] at h
    simp only [if_true, Option.getD_some] at h
    obtain ⟨e, he, hb, hj⟩ := mask1_spec h
    refine ⟨ops[i], e, ho, he, hb, hj.imp id fun hd => ?_⟩
    unfold dep at hd ⊢
    rw [getN_eq] at hd ⊢
    rw [List.getElem?_take] at hd
    split at hd
    · exact hd
    · simp at hd
  · rw [List.getElem?_eq_none (by omega)] at h; simp at h

theorem dep_seq {ops : List Oper} {i j : Nat} (h : dep (masks false [] ops) i j = true) : j < i := by
  obtain ⟨ext, h1, h2, h3⟩ := masks_app false ops []
  rw [h1] at h
  simp only [List.nil_append] at h h3
  unfold dep at h
  rw [getN_eq] at h
  rcases Nat.lt_or_ge i ops.length with hlt | hge
  · rw [h3 i _ (by simp [hlt] : ops[i]? = some ops[i])] at h
    simp only [Bool.false_eq_true, if_false, Option.getD_some, List.length_nil, Nat.zero_add, Nat.testBit_two_pow_sub_one, decide_eq_true_eq] at h
    exact h
  · rw [List.getElem?_eq_none (by omega)] at h; simp at h

/-! ### counting -/
def cnt : List IStep → Nat → Nat
  | [], _ => 0
  | _ :: _, 0 => 0
  | s :: r, i + 1 => (if isStep s.win then 1 else 0) + cnt r i
def cntL : List IStep → (Nat → Bool) → Nat
  | [], _ => 0
  | s :: r, L => (if isStep s.win && L 0 then 1 else 0) + cntL r (fun k => L (k + 1))

theorem cntL_cnt : ∀ (st : List IStep) (L : Nat → Bool) (i : Nat), (∀ (c : Nat) (s : IStep), st[c]? = some s → isStep s.win = true → (L c = true ↔ c < i)) → cntL st L = cnt st i
  | [], L, i, _ => by cases i <;> rfl
  | s :: r, L, 0, h => by
    have ih := cntL_cnt r (fun k => L (k + 1)) 0 fun c s' hc hs => by
      have := h (c + 1) s' (by simpa using hc) hs
      constructor
      · intro h1; have := this.1 h1; omega
      · intro h1; omega
    have h0 : cnt r 0 = 0 := by cases r <;> rfl
    simp only [cntL, cnt]
    rw [ih, h0]
    by_cases hs : isStep s.win = true
    · have := h 0 s (by simp) hs
      have hL : L 0 = false := by
        cases hL : L 0
        · rfl
        · exact absurd (this.1 hL) (by omega)
      simp [hL]
    · simp [hs]
  | s :: r, L, i + 1, h => by
    have ih := cntL_cnt r (fun k => L (k + 1)) i fun c s' hc hs => by
      have := h (c + 1) s' (by simpa using hc) hs
      constructor
      · intro h1; have := this.1 h1; omega
      · intro h1; exact this.2 (by omega)
    simp only [cntL, cnt]
    rw [ih]
    by_cases hs : isStep s.win = true
    · have := (h 0 s (by simp) hs).2 (by omega)
      simp [this]
    · simp [hs]

theorem cntL_le : ∀ (st : List IStep) (L L' : Nat → Bool), (∀ (c : Nat) (s : IStep), st[c]? = some s → isStep s.win = true → L c = true → L' c = true) → cntL st L ≤ cntL st L'
  | [], _, _, _ => Nat.le_refl _
  | s :: r, L, L', h => by
    have ih := cntL_le r (fun k => L (k + 1)) (fun k => L' (k + 1)) fun c s' hc hs hl => h (c + 1) s' (by simpa using hc) hs hl
    simp only [cntL]
    have : (if isStep s.win && L 0 then 1 else 0) ≤ (if isStep s.win && L' 0 then 1 else 0) := by
      by_cases hs : isStep s.win = true
      · by_cases hl : L 0 = true
        · simp [hs, hl, h 0 s (by simp) hs hl]
        · simp [hl]
      · simp [hs]
    omega

theorem cntL_congr {st : List IStep} {L L' : Nat → Bool} (h : ∀ c, c < st.length → L c = L' c) : cntL st L = cntL st L' :=
  Nat.le_antisymm (cntL_le st L L' fun c s hc _ hl => by rw [← h c (List.getElem?_eq_some_iff.1 hc).1]; exact hl) (cntL_le st L' L fun c s hc _ hl => by rw [h c (List.getElem?_eq_some_iff.1 hc).1]; exact hl)

theorem cntL_put : ∀ (st : List IStep) (L : Nat → Bool) (i : Nat) (s : IStep), st[i]? = some s → L i = false → cntL st (fun k => k == i || L k) = cntL st L + if isStep s.win then 1 else 0
  | [], _, _, _, h, _ => by simp at h
  | s :: r, L, 0, s', h, hL => by
    simp at h; subst h
    simp only [cntL, hL]
    have : cntL r (fun k => (k + 1 == 0) || L (k + 1)) = cntL r (fun k => L (k + 1)) := cntL_congr fun c _ => by simp
    rw [this]
    by_cases hs : isStep s.win = true
    · simp [hs]; omega
    · simp [hs]
  | s :: r, L, i + 1, s', h, hL => by
    have ih := cntL_put r (fun k => L (k + 1)) i s' (by simpa using h) hL
    simp only [cntL]
    have : cntL r (fun k => (k + 1 == i + 1) || L (k + 1)) = cntL r (fun k => k == i || L (k + 1)) := cntL_congr fun c _ => by simp
    rw [this, ih]
    simp
    omega

/-! ### what does not change the heap -/
def heapFree : IOp → Bool
  | .mov _ => true
  | .pick _ _ _ => true
  | .bin _ _ _ => true
  | .eqv _ _ _ _ => true
  | .un _ _ => true
  | .conv _ _ => true
  | .fieldAddr _ _ _ _ => true
  | .indexArr _ _ _ _ _ => true
  | .indexStr _ _ => true
  | .indexV _ _ _ _ _ => true
  | .field _ _ _ _ => true
  | .build _ _ => true
  | .boxNew _ _ => true
  | .boxSet _ _ => true
  | .extract _ _ => true
  | .nilCheck _ => true
  | .mkfn _ _ => true
  | .mkif _ _ => true
  | .s2b .val _ => true
  | .box .val _ => true
  | .buildSl .val _ _ _ => true
  | _ => false

theorem heapFree_spec {call : Caller} {lo : Nat} {env ts : List DV} {i : IOp} {H H' : Heap} {v : DV} (hf : heapFree i = true) (h : exOp call lo env ts H i = some (v, H')) :
    H' = H ∧ ∀ H2, exOp call lo env ts H2 i = some (v, H2) := by
  have k0 : ∀ {r : Option DV}, ok0 H r = some (v, H') → H' = H ∧ ∀ H2, ok0 H2 r = some (v, H2) := fun h => by obtain ⟨rfl, rfl⟩ := ok0_some h; exact ⟨rfl, fun _ => rfl⟩
  have kP : ∀ {r : Option PV}, okP H r = some (v, H') → H' = H ∧ ∀ H2, okP H2 r = some (v, H2) := fun h => by obtain ⟨_, rfl, rfl, rfl⟩ := okP_some h; exact ⟨rfl, fun _ => rfl⟩
  have kS : ∀ {u : DV}, some (u, H) = some (v, H') → H' = H ∧ ∀ H2 : Heap, some (u, H2) = some (v, H2) := fun e => by
    simp only [Option.some.injEq, Prod.mk.injEq] at e; obtain ⟨rfl, rfl⟩ := e; exact ⟨rfl, fun _ => rfl⟩
  cases i with
  | mov x => exact kS h
  | pick c x y =>
    simp only [exOp] at h ⊢
    split at h
    · exact kS h
    · simp at h
  | bin b x y =>
    simp only [exOp] at h ⊢
    split at h
    · exact kP h
    · simp at h
  | eqv k neg x y =>
    simp only [exOp] at h ⊢
    split at h
    · exact kS h
    · simp at h
  | un u x =>
    simp only [exOp] at h ⊢
    split at h
    · exact kP h
    · simp at h
  | conv k x =>
    simp only [exOp] at h ⊢
    split at h
    · exact kS h
    · simp at h
  | s2b hd x =>
    cases hd <;> simp [heapFree] at hf
    simp only [exOp] at h ⊢
    split at h
    · exact kS h
    · simp at h
  | box hd x =>
    cases hd <;> simp [heapFree] at hf
    simp only [exOp] at h ⊢
    split at h
    · rename_i hc
      simp only [if_pos hc]
      split at h
      · exact kS h
      · simp at h
    · simp at h
  | boxNew n z => exact kS h
  | boxSet n x =>
    simp only [exOp] at h ⊢
    split at h
    · split at h
      · rename_i hc
        simp only [if_pos hc]
        exact kS h
      · simp at h
    · simp at h
  | fieldAddr off n ag x => exact k0 h
  | indexArr len esz ag x i => exact k0 h
  | indexStr x i =>
    simp only [exOp] at h ⊢
    split at h
    · split at h
      · exact kS h
      · simp at h
    · simp at h
  | indexV len esz ag x i =>
    simp only [exOp] at h ⊢
    split at h
    · split at h
      · rename_i hc
        split at h
        · rename_i hl
          simp only [if_pos hc, if_pos hl]
          exact k0 h
        · simp at h
      · simp at h
    · simp at h
  | field off n ag x =>
    simp only [exOp] at h ⊢
    split at h
    · split at h
      · rename_i hl; simp only [if_pos hl]; exact kP h
      · simp at h
    · split at h
      · rename_i hl; simp only [if_pos hl]; exact k0 h
      · simp at h
    · simp at h
  | build z ps =>
    simp only [exOp] at h ⊢
    split at h
    · exact kS h
    · simp at h
  | buildSl hd ag esz ps =>
    cases hd <;> simp [heapFree] at hf
    simp only [exOp] at h ⊢
    split at h
    · split at h
      · exact kS h
      · simp at h
    · simp at h
  | extract i x =>
    simp only [exOp] at h ⊢
    split at h
    · exact kP h
    · exact k0 h
    · simp at h
  | nilCheck x =>
    simp only [exOp] at h ⊢
    split at h
    · simp at h
    · simp at h
    · simp at h
    · exact kS h
  | mkfn f caps => exact kS h
  | mkif t x =>
    simp only [exOp] at h ⊢
    split at h
    · exact kS h
    · simp at h
  | _ => simp [heapFree] at hf

/-- reads the heap, and leaves it as it is -/
def readOnly (ro : Nat → Bool) : IOp → Bool
  | .load _ _ _ => true
  | .len _ _ => true
  | .lookup _ _ _ _ _ => true
  | .slice _ _ _ _ _ => true
  | .indexAddr _ _ _ => true
  | .b2s _ => true
  | .b2b _ => true
  | .call f _ => ro f
  | op => heapFree op

theorem readOnly_spec {call : Caller} {ro : Nat → Bool} (hro : ∀ {lo f : Nat} {args : List DV} {H H' : Heap} {v : DV}, ro f = true → call lo f args H = some (v, H') → H' = H) {lo : Nat} {env ts : List DV} {i : IOp} {H H' : Heap} {v : DV}
    (hf : readOnly ro i = true) (h : exOp call lo env ts H i = some (v, H')) : H' = H := by
  have k0 : ∀ {r : Option DV}, ok0 H r = some (v, H') → H' = H := fun h => (ok0_some h).2
  have kS : ∀ {u : DV}, some (u, H) = some (v, H') → H' = H := fun e => by simp only [Option.some.injEq, Prod.mk.injEq] at e; exact e.2.symm
  cases i with
  | load ag n x => exact k0 h
  | len k x =>
    simp only [exOp] at h
    split at h
    · simp at h
    · split at h
      · exact kS h
      · simp at h
  | lookup ks z ok m k =>
    simp only [exOp] at h
    split at h
    · split at h
      · split at h
        · exact kS h
        · split at h
          · exact kS h
          · simp at h
        · split at h
          · split at h
            · exact kS h
            · simp at h
          · simp at h
        · simp at h
      · simp at h
    · simp at h
  | slice str esz x l u =>
    simp only [exOp] at h
    split at h
    · simp at h
    · split at h
      · exact k0 h
      · simp at h
  | indexAddr esz x i => exact k0 h
  | b2s x =>
    simp only [exOp] at h
    split at h
    · simp at h
    · split at h
      · split at h
        · split at h
          · exact kS h
          · simp at h
        · simp at h
      · simp at h
  | b2b x =>
    simp only [exOp] at h
    split at h
    · split at h
      · split at h
        · exact kS h
        · simp at h
      · simp at h
    · simp at h
  | call f args => exact hro hf h
  | callv f args => simp [readOnly, heapFree] at hf
  | _ => exact (heapFree_spec (by simpa only [readOnly] using hf) h).1

/-! ### the run -/
theorem steps_spec {call : Caller} {lo : Nat} {env : List DV} : ∀ {st : List IStep} {ts tsN : List DV} {h hN : Heap} {hs hsN : List Heap}, steps call lo env st ts h hs = some (tsN, hN, hsN) →
    (∀ (s : IStep) (ts : List DV) (H : Heap) (q : DV × Heap) (r : DV × Heap), s ∈ st → isStep s.win = false → exOp call lo env ts H s.op = some q → fzDV s.fz q = some r → r.2 = H) →
    ∃ (V : List DV) (K : List Heap) (Hc : Nat → Heap), tsN = V.reverse ++ ts ∧ hsN = K.reverse ++ hs ∧ V.length = st.length ∧ Hc 0 = h ∧ Hc st.length = hN ∧
      (∀ i, i ≤ st.length → (h :: K)[cnt st i]? = some (Hc i)) ∧
      ∀ (i : Nat) (s : IStep), st[i]? = some s → ∃ v, V[i]? = some v ∧
        ((goes ((V.take i).reverse ++ ts) s.guard = some true ∧ ∃ q, exOp call lo env ((V.take i).reverse ++ ts) (Hc i) s.op = some q ∧ fzDV s.fz q = some (v, Hc (i + 1))) ∨
         (goes ((V.take i).reverse ++ ts) s.guard = some false ∧ v = .p .undef ∧ Hc (i + 1) = Hc i))
  | [], ts, tsN, h, hN, hs, hsN, e, _ => by
    simp only [steps, Option.some.injEq, Prod.mk.injEq] at e
    obtain ⟨rfl, rfl, rfl⟩ := e
    exact ⟨[], [], fun _ => h, by simp, by simp, rfl, rfl, rfl, fun i hi => by simp [cnt], fun i s hs => by simp at hs⟩
  | s :: r, ts, tsN, h, hN, hs, hsN, e, hro => by
    have step : ∀ (v : DV) (h1 : Heap), (isStep s.win = false → h1 = h) → steps call lo env r (v :: ts) h1 (if isStep s.win then h1 :: hs else hs) = some (tsN, hN, hsN) →
        ((goes ts s.guard = some true ∧ ∃ q, exOp call lo env ts h s.op = some q ∧ fzDV s.fz q = some (v, h1)) ∨ (goes ts s.guard = some false ∧ v = .p .undef ∧ h1 = h)) →
        ∃ (V : List DV) (K : List Heap) (Hc : Nat → Heap), tsN = V.reverse ++ ts ∧ hsN = K.reverse ++ hs ∧ V.length = (s :: r).length ∧ Hc 0 = h ∧ Hc (s :: r).length = hN ∧
          (∀ i, i ≤ (s :: r).length → (h :: K)[cnt (s :: r) i]? = some (Hc i)) ∧
          ∀ (i : Nat) (s' : IStep), (s :: r)[i]? = some s' → ∃ v, V[i]? = some v ∧
            ((goes ((V.take i).reverse ++ ts) s'.guard = some true ∧ ∃ q, exOp call lo env ((V.take i).reverse ++ ts) (Hc i) s'.op = some q ∧ fzDV s'.fz q = some (v, Hc (i + 1))) ∨
             (goes ((V.take i).reverse ++ ts) s'.guard = some false ∧ v = .p .undef ∧ Hc (i + 1) = Hc i)) := by
      intro v h1 hst hrun hfirst
      obtain ⟨V, K, Hc, e1, e2, e3, e4, e5, e6, e7⟩ := steps_spec hrun fun s' ts H q r' hs' => hro s' ts H q r' (List.mem_cons_of_mem _ hs')
      refine ⟨v :: V, (if isStep s.win then [h1] else []) ++ K, fun i => match i with | 0 => h | i + 1 => Hc i, by rw [e1]; simp, ?_, by simp [e3], rfl, e5, fun i hi => ?_, fun i s' hs' => ?_⟩
      · rw [e2]
        by_cases hw : isStep s.win = true
        · simp [hw]
        · simp [hw]
      · cases i with
        | zero => simp [cnt]
        | succ i =>
          have := e6 i (by simpa using hi)
          simp only [cnt]
          by_cases hw : isStep s.win = true
          · simp only [hw, if_true, List.cons_append, List.nil_append]
            rw [Nat.add_comm, List.getElem?_cons_succ]
            exact this
          · have h1h := hst (by simpa using hw)
            subst h1h
            simp only [hw, Bool.false_eq_true, if_false, List.nil_append, Nat.zero_add]
            exact this
      · cases i with
        | zero =>
          simp at hs'; subst hs'
          refine ⟨v, by simp, ?_⟩
          simp only [List.take_zero, List.reverse_nil, List.nil_append]
          rcases hfirst with ⟨h2, q, h3, h4⟩ | ⟨h2, h3, h4⟩
          · exact .inl ⟨h2, q, h3, by rw [e4]; exact h4⟩
          · exact .inr ⟨h2, h3, by rw [e4]; exact h4⟩
        | succ i =>
          obtain ⟨v', h2, h3⟩ := e7 i s' (by simpa using hs')
          refine ⟨v', by simpa using h2, ?_⟩
          have et : (List.take (i + 1) (v :: V)).reverse ++ ts = (V.take i).reverse ++ v :: ts := by simp
          rw [et]
          exact h3
    simp only [steps] at e
    split at e
    · rename_i hg
      split at e
      · rename_i q hq
        split at e
        · rename_i v h1 hfz
          exact step v h1 (fun hw => hro s ts h q (v, h1) (by simp) hw hq hfz) e (.inl ⟨hg, q, hq, hfz⟩)
        · simp at e
      · simp at e
    · rename_i hg
      exact step (.p .undef) h (fun _ => rfl) e (.inr ⟨hg, rfl, rfl⟩)
    · simp at e

/-! ### equal values are the same -/
mutual
theorem eqP_eq : ∀ {a b : PV}, eqP a b = true → a = b
  | .int k n, b, h => by cases b <;> simp_all [eqP]
  | .bool a, b, h => by cases b <;> simp_all [eqP]
  | .str a, b, h => by cases b <;> simp_all [eqP, eqBytes_eq]
  | .agg a, b, h => by cases b <;> simp only [eqP, Bool.false_eq_true] at h; rw [eqPs_eq h]
  | .nils, b, h => by cases b <;> simp_all [eqP]
  | .isl a, b, h => by cases b <;> simp only [eqP, Bool.false_eq_true] at h; rw [eqPs_eq h]
  | .nilp, b, h => by cases b <;> simp_all [eqP]
  | .cptr a, b, h => by cases b <;> simp only [eqP, Bool.false_eq_true] at h; rw [eqP_eq h]
  | .nilm, b, h => by cases b <;> simp_all [eqP]
  | .pmap a, b, h => by cases b <;> simp only [eqP, Bool.false_eq_true] at h; rw [eqEs_eq h]
  | .nilf, b, h => by cases b <;> simp_all [eqP]
  | .fn f a, b, h => by cases b <;> simp only [eqP, Bool.false_eq_true, Bool.and_eq_true, beq_iff_eq] at h; rw [h.1, eqPs_eq h.2]
  | .nili, b, h => by cases b <;> simp_all [eqP]
  | .iface t a, b, h => by cases b <;> simp only [eqP, Bool.false_eq_true, Bool.and_eq_true, beq_iff_eq] at h; rw [h.1, eqP_eq h.2]
  | .tup a, b, h => by cases b <;> simp only [eqP, Bool.false_eq_true] at h; rw [eqPs_eq h]
  | .undef, b, h => by cases b <;> simp_all [eqP]
theorem eqPs_eq : ∀ {a b : List PV}, eqPs a b = true → a = b
  | [], b, h => by cases b <;> simp_all [eqPs]
  | a :: x, b, h => by
    cases b with
    | nil => simp [eqPs] at h
    | cons b y => simp only [eqPs, Bool.and_eq_true] at h; rw [eqP_eq h.1, eqPs_eq h.2]
theorem eqEs_eq : ∀ {a b : List (PV × PV)}, eqEs a b = true → a = b
  | [], b, h => by cases b <;> simp_all [eqEs]
  | (a, c) :: x, b, h => by
    cases b with
    | nil => simp [eqEs] at h
    | cons b y => obtain ⟨b, d⟩ := b; simp only [eqEs, Bool.and_eq_true] at h; rw [eqP_eq h.1.1, eqP_eq h.1.2, eqEs_eq h.2]
end
mutual
theorem eqD_eq : ∀ {a b : DV}, eqD a b = true → a = b
  | .p a, b, h => by cases b <;> simp only [eqD, Bool.false_eq_true] at h; rw [eqP_eq h]
  | .msl x y z, b, h => by cases b <;> simp_all [eqD]
  | .ptr x y z, b, h => by cases b <;> simp_all [eqD]
  | .map x, b, h => by cases b <;> simp_all [eqD]
  | .it x, b, h => by cases b <;> simp_all [eqD]
  | .fn f a, b, h => by cases b <;> simp only [eqD, Bool.false_eq_true, Bool.and_eq_true, beq_iff_eq] at h; rw [h.1, eqDs_eq h.2]
  | .agg a, b, h => by cases b <;> simp only [eqD, Bool.false_eq_true] at h; rw [eqDs_eq h]
  | .tup a, b, h => by cases b <;> simp only [eqD, Bool.false_eq_true] at h; rw [eqDs_eq h]
theorem eqDs_eq : ∀ {a b : List DV}, eqDs a b = true → a = b
  | [], b, h => by cases b <;> simp_all [eqDs]
  | a :: x, b, h => by
    cases b with
    | nil => simp [eqDs] at h
    | cons b y => simp only [eqDs, Bool.and_eq_true] at h; rw [eqD_eq h.1, eqDs_eq h.2]
end

/-! ### windows -/
theorem eachWin_spec {f : Heap → Option (DV × Heap)} {v : DV} : ∀ {n : Nat} {hs : List Heap}, eachWin f v n hs = true → ∀ (k : Nat), k < n → ∃ h x, hs[k]? = some h ∧ f h = some (v, x)
  | 0, hs, _, k, hk => by omega
  | n + 1, [], h, k, hk => by simp [eachWin] at h
  | n + 1, h0 :: r, h, k, hk => by
    simp only [eachWin, Bool.and_eq_true] at h
    obtain ⟨h1, h2⟩ := h
    cases k with
    | zero =>
      split at h1
      · rename_i x y hf
        exact ⟨h0, y, by simp, by rw [hf, eqD_eq h1]⟩
      · simp at h1
    | succ k =>
      obtain ⟨h', x, h3, h4⟩ := eachWin_spec h2 k (by omega)
      exact ⟨h', x, by simpa using h3, h4⟩

theorem chkWins_spec {call : Caller} {lo : Nat} {env : List DV} {hs : List Heap} : ∀ {st : List IStep} {ts V : List DV}, chkWins call lo env hs st ts V = true →
    ∀ (i : Nat) (s : IStep) (a b : Nat) (v : DV), st[i]? = some s → s.win = .at a b → V[i]? = some v → a ≠ b → goes ((V.take i).reverse ++ ts) s.guard = some true →
      ∀ k, a ≤ k → k ≤ b → ∃ h x, hs[k]? = some h ∧ exOp call lo env ((V.take i).reverse ++ ts) h s.op = some (v, x)
  | [], ts, V, h, i, s, a, b, v, hi, _, _, _, _, _, _, _ => by simp at hi
  | s0 :: r, ts, [], h, i, s, a, b, v, hi, _, hv, _, _, _, _, _ => by simp at hv
  | s0 :: r, ts, v0 :: V, h, i, s, a, b, v, hi, hw, hv, hab, hg, k, hk1, hk2 => by
    simp only [chkWins, Bool.and_eq_true] at h
    obtain ⟨h1, h2⟩ := h
    cases i with
    | zero =>
      simp at hi hv; subst hi hv
      simp only [List.take_zero, List.reverse_nil, List.nil_append] at hg ⊢
      rw [hw] at h1
      simp only [beq_iff_eq, hab, if_false, hg] at h1
      obtain ⟨h', x, h3, h4⟩ := eachWin_spec h1 (k - a) (by omega)
      rw [dropN_eq, List.getElem?_drop, show a + (k - a) = k by omega] at h3
      exact ⟨h', x, h3, h4⟩
    | succ i =>
      have et : (List.take (i + 1) (v0 :: V)).reverse ++ ts = (V.take i).reverse ++ v0 :: ts := by simp
      rw [et] at hg ⊢
      exact chkWins_spec h2 i s a b v (by simpa using hi) hw (by simpa using hv) hab hg k hk1 hk2

end Go.Lv

/- A region of the small language stands for a region of Go's, in whatever order its operations run. -/
namespace Go.Lv
set_option linter.unusedVariables false
set_option linter.unusedSimpArgs false

/-! ### the check -/
/-- the temporary that a value is read by -/
def seen1 (s : IStep) (o : Oper) : Option Nat :=
  match s.op with
  | .boxNew _ _ => none
  | .boxSet _ _ => match o.op with
    | .store _ (.tmp d) _ => some d
    | _ => none
  | _ => o.dst
def seens : List IStep → List Oper → List (Option Nat)
  | s :: r, o :: q => seen1 s o :: seens r q
  | _, _ => []
def down : Nat → List Nat
  | 0 => []
  | n + 1 => n :: down n
def dsAt (B : List Nat) (sn : List (Option Nat)) (i : Nat) : List (Option Nat) := (down i).map fun j => if dep B i j then (getN sn j).getD none else none
def wrs : Nat → List Oper → List (Nat × Nat)
  | _, [] => []
  | i, o :: r => match o.dst with
    | some t => (t, i) :: wrs (i + 1) r
    | none => wrs (i + 1) r
def vtAt (B : List Nat) (wr : List (Nat × Nat)) (vt : List Nat) (i : Nat) : List (Option Nat) := vt.map fun t => if wr.all (fun p => p.1 != t || dep B p.2 i) then some t else none

def okGuard (B : List Nat) (ops : List Oper) (sn : List (Option Nat)) (i : Nat) (s : IStep) (o : Oper) : Bool :=
  match s.guard, o.guard with
  | none, none => true
  | some (k, want), some (j, want') => want == want' && j + k + 1 == i && dep B i j && (match getN ops j, getN sn j with
    | some oj, some (some t) => oj.dst == some t
    | _, _ => false)
  | _, _ => false

/-- where a box is made that is stored to -/
def madeAt (st : List IStep) (ops : List Oper) (d n : Nat) (p : Nat) : Bool :=
  match getN st p, getN ops p with
  | some s, some o => (match s.op with | .boxNew m _ => m == n | _ => false) && o.dst == some d
  | _, _ => false

def okBody (P : Program) (B : List Nat) (st : List IStep) (ops : List Oper) (vt' ds' : List (Option Nat)) (i : Nat) (s : IStep) (o : Oper) : Bool :=
  match s.op with
  | .boxNew n z => okNew P n z o.op && o.dst.isSome && s.guard.isNone && !s.fz
  | .boxSet n x => (match o.op with
    | .store _ (.tmp d) _ => okSet P vt' ds' n d x o.op && (down i).any (fun p => dep B i p && madeAt st ops d n p)
    | _ => false) && o.dst.isNone && s.guard.isNone && !s.fz
  | .call f args => okCall vt' ds' f args o.op
  | .callv f args => okCallv vt' ds' f args o.op
  | op => okOp P vt' ds' op o.op

def okWin (ro : Nat → Bool) (B : List Nat) (st : List IStep) (i : Nat) (s : IStep) : Bool :=
  match s.win with
  | .free => heapFree s.op && !s.fz
  | .at a b => readOnly ro s.op && !s.fz && decide (a ≤ cntL st (dep B i)) && decide (cntL st (fun c => !dep B c i) ≤ b)
  | .step => (down i).all fun c => (match getN st c with | some s' => !isStep s'.win | none => true) || dep B i c

def okDst (vt : List Nat) (sn : Option Nat) (s : IStep) : Bool :=
  match s.dst, sn with
  | some k, some t => getN vt k == some t
  | none, none => true
  | none, some t => !vt.contains t
  | some _, none => false

def okStep (P : Program) (ro : Nat → Bool) (nt : Nat) (vt : List Nat) (B : List Nat) (ops : List Oper) (st : List IStep) (sn : List (Option Nat)) (wr : List (Nat × Nat)) (i : Nat) (s : IStep) (o : Oper) : Bool :=
  okGuard B ops sn i s o && okBody P B st ops (vtAt B wr vt i) (dsAt B sn i) i s o && okWin ro B st i s && okDst vt (seen1 s o) s && decide ((getN B i).getD 0 < 2 ^ i) && (match o.dst with | some d => decide (d < nt) | none => true) &&
  (match s.op, o.dst with | .boxNew _ _, some d => !vt.contains d || sn.contains (some d) | _, _ => true)

def okSteps (P : Program) (ro : Nat → Bool) (nt : Nat) (vt : List Nat) (B : List Nat) (ops : List Oper) (st : List IStep) (sn : List (Option Nat)) (wr : List (Nat × Nat)) : Nat → List IStep → List Oper → Bool
  | _, [], [] => true
  | i, s :: r, o :: q => okStep P ro nt vt B ops st sn wr i s o && okSteps P ro nt vt B ops st sn wr (i + 1) r q
  | _, _, _ => false

def noDup : List Nat → Bool
  | [] => true
  | x :: r => !r.contains x && noDup r

def okRegion (P : Program) (ro : Nat → Bool) (nt : Nat) (vt : List Nat) (draw : Bool) (ops : List Oper) (st : List IStep) : Bool :=
  let B := masks draw [] ops
  let sn := seens st ops
  okSteps P ro nt vt B ops st sn (wrs 0 ops) 0 st ops && noDup (ops.filterMap (·.dst)) && noDup (sn.filterMap id) && (draw || st.all fun s => isStep s.win)

/-! ### what the check says -/
theorem noDup_spec : ∀ {l : List Nat}, noDup l = true → l.Nodup
  | [], _ => .nil
  | x :: r, h => by
    simp only [noDup, Bool.and_eq_true, Bool.not_eq_true'] at h
    exact List.nodup_cons.2 ⟨by simpa using h.1, noDup_spec h.2⟩

theorem okSteps_spec {P : Program} {ro : Nat → Bool} {nt : Nat} {vt B : List Nat} {ops : List Oper} {st : List IStep} {sn : List (Option Nat)} {wr : List (Nat × Nat)} : ∀ {i : Nat} {r : List IStep} {q : List Oper}, okSteps P ro nt vt B ops st sn wr i r q = true →
    r.length = q.length ∧ ∀ (k : Nat) (s : IStep) (o : Oper), r[k]? = some s → q[k]? = some o → okStep P ro nt vt B ops st sn wr (i + k) s o = true
  | i, [], [], _ => ⟨rfl, fun k s o h => by simp at h⟩
  | i, s :: r, o :: q, h => by
    simp only [okSteps, Bool.and_eq_true] at h
    obtain ⟨h1, h2⟩ := okSteps_spec h.2
    refine ⟨by simp [h1], fun k s' o' hs ho => ?_⟩
    cases k with
    | zero => simp at hs ho; subst hs ho; exact h.1
    | succ k =>
      have := h2 k s' o' (by simpa using hs) (by simpa using ho)
      rwa [show i + (k + 1) = i + 1 + k by omega]
  | i, [], _ :: _, h => by simp [okSteps] at h
  | i, _ :: _, [], h => by simp [okSteps] at h

theorem seens_get : ∀ {st : List IStep} {ops : List Oper} {i : Nat} {s : IStep} {o : Oper}, st[i]? = some s → ops[i]? = some o → (seens st ops)[i]? = some (seen1 s o)
  | [], _, i, s, o, h, _ => by simp at h
  | _ :: _, [], i, s, o, _, h => by simp at h
  | s0 :: r, o0 :: q, i, s, o, hs, ho => by
    cases i with
    | zero => simp at hs ho; subst hs ho; simp [seens]
    | succ i => simpa [seens] using seens_get (by simpa using hs) (by simpa using ho)
theorem seens_some : ∀ {st : List IStep} {ops : List Oper} {i : Nat} {t : Option Nat}, (seens st ops)[i]? = some t → ∃ s o, st[i]? = some s ∧ ops[i]? = some o ∧ t = seen1 s o
  | [], ops, i, t, h => by simp [seens] at h
  | s :: r, [], i, t, h => by simp [seens] at h
  | s :: r, o :: q, i, t, h => by
    cases i with
    | zero => simp [seens] at h; exact ⟨s, o, by simp, by simp, h.symm⟩
    | succ i => obtain ⟨s', o', h1, h2, h3⟩ := seens_some (by simpa [seens] using h); exact ⟨s', o', by simpa using h1, by simpa using h2, h3⟩

theorem down_get : ∀ {n k : Nat}, k < n → (down n)[k]? = some (n - 1 - k)
  | 0, k, h => by omega
  | n + 1, 0, _ => by simp [down]
  | n + 1, k + 1, h => by
    simp only [down, List.getElem?_cons_succ]
    rw [down_get (by omega)]
    congr 1; omega
theorem down_len : ∀ n : Nat, (down n).length = n
  | 0 => rfl
  | n + 1 => by simp [down, down_len n]
theorem mem_down : ∀ {n j : Nat}, j ∈ down n ↔ j < n
  | 0, j => by simp [down]
  | n + 1, j => by simp only [down, List.mem_cons, mem_down]; omega

theorem wrs_mem : ∀ {ops : List Oper} {i k t : Nat} {o : Oper}, ops[k]? = some o → o.dst = some t → (t, i + k) ∈ wrs i ops
  | [], i, k, t, o, h, _ => by simp at h
  | o0 :: r, i, k, t, o, h, hd => by
    cases k with
    | zero => simp at h; subst h; simp [wrs, hd]
    | succ k =>
      have := wrs_mem (i := i + 1) (by simpa using h : r[k]? = some o) hd
      rw [show i + (k + 1) = i + 1 + k by omega]
      simp only [wrs]
      split
      · exact List.mem_cons_of_mem _ this
      · exact this

theorem nodup_dst : ∀ {ops : List Oper} {i j t : Nat} {o o' : Oper}, (ops.filterMap (·.dst)).Nodup → ops[i]? = some o → ops[j]? = some o' → o.dst = some t → o'.dst = some t → i = j
  | [], i, j, t, o, o', _, h, _, _, _ => by simp at h
  | o0 :: r, i, j, t, o, o', hn, hi, hj, h1, h2 => by
    have hr : (r.filterMap (·.dst)).Nodup := by
      simp only [List.filterMap_cons] at hn
      split at hn
      · exact hn
      · exact (List.nodup_cons.1 hn).2
    have no : ∀ (k : Nat) (o2 : Oper), r[k]? = some o2 → o2.dst = some t → o0.dst = some t → False := fun k o2 hk h h0 => by
      simp only [List.filterMap_cons, h0] at hn
      exact (List.nodup_cons.1 hn).1 (List.mem_filterMap.2 ⟨o2, List.mem_of_getElem? hk, h⟩)
    cases i with
    | zero =>
      cases j with
      | zero => rfl
      | succ j => simp at hi; subst hi; exact (no j o' (by simpa using hj) h2 h1).elim
    | succ i =>
      cases j with
      | zero => simp at hj; subst hj; exact (no i o (by simpa using hi) h1 h2).elim
      | succ j => exact congrArg (· + 1) (nodup_dst (i := i) (j := j) hr (by simpa using hi) (by simpa using hj) h1 h2)
theorem nodup_opt : ∀ {l : List (Option Nat)} {i j t : Nat}, (l.filterMap id).Nodup → l[i]? = some (some t) → l[j]? = some (some t) → i = j
  | [], i, j, t, _, h, _ => by simp at h
  | x :: r, i, j, t, hn, hi, hj => by
    have hr : (r.filterMap id).Nodup := by
      simp only [List.filterMap_cons, id] at hn
      split at hn
      · exact hn
      · exact (List.nodup_cons.1 hn).2
    have no : ∀ (k : Nat), r[k]? = some (some t) → x = some t → False := fun k hk h0 => by
      subst h0
      simp only [List.filterMap_cons, id] at hn
      exact (List.nodup_cons.1 hn).1 (List.mem_filterMap.2 ⟨some t, List.mem_of_getElem? hk, rfl⟩)
    cases i with
    | zero =>
      cases j with
      | zero => rfl
      | succ j => simp at hi; exact (no j (by simpa using hj) hi).elim
    | succ i =>
      cases j with
      | zero => simp at hj; exact (no i (by simpa using hi) hj).elim
      | succ j => exact congrArg (· + 1) (nodup_opt (i := i) (j := j) hr (by simpa using hi) (by simpa using hj))

end Go.Lv

/- A region of the small language stands for a region of Go's: one operation more. -/
namespace Go.Lv
set_option linter.unusedVariables false
set_option linter.unusedSimpArgs false

/-- A region, its check and its run. -/
structure Reg (P : Program) (call : Caller) (ro : Nat → Bool) (lo nt : Nat) (vt : List Nat) (ops : List Oper) (st : List IStep) (B : List Nat) (env V : List DV) (K : List Heap) (Hc : Nat → Heap)
    (g0 : Gh) (h : Heap) (w0 : World) (a0 : Act) : Prop where
  callOk : CallOk P call
  callRo : ∀ {lo f : Nat} {args : List DV} {H H' : Heap} {v : DV}, ro f = true → call lo f args H = some (v, H') → H' = H
  len : st.length = ops.length
  ok : ∀ (i : Nat) (s : IStep) (o : Oper), st[i]? = some s → ops[i]? = some o → okStep P ro nt vt B ops st (seens st ops) (wrs 0 ops) i s o = true
  nd : (ops.filterMap (·.dst)).Nodup
  ns : ((seens st ops).filterMap id).Nodup
  run : ∀ (i : Nat) (s : IStep), st[i]? = some s → ∃ v, V[i]? = some v ∧
    ((goes (V.take i).reverse s.guard = some true ∧ ∃ q, exOp call lo env (V.take i).reverse (Hc i) s.op = some q ∧ fzDV s.fz q = some (v, Hc (i + 1))) ∨
     (goes (V.take i).reverse s.guard = some false ∧ v = .p .undef ∧ Hc (i + 1) = Hc i))
  heaps : ∀ i, i ≤ st.length → (h :: K)[cnt st i]? = some (Hc i)
  wins : ∀ (i : Nat) (s : IStep) (a b : Nat) (v : DV), st[i]? = some s → s.win = .at a b → V[i]? = some v → a ≠ b → goes (V.take i).reverse s.guard = some true →
      ∀ k, a ≤ k → k ≤ b → ∃ h' x, (h :: K)[k]? = some h' ∧ exOp call lo env (V.take i).reverse h' s.op = some (v, x)
  rel0 : Rel g0 h w0
  elo : lo ≤ h.length
  env0 : ∀ (s t : Nat), vt[s]? = some t → ∃ v rv, env[s]? = some v ∧ a0.tmps[t]? = some rv ∧ DRel g0 h w0 v rv
  elen : env.length = vt.length
  nts : nt ≤ a0.tmps.size
  vlen : V.length = st.length

def Closed (B : List Nat) (L : Nat → Bool) : Prop := ∀ c, L c = true → ∀ j, dep B c j = true → L j = true
def put (L : Nat → Bool) (i : Nat) : Nat → Bool := fun k => k == i || L k

/-- a box is made, and not stored to -/
def PendAt (st : List IStep) (ops : List Oper) (L : Nat → Bool) (p d n : Nat) : Prop :=
  L p = true ∧ madeAt st ops d n p = true ∧ ∀ j, (seens st ops)[j]? = some (some d) → L j = false

/-- Some operations of a region have run. -/
structure Sim (vt : List Nat) (ops : List Oper) (st : List IStep) (V : List DV) (K : List Heap) (g0 : Gh) (h : Heap) (w0 : World) (a0 : Act) (L : Nat → Bool) (a : Act) (w : World) (g : Gh) (ρ : Nat → Nat) (Hq : Heap) : Prop where
  hq : (h :: K)[cntL st L]? = some Hq
  rel : Rel g Hq w
  ev : Ev g0 h w0 g Hq w
  val : ∀ (i t : Nat) (v : DV), L i = true → (seens st ops)[i]? = some (some t) → V[i]? = some v → ∃ rv, a.tmps[t]? = some rv ∧ DRel g Hq w v rv
  old : ∀ t, (∀ (i : Nat) (o : Oper), L i = true → ops[i]? = some o → o.dst ≠ some t) → a.tmps[t]? = a0.tmps[t]?
  pend : ∀ p d n, PendAt st ops L p d n → Pend g Hq w w0 (ρ p) n ∧ a.tmps[d]? = some (.pointer (some ⟨ρ p, 0, none⟩))
  inj : ∀ p p' d n d' n', PendAt st ops L p d n → PendAt st ops L p' d' n' → ρ p = ρ p' → p = p'
  defers : a.defers = a0.defers
  size : a.tmps.size = a0.tmps.size

theorem put_at {L : Nat → Bool} {i : Nat} : put L i i = true := by simp [put]
theorem put_old {L : Nat → Bool} {i j : Nat} (h : L j = true) : put L i j = true := by simp [put, h]
theorem put_ne {L : Nat → Bool} {i j : Nat} (h : put L i j = true) (hne : j ≠ i) : L j = true := by simpa [put, hne] using h
theorem put_false {L : Nat → Bool} {i j : Nat} (h : put L i j = false) : L j = false := by simp only [put, Bool.or_eq_false_iff] at h; exact h.2

theorem rev_take {V : List DV} {i k : Nat} (hi : i ≤ V.length) (hk : k < i) : ((V.take i).reverse)[k]? = V[i - 1 - k]? := by
  have hl : (V.take i).length = i := by simp; omega
  rw [List.getElem?_reverse (by omega), hl, List.getElem?_take, if_pos (by omega)]

theorem get_put_ne {a : Act} {dst : Option Nat} {v : Value} {t : Nat} (h : dst ≠ some t) : (a.put dst v).tmps[t]? = a.tmps[t]? := by
  cases dst with
  | none => rfl
  | some d =>
    have hne : d ≠ t := fun e => h (by rw [e])
    simp [Act.put, Array.getElem?_setIfInBounds_ne hne]
theorem get_put_eq {a : Act} {d : Nat} {v : Value} (h : d < a.tmps.size) : (a.put (some d) v).tmps[d]? = some v := by
  simp [Act.put, h]
theorem put_size {a : Act} {dst : Option Nat} {v : Value} : (a.put dst v).tmps.size = a.tmps.size := by cases dst <;> simp [Act.put]
theorem put_defers {a : Act} {dst : Option Nat} {v : Value} : (a.put dst v).defers = a.defers := by cases dst <;> rfl

theorem madeAt_spec {st : List IStep} {ops : List Oper} {d n p : Nat} (h : madeAt st ops d n p = true) : ∃ s o z, st[p]? = some s ∧ ops[p]? = some o ∧ s.op = .boxNew n z ∧ o.dst = some d := by
  unfold madeAt at h
  rw [getN_eq, getN_eq] at h
  split at h
  · rename_i s o hs ho
    simp only [Bool.and_eq_true, beq_iff_eq] at h
    obtain ⟨h1, h2⟩ := h
    split at h1
    · rename_i m z hop
      simp only [beq_iff_eq] at h1
      exact ⟨s, o, z, hs, ho, by rw [hop, h1], h2⟩
    · simp at h1
  · simp at h

def boolOf : Value → Option Bool
  | .bool b => some b
  | _ => none

def notBox : IOp → Bool
  | .boxNew _ _ => false
  | .boxSet _ _ => false
  | _ => true

section
variable {P : Program} {call : Caller} {ro : Nat → Bool} {lo nt : Nat} {vt : List Nat} {ops : List Oper} {st : List IStep} {B : List Nat} {env V : List DV} {K : List Heap} {Hc : Nat → Heap} {g0 : Gh} {h : Heap} {w0 : World} {a0 : Act}
variable (R : Reg P call ro lo nt vt ops st B env V K Hc g0 h w0 a0)
include R

theorem Reg.parts {i : Nat} {s : IStep} {o : Oper} (hs : st[i]? = some s) (ho : ops[i]? = some o) :
    okGuard B ops (seens st ops) i s o = true ∧ okBody P B st ops (vtAt B (wrs 0 ops) vt i) (dsAt B (seens st ops) i) i s o = true ∧ okWin ro B st i s = true ∧ okDst vt (seen1 s o) s = true ∧
    (∀ j, dep B i j = true → j < i) ∧ (∀ d, o.dst = some d → d < a0.tmps.size) ∧ (∀ n z d, s.op = .boxNew n z → o.dst = some d → d ∈ vt → some d ∈ seens st ops) := by
  have hk := R.ok i s o hs ho
  simp only [okStep, Bool.and_eq_true, decide_eq_true_eq] at hk
  obtain ⟨⟨⟨⟨⟨⟨h1, h2⟩, h3⟩, h4⟩, h5⟩, h6⟩, h7⟩ := hk
  refine ⟨h1, h2, h3, h4, fun j hj => ?_, fun d hd => ?_, fun n z d hop hd hv => ?_⟩
  · rcases Nat.lt_or_ge j i with hlt | hge
    · exact hlt
    · have : (((getN B i).getD 0).testBit j) = false := Nat.testBit_lt_two_pow (Nat.lt_of_lt_of_le h5 (Nat.pow_le_pow_right (by omega) hge))
      unfold dep at hj; rw [this] at hj; simp at hj
  · rw [hd] at h6; simp only [decide_eq_true_eq] at h6
    exact Nat.lt_of_lt_of_le h6 R.nts
  · rw [hop, hd] at h7
    simp only [Bool.or_eq_true, Bool.not_eq_true'] at h7
    rcases h7 with h7 | h7
    · simp at h7; exact absurd hv h7
    · simpa using h7

/-- a box's store: where it is made -/
theorem Reg.setAt {i n : Nat} {x : Opd} {s : IStep} {o : Oper} (hs : st[i]? = some s) (ho : ops[i]? = some o) (hop : s.op = .boxSet n x) :
    ∃ d p, seen1 s o = some d ∧ okSet P (vtAt B (wrs 0 ops) vt i) (dsAt B (seens st ops) i) n d x o.op = true ∧ dep B i p = true ∧ madeAt st ops d n p = true ∧ o.dst = none ∧ s.guard = none ∧ s.fz = false := by
  obtain ⟨_, h2, _⟩ := R.parts hs ho
  unfold okBody at h2
  rw [hop] at h2
  simp only [Bool.and_eq_true, Bool.not_eq_true', Option.isNone_iff_eq_none] at h2
  obtain ⟨⟨⟨h3, h4⟩, h5⟩, h6⟩ := h2
  split at h3
  · rename_i t d y hoo
    simp only [Bool.and_eq_true] at h3
    obtain ⟨h7, h8⟩ := h3
    obtain ⟨p, _, hp⟩ := List.any_eq_true.1 h8
    simp only [Bool.and_eq_true] at hp
    exact ⟨d, p, by simp [seen1, hop, hoo], h7, hp.1, hp.2, h4, h5, h6⟩
  · simp at h3

theorem Reg.seen_ne {L : Nat → Bool} (hcl : Closed B L) {i j t : Nat} {o : Oper} (hL : L i = false) (ho : ops[i]? = some o) (hj : L j = true) (hsn : (seens st ops)[j]? = some (some t)) : o.dst ≠ some t := by
  intro hd
  obtain ⟨s', o', h1, h2, h3⟩ := seens_some hsn
  cases hop : s'.op with
  | boxNew n z => simp [seen1, hop] at h3
  | boxSet n x =>
    obtain ⟨d, p, e1, _, e3, e4, _⟩ := R.setAt h1 h2 hop
    rw [e1] at h3; obtain rfl := Option.some.inj h3
    obtain ⟨s2, o2, z, f1, f2, f3, f4⟩ := madeAt_spec e4
    have := nodup_dst R.nd ho f2 hd f4
    subst this
    have := hcl j hj i e3
    rw [hL] at this; simp at this
  | _ =>
    simp only [seen1, hop] at h3
    have := nodup_dst R.nd ho h2 hd h3.symm
    subst this
    rw [hL] at hj; simp at hj

omit R in
theorem seen_nb {s : IStep} {o : Oper} (hnb : notBox s.op = true) : seen1 s o = o.dst := by
  cases hop : s.op <;> simp [hop, notBox] at hnb <;> simp [seen1, hop]

variable {L : Nat → Bool} {a : Act} {w : World} {g : Gh} {ρ : Nat → Nat} {Hq : Heap}

/-- one operation more: neither of a box's two -/
theorem Reg.sim_put (S : Sim vt ops st V K g0 h w0 a0 L a w g ρ Hq) (hcl : Closed B L) {i : Nat} {s : IStep} {o : Oper} {v : DV} {H1 : Heap} {g' : Gh} {w' : World} {rv : Value} (hs : st[i]? = some s) (ho : ops[i]? = some o) (hnb : notBox s.op = true)
    (hL : L i = false) (hv : V[i]? = some v) (hH : (h :: K)[cntL st (put L i)]? = some H1) (hrel : Rel g' H1 w') (hev : Ev g Hq w g' H1 w') (hd : DRel g' H1 w' v rv) :
    Sim vt ops st V K g0 h w0 a0 (put L i) (a.put o.dst rv) w' g' ρ H1 where
  hq := hH
  rel := hrel
  ev := S.ev.trans hev
  val := fun j t u hj hsn hu => by
    by_cases e : j = i
    · subst e
      rw [seens_get hs ho, seen_nb hnb] at hsn
      have hdst := Option.some.inj hsn
      rw [hv] at hu; obtain rfl := Option.some.inj hu
      have hlt : t < a.tmps.size := by rw [S.size]; exact (R.parts hs ho).2.2.2.2.2.1 t hdst
      exact ⟨rv, by rw [hdst]; exact get_put_eq hlt, hd⟩
    · have hLj := put_ne hj e
      obtain ⟨rv', h1, h2⟩ := S.val j t u hLj hsn hu
      exact ⟨rv', by rw [get_put_ne (R.seen_ne hcl hL ho hLj hsn)]; exact h1, h2.mono hev⟩
  old := fun t ht => by
    rw [get_put_ne (ht i o put_at ho)]
    exact S.old t fun j o' hj => ht j o' (put_old hj)
  pend := fun p d n hp => by
    obtain ⟨h1, h2, h3⟩ := hp
    obtain ⟨s2, o2, z, f1, f2, f3, f4⟩ := madeAt_spec h2
    have hpi : p ≠ i := fun e => by
      subst e; rw [hs] at f1; obtain rfl := Option.some.inj f1; simp [f3, notBox] at hnb
    obtain ⟨h4, h5⟩ := S.pend p d n ⟨put_ne h1 hpi, h2, fun j hj => put_false (h3 j hj)⟩
    exact ⟨h4.mono hev, by rw [get_put_ne (fun e => hpi (nodup_dst R.nd f2 ho f4 e))]; exact h5⟩
  inj := fun p p' d n d' n' hp hp' => by
    have key : ∀ {p d n : Nat}, PendAt st ops (put L i) p d n → PendAt st ops L p d n := fun {p d n} hp => by
      obtain ⟨h1, h2, h3⟩ := hp
      obtain ⟨s2, o2, z, f1, f2, f3, f4⟩ := madeAt_spec h2
      have hpi : p ≠ i := fun e => by
        subst e; rw [hs] at f1; obtain rfl := Option.some.inj f1; simp [f3, notBox] at hnb
      exact ⟨put_ne h1 hpi, h2, fun j hj => put_false (h3 j hj)⟩
    exact S.inj p p' d n d' n' (key hp) (key hp')
  defers := by rw [put_defers, S.defers]
  size := by rw [put_size, S.size]

/-- one operation more: a box is made -/
theorem Reg.sim_new (S : Sim vt ops st V K g0 h w0 a0 L a w g ρ Hq) (hcl : Closed B L) {i n d : Nat} {z : PV} {s : IStep} {o : Oper} {g' : Gh} {w' : World} (hs : st[i]? = some s) (ho : ops[i]? = some o) (hop : s.op = .boxNew n z) (hdst : o.dst = some d)
    (hL : L i = false) (hH : (h :: K)[cntL st (put L i)]? = some Hq) (hrel : Rel g' Hq w') (hev : Ev g Hq w g' Hq w') (hp : Pend g' Hq w' w0 w.heap.size n) :
    Sim vt ops st V K g0 h w0 a0 (put L i) (a.put o.dst (.pointer (some ⟨w.heap.size, 0, none⟩))) w' g' (fun p => if p = i then w.heap.size else ρ p) Hq where
  hq := hH
  rel := hrel
  ev := S.ev.trans hev
  val := fun j t u hj hsn hu => by
    by_cases e : j = i
    · subst e
      rw [seens_get hs ho] at hsn
      simp [seen1, hop] at hsn
    · have hLj := put_ne hj e
      obtain ⟨rv', h1, h2⟩ := S.val j t u hLj hsn hu
      exact ⟨rv', by rw [get_put_ne (R.seen_ne hcl hL ho hLj hsn)]; exact h1, h2.mono hev⟩
  old := fun t ht => by
    rw [get_put_ne (ht i o put_at ho)]
    exact S.old t fun j o' hj => ht j o' (put_old hj)
  pend := fun p d' n' hp' => by
    obtain ⟨h1, h2, h3⟩ := hp'
    obtain ⟨s2, o2, z', f1, f2, f3, f4⟩ := madeAt_spec h2
    by_cases e : p = i
    · subst e
      rw [hs] at f1; obtain rfl := Option.some.inj f1
      rw [ho] at f2; obtain rfl := Option.some.inj f2
      rw [hop] at f3
      simp only [IOp.boxNew.injEq] at f3
      rw [hdst] at f4
      obtain rfl := Option.some.inj f4
      obtain ⟨rfl, _⟩ := f3
      simp only [if_true]
      have hlt : d < a.tmps.size := by rw [S.size]; exact (R.parts hs ho).2.2.2.2.2.1 d hdst
      exact ⟨hp, by rw [hdst]; exact get_put_eq hlt⟩
    · obtain ⟨h4, h5⟩ := S.pend p d' n' ⟨put_ne h1 e, h2, fun j hj => put_false (h3 j hj)⟩
      simp only [if_neg e]
      exact ⟨h4.mono hev, by rw [get_put_ne (fun e' => e (nodup_dst R.nd f2 ho f4 e'))]; exact h5⟩
  inj := fun p p' d1 n1 d2 n2 hp1 hp2 he => by
    have low : ∀ {p d n : Nat}, p ≠ i → PendAt st ops (put L i) p d n → PendAt st ops L p d n := fun {p d n} hpi hp => ⟨put_ne hp.1 hpi, hp.2.1, fun j hj => put_false (hp.2.2 j hj)⟩
    by_cases e : p = i <;> by_cases e' : p' = i
    · rw [e, e']
    · simp only [if_pos e, if_neg e'] at he
      have := (S.pend p' d2 n2 (low e' hp2)).1.lt
      omega
    · simp only [if_neg e, if_pos e'] at he
      have := (S.pend p d1 n1 (low e hp1)).1.lt
      omega
    · simp only [if_neg e, if_neg e'] at he
      exact S.inj p p' d1 n1 d2 n2 (low e hp1) (low e' hp2) he
  defers := by rw [put_defers, S.defers]
  size := by rw [put_size, S.size]

/-- one operation more: a box is stored to -/
theorem Reg.sim_set (S : Sim vt ops st V K g0 h w0 a0 L a w g ρ Hq) (hcl : Closed B L) {i n d p : Nat} {x : Opd} {u : PV} {s : IStep} {o : Oper} {g' : Gh} {w' : World} (hs : st[i]? = some s) (ho : ops[i]? = some o) (hop : s.op = .boxSet n x)
    (hsn : seen1 s o = some d) (hdst : o.dst = none) (hdep : dep B i p = true) (hm : madeAt st ops d n p = true) (hLp : L p = true) (hL : L i = false) (hv : V[i]? = some (.p (.cptr u)))
    (hH : (h :: K)[cntL st (put L i)]? = some Hq) (hbx : Boxed g Hq w w0 (ρ p) u g' w') : Sim vt ops st V K g0 h w0 a0 (put L i) (a.put o.dst Go.undef) w' g' ρ Hq := by
  have hsi := seens_get hs ho
  rw [hsn] at hsi
  have hpA : PendAt st ops L p d n := ⟨hLp, hm, fun j hj => by
    have := nodup_opt R.ns hj hsi
    subst this; exact hL⟩
  have e0 : a.put o.dst Go.undef = a := by rw [hdst]; rfl
  rw [e0]
  have low : ∀ {p' d' n' : Nat}, PendAt st ops (put L i) p' d' n' → PendAt st ops L p' d' n' ∧ p' ≠ p := fun {p' d' n'} hp => by
    obtain ⟨h1, h2, h3⟩ := hp
    obtain ⟨s2, o2, z', f1, f2, f3, f4⟩ := madeAt_spec h2
    have hpi : p' ≠ i := fun e => by
      subst e; rw [hs] at f1; obtain rfl := Option.some.inj f1; rw [hop] at f3; simp at f3
    refine ⟨⟨put_ne h1 hpi, h2, fun j hj => put_false (h3 j hj)⟩, fun e => ?_⟩
    subst e
    obtain ⟨s3, o3, z3, k1, k2, k3, k4⟩ := madeAt_spec hm
    rw [f2] at k2; obtain rfl := Option.some.inj k2
    rw [f4] at k4; obtain rfl := Option.some.inj k4
    have := h3 i hsi
    rw [put_at] at this; simp at this
  exact {
    hq := hH, rel := hbx.rel, ev := hbx.ev S.ev
    val := fun j t u' hj hsj hu => by
      by_cases e : j = i
      · subst e
        rw [hsi] at hsj
        obtain rfl := Option.some.inj (Option.some.inj hsj)
        rw [hv] at hu; obtain rfl := Option.some.inj hu
        exact ⟨_, (S.pend p d n hpA).2, .p _ _ hbx.val⟩
      · obtain ⟨rv', h1, h2⟩ := S.val j t u' (put_ne hj e) hsj hu
        exact ⟨rv', h1, hbx.mono h2⟩
    old := fun t ht => S.old t fun j o' hj => ht j o' (put_old hj)
    pend := fun p' d' n' hp => by
      obtain ⟨h1, h2⟩ := low hp
      obtain ⟨h3, h4⟩ := S.pend p' d' n' h1
      exact ⟨hbx.pend (fun e => h2 (S.inj p' p d' n' d n h1 hpA e)) h3, h4⟩
    inj := fun p1 p2 d1 n1 d2 n2 hp1 hp2 he => S.inj p1 p2 d1 n1 d2 n2 (low hp1).1 (low hp2).1 he
    defers := S.defers
    size := S.size }

/-- what stands in the frame, for an operation that may run -/
theorem Reg.frame (S : Sim vt ops st V K g0 h w0 a0 L a w g ρ Hq) (hcl : Closed B L) {i : Nat} {s : IStep} {o : Oper} (hs : st[i]? = some s) (ho : ops[i]? = some o) (hL : L i = false) (hdep : ∀ j, dep B i j = true → L j = true) :
    St (vtAt B (wrs 0 ops) vt i) (dsAt B (seens st ops) i) g Hq w env (V.take i).reverse a where
  henv := fun k t hk => by
    simp only [vtAt, List.getElem?_map, Option.map_eq_some_iff] at hk
    obtain ⟨t', h1, h2⟩ := hk
    split at h2
    · rename_i hall
      obtain rfl := Option.some.inj h2
      obtain ⟨v, rv, h3, h4, h5⟩ := R.env0 k t' h1
      refine ⟨v, rv, h3, ?_, h5.mono S.ev⟩
      rw [S.old t' fun j o' hj ho' hd => ?_]
      · exact h4
      · have := List.all_eq_true.1 hall _ (wrs_mem (i := 0) ho' hd)
        simp only [Nat.zero_add, bne_self_eq_false, Bool.false_or] at this
        have := hcl j hj i this
        rw [hL] at this; simp at this
    · simp at h2
  elen := by simp [vtAt, R.elen]
  hts := fun k t hk => by
    have hi : i < st.length := (List.getElem?_eq_some_iff.1 hs).1
    have hki : k < i := by have := (List.getElem?_eq_some_iff.1 hk).1; simpa [dsAt, down_len] using this
    simp only [dsAt, List.getElem?_map, down_get hki, Option.map_some, Option.some.injEq] at hk
    split at hk
    · rename_i hd
      rw [getN_eq] at hk
      have hsn : (seens st ops)[i - 1 - k]? = some (some t) := by
        cases hx : (seens st ops)[i - 1 - k]? with
        | none => rw [hx] at hk; simp at hk
        | some y => rw [hx] at hk; simp at hk; rw [hk]
      have hj : i - 1 - k < V.length := by rw [R.vlen]; omega
      have hV : V[i - 1 - k]? = some V[i - 1 - k] := by simp [hj]
      obtain ⟨rv, h1, h2⟩ := S.val (i - 1 - k) t _ (hdep _ hd) hsn hV
      exact ⟨_, rv, by rw [rev_take (by rw [R.vlen]; omega) hki]; exact hV, h1, h2⟩
    · simp at hk
  tlen := by
    have hi : i < st.length := (List.getElem?_eq_some_iff.1 hs).1
    simp [dsAt, down_len, R.vlen]; omega

/-- its guard -/
theorem Reg.guard (S : Sim vt ops st V K g0 h w0 a0 L a w g ρ Hq) {opsA : Array Oper} (hA : opsA.toList = ops) {i : Nat} {s : IStep} {o : Oper} {b : Bool} (hs : st[i]? = some s) (ho : ops[i]? = some o) (hdep : ∀ j, dep B i j = true → L j = true)
    (hg : goes (V.take i).reverse s.guard = some b) : Region.wanted o (yielded opsA a.tmps) = b := by
  have hi : i < st.length := (List.getElem?_eq_some_iff.1 hs).1
  have hk := (R.parts hs ho).1
  unfold okGuard at hk
  unfold Region.wanted
  split at hk
  · rename_i e1 e2
    rw [e2]
    rw [e1] at hg
    simpa [goes] using hg
  · rename_i k want j want' e1 e2
    rw [e2]
    rw [e1] at hg
    simp only [Bool.and_eq_true, beq_iff_eq] at hk
    obtain ⟨⟨⟨rfl, hjk⟩, hd⟩, hx⟩ := hk
    split at hx
    · rename_i oj t hoj hsn
      rw [getN_eq] at hoj hsn
      simp only [beq_iff_eq] at hx
      have hj : j < V.length := by rw [R.vlen]; omega
      have hV : V[j]? = some V[j] := by simp [hj]
      obtain ⟨rv, h1, h2⟩ := S.val j t _ (hdep _ hd) hsn hV
      have hy : yielded opsA a.tmps j = boolOf rv := by
        have : opsA[j]? = some oj := by rw [← Array.getElem?_toList, hA]; exact hoj
        unfold yielded
        simp only [this, Option.bind_some, hx, h1]
        cases rv <;> rfl
      have hts : getN (V.take i).reverse k = some V[j] := by
        rw [getN_eq, rev_take (by rw [R.vlen]; omega) (by omega), show i - 1 - k = j by omega]; exact hV
      simp only [goes, hts, Option.getD_some] at hg
      simp only [hy]
      split at hg
      · rename_i b' hb
        rw [hb] at h2
        rw [h2.bool]
        simp only [Option.some.injEq] at hg
        rw [← hg]
        cases b' <;> cases want <;> rfl
      · rename_i hb
        rw [hb] at h2
        rw [h2.undef_inv]
        simp only [Option.some.injEq] at hg
        subst hg
        cases want <;> rfl
      · simp at hg
    · simp at hx
  · simp at hk
end
end Go.Lv

/- A region of the small language stands for a region of Go's: the whole of it. -/
namespace Go.Lv
set_option linter.unusedVariables false
set_option linter.unusedSimpArgs false
set_option linter.unusedSectionVars false

theorem cnt_succ : ∀ (st : List IStep) (i : Nat) (s : IStep), st[i]? = some s → cnt st (i + 1) = cnt st i + if isStep s.win then 1 else 0
  | [], i, s, h => by simp at h
  | s0 :: r, 0, s, h => by
    simp at h; subst h
    have : cnt r 0 = 0 := by cases r <;> rfl
    simp [cnt, this]
  | s0 :: r, i + 1, s, h => by
    have := cnt_succ r i s (by simpa using h)
    simp only [cnt] at this ⊢
    rw [this]; omega


section
variable {P : Program} {call : Caller} {ro : Nat → Bool} {lo nt : Nat} {vt : List Nat} {ops : List Oper} {st : List IStep} {B : List Nat} {env V : List DV} {K : List Heap} {Hc : Nat → Heap} {g0 : Gh} {h : Heap} {w0 : World} {a0 : Act}
variable (R : Reg P call ro lo nt vt ops st B env V K Hc g0 h w0 a0)
include R
variable {L : Nat → Bool} {a : Act} {w : World} {g : Gh} {ρ : Nat → Nat} {Hq : Heap}

/-- how many have changed the heap, when one that changes it runs -/
theorem Reg.at_step (hcl : Closed B L) {i : Nat} {s : IStep} {o : Oper} (hs : st[i]? = some s) (ho : ops[i]? = some o) (hwin : s.win = .step) (hL : L i = false) (hdep : ∀ j, dep B i j = true → L j = true) : cntL st L = cnt st i := by
  have hw := (R.parts hs ho).2.2.1
  unfold okWin at hw
  rw [hwin] at hw
  simp only at hw
  refine cntL_cnt st L i fun c s' hc hst => by
    constructor
    · intro hl
      rcases Nat.lt_or_ge c i with hlt | hge
      · exact hlt
      · exfalso
        have hne : c ≠ i := fun e => by subst e; rw [hL] at hl; simp at hl
        have hcl' : c < st.length := (List.getElem?_eq_some_iff.1 hc).1
        have hoc : c < ops.length := by rw [← R.len]; exact hcl'
        have hwc := (R.parts (i := c) (s := s') (o := ops[c]) hc (by simp [hoc])).2.2.1
        unfold okWin at hwc
        split at hwc
        · rename_i hw'; rw [hw'] at hst; simp [isStep] at hst
        · rename_i hw'; rw [hw'] at hst; simp [isStep] at hst
        · have h1 := List.all_eq_true.1 hwc i (mem_down.2 (by omega))
          rw [getN_eq, hs] at h1
          simp only [hwin, isStep, Bool.not_true, Bool.false_or] at h1
          have := hcl c hl i h1
          rw [hL] at this; simp at this
    · intro hlt
      have h1 := List.all_eq_true.1 hw c (mem_down.2 hlt)
      rw [getN_eq, hc] at h1
      simp only [hst, Bool.not_true, Bool.false_or] at h1
      exact hdep c h1

/-- what an operation that may run comes to, on the heap that there is then -/
theorem Reg.value (S : Sim vt ops st V K g0 h w0 a0 L a w g ρ Hq) (hcl : Closed B L) {i : Nat} {s : IStep} {o : Oper} {v : DV} (hs : st[i]? = some s) (ho : ops[i]? = some o) (hL : L i = false) (hdep : ∀ j, dep B i j = true → L j = true) (hLs : ∀ c, L c = true → c < st.length)
    (hv : V[i]? = some v) (hg : goes (V.take i).reverse s.guard = some true) :
    ∃ q H1, exOp call lo env (V.take i).reverse Hq s.op = some q ∧ fzDV s.fz q = some (v, H1) ∧ (h :: K)[cntL st (put L i)]? = some H1 := by
  have hi : i < st.length := (List.getElem?_eq_some_iff.1 hs).1
  obtain ⟨v', hv', hrun⟩ := R.run i s hs
  rw [hv] at hv'; obtain rfl := Option.some.inj hv'
  have hrun2 : ∃ q, exOp call lo env (V.take i).reverse (Hc i) s.op = some q ∧ fzDV s.fz q = some (v, Hc (i + 1)) := by
    rcases hrun with ⟨_, q, hq, hfz⟩ | ⟨h1, _⟩
    · exact ⟨q, hq, hfz⟩
    · rw [hg] at h1; simp at h1
  obtain ⟨q, hq, hfz⟩ := hrun2
  have hw := (R.parts hs ho).2.2.1
  have hcnt : cntL st (put L i) = _ := cntL_put st L i s hs hL
  have bnd : ∀ c j, dep B c j = true → c < st.length → j < c := fun c j hd hc => by
    have hoc : c < ops.length := by rw [← R.len]; exact hc
    exact (R.parts (i := c) (s := st[c]) (o := ops[c]) (by simp [hc]) (by simp [hoc])).2.2.2.2.1 j hd
  -- the heap that the run had here
  have hci := R.heaps i (Nat.le_of_lt hi)
  unfold okWin at hw
  split at hw
  · -- whenever
    rename_i hwin
    simp only [Bool.and_eq_true, Bool.not_eq_true'] at hw
    obtain ⟨q1, q2⟩ := q
    obtain ⟨_, hall⟩ := heapFree_spec hw.1 hq
    have hfz' : q1 = v := by simp only [fzDV, hw.2, Bool.false_eq_true, if_false, Option.some.injEq, Prod.mk.injEq] at hfz; exact hfz.1
    subst hfz'
    exact ⟨(q1, Hq), Hq, hall Hq, by simp [fzDV, hw.2], by rw [hcnt, hwin]; simpa [isStep] using S.hq⟩
  · -- within a window
    rename_i x y hwin
    simp only [Bool.and_eq_true, Bool.not_eq_true', decide_eq_true_eq] at hw
    obtain ⟨⟨⟨hr, hf⟩, hlo⟩, hhi⟩ := hw
    obtain ⟨q1, q2⟩ := q
    have hfz' : q1 = v := by simp only [fzDV, hf, Bool.false_eq_true, if_false, Option.some.injEq, Prod.mk.injEq] at hfz; exact hfz.1
    subst hfz'
    have c1 : x ≤ cntL st L := Nat.le_trans hlo (cntL_le st _ _ fun c s' _ _ hd => hdep c hd)
    have c2 : cntL st L ≤ y := Nat.le_trans (cntL_le st _ _ fun c s' hc hst hl => by
      simp only [Bool.not_eq_true']
      cases hd : dep B c i with
      | false => rfl
      | true => have := hcl c hl i hd; rw [hL] at this; simp at this) hhi
    have e1 : (h :: K)[cntL st (put L i)]? = some Hq := by rw [hcnt, hwin]; simpa [isStep] using S.hq
    by_cases hxy : x = y
    · have c3 : x ≤ cnt st i := by
        rw [← cntL_cnt st (fun c => decide (c < i)) i fun c s' _ _ => by simp]
        exact Nat.le_trans hlo (cntL_le st _ _ fun c s' _ _ hd => by simpa using bnd i c hd hi)
      have c4 : cnt st i ≤ y := by
        rw [← cntL_cnt st (fun c => decide (c < i)) i fun c s' _ _ => by simp]
        refine Nat.le_trans (cntL_le st _ _ fun c s' hc _ hd => ?_) hhi
        simp only [decide_eq_true_eq] at hd
        simp only [Bool.not_eq_true']
        cases hd' : dep B c i with
        | false => rfl
        | true => have := bnd c i hd' (List.getElem?_eq_some_iff.1 hc).1; omega
      have e2 : cntL st L = cnt st i := by omega
      have e3 := S.hq
      rw [e2, hci] at e3
      have e4 := Option.some.inj e3
      rw [e4] at hq
      have e5 := readOnly_spec R.callRo hr hq
      subst e5
      exact ⟨_, _, hq, by simp [fzDV, hf], e1⟩
    · obtain ⟨h', x', h1, h2⟩ := R.wins i s x y q1 hs hwin hv hxy hg (cntL st L) c1 c2
      rw [S.hq] at h1; obtain rfl := Option.some.inj h1
      have e5 := readOnly_spec R.callRo hr h2
      subst e5
      exact ⟨_, _, h2, by simp [fzDV, hf], e1⟩
  · -- a step
    rename_i hwin
    have e2 := R.at_step hcl hs ho hwin hL hdep
    have e3 := S.hq
    rw [e2, hci] at e3
    have e4 := Option.some.inj e3
    rw [e4] at hq
    refine ⟨q, Hc (i + 1), hq, hfz, ?_⟩
    rw [hcnt, e2, ← cnt_succ st i s hs]
    exact R.heaps (i + 1) hi

theorem frz_post {fz : Bool} {q : DV × Heap} {v : DV} {H1 : Heap} {rv : Value} {w' : World} (hfz : fzDV fz q = some (v, H1)) (hp : Post g Hq w q.2 q.1 rv w') : Post g Hq w H1 v rv w' := by
  unfold fzDV at hfz
  split at hfz
  · split at hfz
    · rename_i x H2 hx
      simp only [Option.some.injEq, Prod.mk.injEq] at hfz
      obtain ⟨rfl, rfl⟩ := hfz
      obtain ⟨g', h1, h2, h3⟩ := hp
      obtain ⟨g2, h4, h5, h6, _⟩ := freeze_rel 6 h1 h3 hx
      exact ⟨g2, h4, h2.trans h5, .p _ _ h6⟩
    · simp at hfz
  · obtain rfl := Option.some.inj hfz
    exact hp

/-- some state of the region's run -/
def SimE (vt : List Nat) (ops : List Oper) (st : List IStep) (V : List DV) (K : List Heap) (g0 : Gh) (h : Heap) (w0 : World) (a0 : Act) (L : Nat → Bool) (a : Act) (w : World) : Prop :=
  ∃ g ρ Hq, Sim vt ops st V K g0 h w0 a0 L a w g ρ Hq

theorem Reg.one (hS : SimE vt ops st V K g0 h w0 a0 L a w) (hcl : Closed B L) {opsA : Array Oper} (hA : opsA.toList = ops) {i : Nat} {s : IStep} {o : Oper} (hs : st[i]? = some s) (ho : ops[i]? = some o) (hL : L i = false) (hdep : ∀ j, dep B i j = true → L j = true)
    (hLs : ∀ c, L c = true → c < st.length) (Q : Exit → Act → World → Prop) (next : Act → World → Prop) (hn : ∀ a' w', SimE vt ops st V K g0 h w0 a0 (put L i) a' w' → next a' w') : wpOp P opsA Q i next a w := by
  obtain ⟨g, ρ, Hq, S⟩ := hS
  have hoA : opsA[i]? = some o := by rw [← Array.getElem?_toList, hA]; exact ho
  unfold wpOp
  rw [hoA]
  obtain ⟨v, hv, hrun⟩ := R.run i s hs
  have hcnt := cntL_put st L i s hs hL
  rcases hrun with ⟨hg, _⟩ | ⟨hg, rfl, hhc⟩
  · simp only [R.guard S hA hs ho hdep hg, if_true]
    refine .inl ?_
    obtain ⟨q, H1, hq, hfz, hH⟩ := R.value S hcl hs ho hL hdep hLs hv hg
    have hst := R.frame S hcl hs ho hL hdep
    have hlo : lo ≤ Hq.length := Nat.le_trans R.elo S.ev.len
    obtain ⟨q1, q2⟩ := q
    have fin : notBox s.op = true → Does P o a w (Post g Hq w q2 q1) → o.wp P a w next Q := fun hnb hd =>
      hd next Q fun rv w' hp => by
        obtain ⟨g', h1, h2, h3⟩ := frz_post R hfz hp
        exact hn _ _ ⟨g', ρ, H1, R.sim_put S hcl hs ho hnb hL hv hH h1 h2 h3⟩
    have hb := (R.parts hs ho).2.1
    cases hop : s.op with
    | boxNew n z =>
      unfold okBody at hb
      rw [hop] at hb hq
      simp only [Bool.and_eq_true, Bool.not_eq_true'] at hb
      obtain ⟨⟨⟨h1, h2⟩, h3⟩, h4⟩ := hb
      obtain ⟨d, hd⟩ := Option.isSome_iff_exists.1 h2
      simp only [exOp, Option.some.injEq, Prod.mk.injEq] at hq
      obtain ⟨rfl, rfl⟩ := hq
      simp only [fzDV, h4, Bool.false_eq_true, if_false, Option.some.injEq, Prod.mk.injEq] at hfz
      obtain ⟨rfl, rfl⟩ := hfz
      refine new_does (w0 := w0) (n := n) (z := z) S.rel S.ev.size h1 next Q fun rv w' hp => ?_
      obtain ⟨rfl, g', h5, h6, h7⟩ := hp
      exact hn _ _ ⟨g', _, Hq, R.sim_new S hcl hs ho hop hd hL hH h5 h6 h7⟩
    | boxSet n x =>
      obtain ⟨d, p, e1, e2, e3, e4, e5, e6, e7⟩ := R.setAt hs ho hop
      rw [hop] at hq
      simp only [exOp] at hq
      split at hq
      · rename_i u hx
        split at hq
        · rename_i hc
          simp only [Option.some.injEq, Prod.mk.injEq] at hq
          obtain ⟨rfl, rfl⟩ := hq
          simp only [fzDV, e7, Bool.false_eq_true, if_false, Option.some.injEq, Prod.mk.injEq] at hfz
          obtain ⟨rfl, rfl⟩ := hfz
          have hsi := seens_get hs ho
          rw [e1] at hsi
          have hpA : PendAt st ops L p d n := ⟨hdep p e3, e4, fun j hj => by
            have := nodup_opt R.ns hj hsi
            subst this; exact hL⟩
          obtain ⟨h8, h9⟩ := S.pend p d n hpA
          refine set_does hst S.rel h8 h9 e2 hx hc.1 hc.2 next Q fun rv w' hp => ?_
          obtain ⟨rfl, g', hbx⟩ := hp
          exact hn _ _ ⟨g', ρ, Hq, R.sim_set S hcl hs ho hop e1 e5 e3 e4 (hdep p e3) hL hv hH hbx⟩
        · simp at hq
      · simp at hq
    | call f args =>
      refine fin (by rw [hop]; rfl) ?_
      unfold okBody at hb
      rw [hop] at hb hq
      exact call_does R.callOk hst S.rel hlo hb hq
    | callv f args =>
      refine fin (by rw [hop]; rfl) ?_
      unfold okBody at hb
      rw [hop] at hb hq
      exact callv_does R.callOk hst S.rel hlo hb hq
    | _ =>
      refine fin (by rw [hop]; rfl) ?_
      unfold okBody at hb
      rw [hop] at hb hq
      exact (op_sound hst S.rel hb hq).does
  · simp only [R.guard S hA hs ho hdep hg, Bool.false_eq_true, if_false]
    have hnb : notBox s.op = true := by
      cases hop : s.op with
      | boxNew n z =>
        have hb := (R.parts hs ho).2.1
        unfold okBody at hb
        rw [hop] at hb
        simp only [Bool.and_eq_true, Option.isNone_iff_eq_none] at hb
        rw [hb.1.2] at hg
        simp [goes] at hg
      | boxSet n x =>
        obtain ⟨d, p, e1, e2, e3, e4, e5, e6, e7⟩ := R.setAt hs ho hop
        rw [e6] at hg
        simp [goes] at hg
      | _ => rfl
    refine hn _ _ ⟨g, ρ, Hq, R.sim_put S hcl hs ho hnb hL hv ?_ S.rel (Ev.refl S.rel) (.p _ _ .undef)⟩
    rw [show cntL st (put L i) = _ from hcnt]
    by_cases hw : isStep s.win = true
    · rw [if_pos hw]
      have hi : i < st.length := (List.getElem?_eq_some_iff.1 hs).1
      have hwin : s.win = .step := by
        cases hx : s.win <;> rw [hx] at hw <;> simp [isStep] at hw
      have e1 := R.at_step hcl hs ho hwin hL hdep
      have e2 := R.heaps (i + 1) hi
      rw [cnt_succ st i s hs, if_pos hw, hhc] at e2
      have e3 := S.hq
      rw [e1, R.heaps i (Nat.le_of_lt hi)] at e3
      rw [e1, e2]; exact e3
    · rw [if_neg hw]; simpa using S.hq
end
end Go.Lv

/- The rule for regions. -/
namespace Go.Lv
set_option linter.unusedVariables false
set_option linter.unusedSimpArgs false
set_option linter.unusedSectionVars false

/-- the slots of a frame -/
structure StE (vt : List Nat) (g : Gh) (H : Heap) (w : World) (env : List DV) (a : Act) : Prop where
  get : ∀ (s t : Nat), vt[s]? = some t → ∃ v rv, env[s]? = some v ∧ a.tmps[t]? = some rv ∧ DRel g H w v rv
  len : env.length = vt.length

/-- What is so behind a region. -/
structure RegEnd (vt : List Nat) (ops : List Oper) (st : List IStep) (g0 : Gh) (h : Heap) (w0 : World) (a0 : Act) (ts env' : List DV) (h' : Heap) (a : Act) (w : World) (g : Gh) : Prop where
  rel : Rel g h' w
  ev : Ev g0 h w0 g h' w
  slots : StE vt g h' w env' a
  tmps : St (vt.map some) (seens st ops).reverse g h' w env' ts a
  defers : a.defers = a0.defers
  size : a.tmps.size = a0.tmps.size

theorem outs_len : ∀ (st : List IStep) (V env : List DV), (outs st V env).length = env.length
  | [], V, env => by cases V <;> rfl
  | s :: r, [], env => rfl
  | s :: r, v :: V, env => by
    simp only [outs]
    rw [outs_len]
    cases s.dst <;> simp [setEnv, setN_eq]

/-- a slot that is written by one operation at most -/
theorem outs_get : ∀ {st : List IStep} {V env : List DV} {k : Nat}, V.length = st.length → k < env.length →
    ((∀ (i : Nat) (s : IStep), st[i]? = some s → s.dst ≠ some k) → (outs st V env)[k]? = env[k]?) ∧
    (∀ (i : Nat) (s : IStep) (v : DV), st[i]? = some s → s.dst = some k → V[i]? = some v → (∀ (j : Nat) (s' : IStep), st[j]? = some s' → s'.dst = some k → j = i) → (outs st V env)[k]? = some v)
  | [], V, env, k, _, hk => by
    refine ⟨fun _ => by cases V <;> rfl, fun i s v h => by simp at h⟩
  | s0 :: r, [], env, k, hl, hk => by simp at hl
  | s0 :: r, v0 :: V, env, k, hl, hk => by
    have hk' : k < (setEnv env s0.dst v0).length := by cases s0.dst <;> simpa [setEnv, setN_eq] using hk
    obtain ⟨ih1, ih2⟩ := outs_get (st := r) (V := V) (env := setEnv env s0.dst v0) (k := k) (by simpa using hl) hk'
    simp only [outs]
    refine ⟨fun hno => ?_, fun i s v hs hd hv hun => ?_⟩
    · rw [ih1 fun i s h => hno (i + 1) s (by simpa using h)]
      have h0 := hno 0 s0 (by simp)
      cases hd : s0.dst with
      | none => rfl
      | some j => simp only [setEnv, setN_eq]; rw [List.getElem?_set_ne (fun e => h0 (by rw [hd, e]))]
    · cases i with
      | zero =>
        simp at hs hv; subst hs hv
        rw [ih1 fun j s' h h' => by have := hun (j + 1) s' (by simpa using h) h'; omega]
        simp only [hd, setEnv, setN_eq]
        exact List.getElem?_set_self hk
      | succ i => exact ih2 i s v (by simpa using hs) hd (by simpa using hv) fun j s' h h' => by have := hun (j + 1) s' (by simpa using h) h'; omega

section
variable {P : Program} {call : Caller} {ro : Nat → Bool} {lo nt : Nat} {vt : List Nat} {ops : List Oper} {st : List IStep} {B : List Nat} {env V : List DV} {K : List Heap} {Hc : Nat → Heap} {g0 : Gh} {h : Heap} {w0 : World} {a0 : Act}
variable (R : Reg P call ro lo nt vt ops st B env V K Hc g0 h w0 a0)
include R
variable {L : Nat → Bool} {a : Act} {w : World}

theorem Reg.fin (hvt : vt.Nodup) (hS : SimE vt ops st V K g0 h w0 a0 L a w) (hall : ∀ i, L i = true ↔ i < st.length) : ∃ g, RegEnd vt ops st g0 h w0 a0 V.reverse (outs st V env) (Hc st.length) a w g := by
  obtain ⟨g, ρ, Hq, S⟩ := hS
  have e1 : Hq = Hc st.length := by
    have h1 := S.hq
    rw [cntL_cnt st L st.length fun c s hc _ => hall c, R.heaps st.length (Nat.le_refl _)] at h1
    exact (Option.some.inj h1).symm
  subst e1
  have dst : ∀ (i : Nat) (s : IStep) (o : Oper), st[i]? = some s → ops[i]? = some o → okDst vt (seen1 s o) s = true := fun i s o hs ho => (R.parts hs ho).2.2.2.1
  have opAt : ∀ (i : Nat) (s : IStep), st[i]? = some s → ∃ o, ops[i]? = some o := fun i s hs => by
    have : i < ops.length := by rw [← R.len]; exact (List.getElem?_eq_some_iff.1 hs).1
    exact ⟨ops[i], by simp [this]⟩
  have stAt : ∀ (i : Nat) (o : Oper), ops[i]? = some o → ∃ s, st[i]? = some s := fun i o ho => by
    have : i < st.length := by rw [R.len]; exact (List.getElem?_eq_some_iff.1 ho).1
    exact ⟨st[i], by simp [this]⟩
  -- a slot's writer is seen
  have wr : ∀ (i : Nat) (s : IStep) (k : Nat), st[i]? = some s → s.dst = some k → ∃ t, vt[k]? = some t ∧ (seens st ops)[i]? = some (some t) := fun i s k hs hd => by
    obtain ⟨o, ho⟩ := opAt i s hs
    have hk := dst i s o hs ho
    unfold okDst at hk
    rw [hd] at hk
    split at hk
    · rename_i k' t e1 e2
      obtain rfl := Option.some.inj e1
      simp only [getN_eq, beq_iff_eq] at hk
      exact ⟨t, hk, by rw [seens_get hs ho, e2]⟩
    · rename_i e1 _; simp at e1
    · rename_i e1 _; simp at e1
    · simp at hk
  have slots : StE vt g (Hc st.length) w (outs st V env) a := ⟨fun k t hk => by
    have hkl : k < env.length := by rw [R.elen]; exact (List.getElem?_eq_some_iff.1 hk).1
    obtain ⟨o1, o2⟩ := outs_get (st := st) (V := V) (env := env) (k := k) R.vlen hkl
    by_cases hw : ∃ (i : Nat) (s : IStep), st[i]? = some s ∧ s.dst = some k
    · obtain ⟨i, s, hs, hd⟩ := hw
      obtain ⟨t', h1, h2⟩ := wr i s k hs hd
      rw [hk] at h1; obtain rfl := Option.some.inj h1
      have hil : i < V.length := by rw [R.vlen]; exact (List.getElem?_eq_some_iff.1 hs).1
      have hV : V[i]? = some V[i] := by simp [hil]
      obtain ⟨rv, h3, h4⟩ := S.val i t _ ((hall i).2 (by rw [← R.vlen]; exact hil)) h2 hV
      refine ⟨_, rv, o2 i s _ hs hd hV fun j s' hs' hd' => ?_, h3, h4⟩
      obtain ⟨t', h5, h6⟩ := wr j s' k hs' hd'
      rw [hk] at h5; obtain rfl := Option.some.inj h5
      exact nodup_opt R.ns h6 h2
    · have hno : ∀ (i : Nat) (s : IStep), st[i]? = some s → s.dst ≠ some k := fun i s hs hd => hw ⟨i, s, hs, hd⟩
      obtain ⟨v, rv, h1, h2, h3⟩ := R.env0 k t hk
      refine ⟨v, rv, by rw [o1 hno]; exact h1, ?_, h3.mono S.ev⟩
      rw [S.old t fun i o hi ho hd => ?_]
      · exact h2
      · obtain ⟨s, hs⟩ := stAt i o ho
        have htv : t ∈ vt := List.mem_of_getElem? hk
        -- what is seen of the temporary has a slot
        have key : ∀ (j : Nat), (seens st ops)[j]? = some (some t) → False := fun j hj => by
          obtain ⟨s', o', f1, f2, f3⟩ := seens_some hj
          have hk' := dst j s' o' f1 f2
          rw [← f3] at hk'
          unfold okDst at hk'
          split at hk'
          · rename_i k' t' e1 e2
            simp only [getN_eq, beq_iff_eq] at hk'
            obtain rfl := Option.some.inj e2
            have : k' = k := (List.getElem?_inj (List.getElem?_eq_some_iff.1 hk').1 hvt).1 (by rw [hk', hk])
            subst this
            exact hno j s' f1 e1
          · rename_i e2; simp at e2
          · rename_i t' e1 e2
            obtain rfl := Option.some.inj e2
            simp at hk'
            exact hk' htv
          · simp at hk'
        cases hop : s.op with
        | boxNew n z =>
          have := (R.parts hs ho).2.2.2.2.2.2 n z t hop hd htv
          obtain ⟨j, hj⟩ := List.mem_iff_getElem?.1 this
          exact key j hj
        | boxSet n x =>
          obtain ⟨d, p, _, _, _, _, e5, _⟩ := R.setAt hs ho hop
          rw [e5] at hd; simp at hd
        | _ =>
          refine key i ?_
          rw [seens_get hs ho, seen_nb (by rw [hop]; rfl), hd], by rw [outs_len]; exact R.elen⟩
  have hslen : (seens st ops).length = st.length := by
    have : ∀ (st : List IStep) (ops : List Oper), st.length = ops.length → (seens st ops).length = st.length := by
      intro st
      induction st with
      | nil => intro ops _; rfl
      | cons s r ih => intro ops hl; cases ops with
        | nil => simp at hl
        | cons o q => simp [seens, ih q (by simpa using hl)]
    exact this st ops R.len
  refine ⟨g, S.rel, S.ev, slots, ⟨fun k t hk => ?_, ?_, fun k t hk => ?_, ?_⟩, S.defers, S.size⟩
  · simp only [List.getElem?_map, Option.map_eq_some_iff, Option.some.injEq] at hk
    obtain ⟨t', h1, rfl⟩ := hk
    exact slots.get k _ h1
  · rw [List.length_map]; exact slots.len
  · have hkl : k < (seens st ops).length := by have := (List.getElem?_eq_some_iff.1 hk).1; simpa using this
    rw [List.getElem?_reverse hkl] at hk
    have hj : (seens st ops).length - 1 - k < V.length := by rw [R.vlen, hslen]; omega
    have hV : V[(seens st ops).length - 1 - k]? = some V[(seens st ops).length - 1 - k] := by simp [hj]
    obtain ⟨rv, h3, h4⟩ := S.val _ t _ ((hall _).2 (by rw [← R.vlen]; exact hj)) hk hV
    refine ⟨_, rv, ?_, h3, h4⟩
    rw [List.getElem?_reverse (by rw [R.vlen, ← hslen]; exact hkl), R.vlen, ← hslen]
    exact hV
  · simp [R.vlen, hslen]
end
end Go.Lv

/- The rule for regions: in order, and in any order. -/
namespace Go.Lv
set_option linter.unusedVariables false
set_option linter.unusedSimpArgs false
set_option linter.unusedSectionVars false

theorem mask1_mem {B : List Nat} : ∀ {es : List Edge} {e : Edge}, e ∈ es → Region.binds .any e = true → (mask1 B es).testBit e.on = true
  | [], e, h, _ => by simp at h
  | e0 :: r, e, h, hb => by
    simp only [List.mem_cons] at h
    simp only [mask1]
    rcases h with rfl | h
    · rw [if_pos hb]; simp [Nat.testBit_or, Nat.testBit_two_pow_self]
    · split
      · simp [Nat.testBit_or, mask1_mem h hb]
      · exact mask1_mem h hb

theorem dep_after {ops : List Oper} {i : Nat} {o : Oper} {e : Edge} (ho : ops[i]? = some o) (he : e ∈ o.after.toList) (hb : Region.binds .any e = true) : dep (masks true [] ops) i e.on = true := by
  obtain ⟨ext, h1, h2, h3⟩ := masks_app true ops []
  rw [h1]
  simp only [List.nil_append] at h3 ⊢
  unfold dep
  rw [getN_eq, h3 i o ho]
  simp only [if_true, Option.getD_some]
  exact mask1_mem he hb

/-- how many have not run -/
def un : Nat → (Nat → Bool) → Nat
  | 0, _ => 0
  | n + 1, L => un n L + if L n then 0 else 1
theorem un_zero : ∀ {n : Nat} {L : Nat → Bool}, un n L = 0 → ∀ i, i < n → L i = true
  | 0, L, _, i, hi => by omega
  | n + 1, L, h, i, hi => by
    simp only [un] at h
    have h1 : un n L = 0 := by omega
    have h2 : L n = true := by
      cases hx : L n with
      | true => rfl
      | false => rw [hx] at h; simp at h
    rcases Nat.lt_or_ge i n with hlt | hge
    · exact un_zero h1 i hlt
    · have : i = n := by omega
      subst this; exact h2
theorem un_put_ge : ∀ {n i : Nat} {L : Nat → Bool}, n ≤ i → un n (put L i) = un n L
  | 0, i, L, _ => rfl
  | n + 1, i, L, h => by
    simp only [un]
    rw [un_put_ge (by omega)]
    have : put L i n = L n := by simp only [put]; have : (n == i) = false := by simp; omega
                                 rw [this]; rfl
    rw [this]
theorem un_put : ∀ {n i : Nat} {L : Nat → Bool}, i < n → L i = false → un n (put L i) + 1 = un n L
  | 0, i, L, h, _ => by omega
  | n + 1, i, L, h, hL => by
    simp only [un]
    rcases Nat.lt_or_ge i n with hlt | hge
    · have ih := un_put (L := L) hlt hL
      have : put L i n = L n := by simp only [put]; have : (n == i) = false := by simp; omega
                                   rw [this]; rfl
      rw [this]; omega
    · have : i = n := by omega
      subst this
      rw [un_put_ge (Nat.le_refl _), put_at, hL]
      simp
theorem un_le : ∀ (n : Nat) (L : Nat → Bool), un n L ≤ n
  | 0, _ => Nat.le_refl _
  | n + 1, L => by
    have := un_le n L
    simp only [un]
    split <;> omega

section
variable {P : Program} {call : Caller} {ro : Nat → Bool} {lo nt : Nat} {vt : List Nat} {opsA : Array Oper} {st : List IStep} {env V : List DV} {K : List Heap} {Hc : Nat → Heap} {g0 : Gh} {h : Heap} {w0 : World} {a0 : Act}

theorem sim_start (hr : Rel g0 h w0) : SimE vt opsA.toList st V K g0 h w0 a0 (fun _ => false) a0 w0 := by
  have h0 : cntL st (fun _ => false) = 0 := by
    have : ∀ st : List IStep, cntL st (fun _ => false) = 0 := by
      intro st
      induction st with
      | nil => rfl
      | cons s r ih => simp only [cntL, ih]; simp
    exact this st
  exact ⟨g0, fun _ => 0, h, by rw [h0]; rfl, hr, Ev.refl hr, fun i t v hL => by simp at hL, fun t _ => rfl, fun p d n hp => by simp [PendAt] at hp, fun p p' d n d' n' hp => by simp [PendAt] at hp, rfl, rfl⟩

/-- in order -/
theorem region_seq (R : Reg P call ro lo nt vt opsA.toList st (masks false [] opsA.toList) env V K Hc g0 h w0 a0) (hvt : vt.Nodup) {id : Nat} {Q : Exit → Act → World → Prop}
    (hQ : ∀ a w g, RegEnd vt opsA.toList st g0 h w0 a0 V.reverse (outs st V env) (Hc st.length) a w g → Q .normal a w) : (Code.region id opsA false).wp P Q a0 w0 := by
  apply wp_region
  have hn : st.length = opsA.size := by rw [R.len]; simp
  have key : ∀ (m i : Nat), i + m = st.length → ∀ (a : Act) (w : World), SimE vt opsA.toList st V K g0 h w0 a0 (fun k => decide (k < i)) a w → wpOps P opsA Q (List.range' i m) a w := by
    intro m
    induction m with
    | zero =>
      intro i hi a w hS
      obtain ⟨g, hE⟩ := R.fin hvt hS fun k => by simp; omega
      simp only [List.range'_zero, wpOps]
      exact hQ a w g hE
    | succ m ih =>
      intro i hi a w hS
      have hil : i < st.length := by omega
      have hol : i < opsA.toList.length := by rw [← R.len]; exact hil
      rw [List.range'_succ, wpOps_cons]
      refine R.one (s := st[i]) (o := opsA.toList[i]) hS (fun c hc j hd => ?_) rfl (by simp [hil]) (by simp [hol]) (by simp) (fun j hd => ?_) (fun c hc => by simp at hc; omega) Q _ fun a' w' hS' => ?_
      · have := dep_seq hd; simp at hc ⊢; omega
      · have := dep_seq hd; simpa using this
      · refine ih (i + 1) (by omega) a' w' ?_
        have e : put (fun k => decide (k < i)) i = fun k => decide (k < i + 1) := by
          funext k
          simp only [put]
          by_cases e : k = i
          · simp [e]
          · have : (k == i) = false := by simpa using e
            rw [this, Bool.false_or]
            exact decide_eq_decide.2 (by omega)
        rw [e] at hS'; exact hS'
  have h0 := key st.length 0 (by omega) a0 w0 (by
    have := sim_start (vt := vt) (opsA := opsA) (st := st) (V := V) (K := K) (a0 := a0) R.rel0
    simpa using this)
  rw [List.range_eq_range', ← hn]
  exact h0

/-- in any order -/
theorem region_draw (R : Reg P call ro lo nt vt opsA.toList st (masks true [] opsA.toList) env V K Hc g0 h w0.drew a0) (hm : P.follows .mixedOrders = true) (hvt : vt.Nodup) {id : Nat} {Q : Exit → Act → World → Prop}
    (hQ : ∀ a w g, RegEnd vt opsA.toList st g0 h w0.drew a0 V.reverse (outs st V env) (Hc st.length) a w g → Q .normal a w) : (Code.region id opsA true).wp P Q a0 w0 := by
  apply wp_region_any hm
  have hn : st.length = opsA.size := by rw [R.len]; simp
  have bnd : ∀ i j, dep (masks true [] opsA.toList) i j = true → i < st.length → j < i := fun i j hd hi => by
    have hol : i < opsA.toList.length := by rw [← R.len]; exact hi
    exact (R.parts (i := i) (s := st[i]) (o := opsA.toList[i]) (by simp [hi]) (by simp [hol])).2.2.2.2.1 j hd
  have key : ∀ (fuel : Nat) (listed : Array Bool) (a : Act) (w : World), listed.size = st.length → un st.length (fun i => listed.getD i false) ≤ fuel → Closed (masks true [] opsA.toList) (fun i => listed.getD i false) →
      SimE vt opsA.toList st V K g0 h w0.drew a0 (fun i => listed.getD i false) a w → wpAny P .any opsA Q fuel listed a w := by
    intro fuel
    induction fuel with
    | zero =>
      intro listed a w hsz hun hcl hS
      have hall := un_zero (Nat.le_zero.1 hun)
      refine ⟨?_, ?_⟩
      · cases hr : Region.ready .any opsA listed with
        | nil => rfl
        | cons i r =>
          have hi : i ∈ Region.ready .any opsA listed := by rw [hr]; simp
          obtain ⟨h1, o, ho, _⟩ := mem_ready.1 hi
          have hlt : i < st.length := by rw [hn]; exact (Array.getElem?_eq_some_iff.1 ho).1
          have h2 := hall i hlt
          have hlt' : i < listed.size := by omega
          simp [hlt'] at h1 h2
          rw [h1] at h2; simp at h2
      · obtain ⟨g, hE⟩ := R.fin hvt hS fun k => ⟨fun hk => by
          rcases Nat.lt_or_ge k listed.size with h1 | h1
          · omega
          · simp [Array.getElem?_eq_none h1] at hk, fun hk => hall k hk⟩
        exact hQ a w g hE
    | succ fuel ih =>
      intro listed a w hsz hun hcl hS
      refine ⟨fun hr => ?_, fun i hi => ?_⟩
      · -- none is ready: all have run
        have hall : ∀ i, i < st.length → listed.getD i false = true := by
          intro i
          induction i using Nat.strongRecOn with
          | _ i ihi =>
            intro hi
            cases hx : listed.getD i false with
            | true => rfl
            | false =>
              exfalso
              have hlt' : i < listed.size := by omega
              have hol : i < opsA.size := by omega
              have hmem : i ∈ Region.ready .any opsA listed := mem_ready.2 ⟨by simp [hlt'] at hx ⊢; exact hx, opsA[i], by simp [hol], fun e he hb => by
                have hd := dep_after (ops := opsA.toList) (i := i) (o := opsA[i]) (by simp [hol]) (by simpa using he) hb
                have := bnd i e.on hd hi
                exact ihi e.on this (by omega)⟩
              rw [hr] at hmem; simp at hmem
        obtain ⟨g, hE⟩ := R.fin hvt hS fun k => ⟨fun hk => by
          rcases Nat.lt_or_ge k listed.size with h1 | h1
          · omega
          · simp [Array.getElem?_eq_none h1] at hk, fun hk => hall k hk⟩
        exact hQ a w g hE
      · obtain ⟨h1, o, ho, hall⟩ := mem_ready.1 hi
        have hlt : i < st.length := by rw [hn]; exact (Array.getElem?_eq_some_iff.1 ho).1
        have hlt' : i < listed.size := by omega
        have hLi : listed.getD i false = false := by simp [hlt'] at h1 ⊢; exact h1
        have hoL : opsA.toList[i]? = some o := by rw [Array.getElem?_toList]; exact ho
        have hdep : ∀ j, dep (masks true [] opsA.toList) i j = true → listed.getD j false = true := fun j hd => by
          obtain ⟨o', e, h2, h3, h4, h5⟩ := dep_draw hd
          rw [hoL] at h2; obtain rfl := Option.some.inj h2
          have h6 := hall e (by simpa using h3) h4
          rcases h5 with h5 | h5
          · rw [← h5]; exact h6
          · exact hcl e.on h6 j h5
        have e : put (fun k => listed.getD k false) i = fun k => (listed.setIfInBounds i true).getD k false := by
          funext k
          simp only [put]
          by_cases e : k = i
          · subst e; simp [hlt']
          · have : (k == i) = false := by simpa using e
            rw [this, Bool.false_or, getD_set_ne false (Ne.symm e)]
        refine R.one (s := st[i]) hS hcl rfl (by simp [hlt]) hoL hLi hdep (fun c hc => by
          rcases Nat.lt_or_ge c listed.size with h2 | h2
          · omega
          · simp [Array.getElem?_eq_none h2] at hc) Q _ fun a' w' hS' => ?_
        rw [e] at hS'
        refine ih (listed.setIfInBounds i true) a' w' (by simp [hsz]) ?_ ?_ hS'
        · have := un_put (n := st.length) (L := fun k => listed.getD k false) hlt hLi
          rw [e] at this; omega
        · rw [← e]
          intro c hc j hd
          by_cases hci : c = i
          · subst hci; exact put_old (hdep j hd)
          · exact put_old (hcl c (put_ne hc hci) j hd)
  refine key opsA.size _ a0 _ (by simp [hn]) ?_ ?_ ?_
  · rw [← hn]; exact un_le _ _
  · intro c hc
    simp only [Array.getD_eq_getD_getElem?, Array.getElem?_replicate] at hc
    split at hc <;> simp at hc
  · have e : (fun i => (Array.replicate opsA.size false).getD i false) = fun _ => false := by
      funext i
      simp only [Array.getD_eq_getD_getElem?, Array.getElem?_replicate]
      split <;> rfl
    rw [e]
    exact sim_start R.rel0
end
end Go.Lv

/- The rule for regions, out of the check and the run. -/
namespace Go.Lv
set_option linter.unusedVariables false
set_option linter.unusedSimpArgs false
set_option linter.unusedSectionVars false

section
variable {P : Program} {call : Caller} {ro : Nat → Bool} {lo nt : Nat} {vt : List Nat} {opsA : Array Oper} {st : List IStep} {env ts env' : List DV} {g0 : Gh} {h h' : Heap} {w0 : World} {a0 : Act} {draw : Bool}

theorem reg_of (hc : CallOk P call) (hro : ∀ {lo f : Nat} {args : List DV} {H H' : Heap} {v : DV}, ro f = true → call lo f args H = some (v, H') → H' = H)
    (hk : okRegion P ro nt vt draw opsA.toList st = true) (hrun : runOps call lo draw st env h = some (ts, env', h')) (hr : Rel g0 h w0) (hlo : lo ≤ h.length) (hst : StE vt g0 h w0 env a0) (hnt : nt ≤ a0.tmps.size) :
    ∃ V K Hc, Reg P call ro lo nt vt opsA.toList st (masks draw [] opsA.toList) env V K Hc g0 h w0 a0 ∧ ts = V.reverse ∧ env' = outs st V env ∧ h' = Hc st.length := by
  simp only [okRegion, Bool.and_eq_true, Bool.or_eq_true] at hk
  obtain ⟨⟨⟨h1, h2⟩, h3⟩, h4⟩ := hk
  obtain ⟨hlen, hok⟩ := okSteps_spec h1
  simp only [Nat.zero_add] at hok
  unfold runOps at hrun
  split at hrun
  · rename_i ts1 h1' hs1 hsteps
    split at hrun
    · rename_i hwin
      simp only [Option.some.injEq, Prod.mk.injEq] at hrun
      obtain ⟨rfl, rfl, rfl⟩ := hrun
      obtain ⟨V, K, Hc, e1, e2, e3, e4, e5, e6, e7⟩ := steps_spec hsteps fun s ts H q r hs hst hq hfz => by
        obtain ⟨i, hi⟩ := List.mem_iff_getElem?.1 hs
        have hil : i < opsA.toList.length := by rw [← hlen]; exact (List.getElem?_eq_some_iff.1 hi).1
        have hk := hok i s opsA.toList[i] hi (by simp [hil])
        simp only [okStep, Bool.and_eq_true] at hk
        have hw := hk.1.1.1.1.2
        unfold okWin at hw
        split at hw
        · simp only [Bool.and_eq_true, Bool.not_eq_true'] at hw
          have := (heapFree_spec (v := q.1) (H' := q.2) hw.1 hq).1
          simp only [fzDV, hw.2, Bool.false_eq_true, if_false, Option.some.injEq] at hfz
          rw [← hfz]; exact this
        · simp only [Bool.and_eq_true, Bool.not_eq_true'] at hw
          have := readOnly_spec (v := q.1) (H' := q.2) hro hw.1.1.1 hq
          simp only [fzDV, hw.1.1.2, Bool.false_eq_true, if_false, Option.some.injEq] at hfz
          rw [← hfz]; exact this
        · rename_i hw'; rw [hw'] at hst; simp [isStep] at hst
      simp only [List.append_nil] at e1 e7
      subst e1
      refine ⟨V, K, Hc, ⟨hc, hro, hlen, hok, noDup_spec h2, noDup_spec h3, e7, e6, ?_, hr, hlo, hst.get, hst.len, hnt, e3⟩, rfl, by rw [List.reverse_reverse], e5.symm⟩
      intro i s x y v hs hw hv hne hg k hk1 hk2
      cases draw with
      | false =>
        simp only [Bool.false_eq_true, false_or] at h4
        have := List.all_eq_true.1 h4 s (List.mem_of_getElem? hs)
        rw [hw] at this; simp [isStep] at this
      | true =>
        simp only [Bool.not_true, Bool.false_or] at hwin
        rw [e2, List.reverse_reverse] at hwin
        simp only [List.reverse_append, List.reverse_reverse, List.reverse_cons, List.reverse_nil, List.nil_append, List.singleton_append] at hwin
        have := chkWins_spec hwin i s x y v hs hw hv hne (by simpa using hg) k hk1 hk2
        simpa using this
    · simp at hrun
  · simp at hrun

/-- The rule. -/
theorem region_rule (hc : CallOk P call) (hro : ∀ {lo f : Nat} {args : List DV} {H H' : Heap} {v : DV}, ro f = true → call lo f args H = some (v, H') → H' = H) (hm : P.follows .mixedOrders = true)
    (hk : okRegion P ro nt vt draw opsA.toList st = true) (hvt : vt.Nodup) (hrun : runOps call lo draw st env h = some (ts, env', h')) (hr : Rel g0 h w0) (hlo : lo ≤ h.length) (hst : StE vt g0 h w0 env a0) (hnt : nt ≤ a0.tmps.size)
    {id : Nat} {Q : Exit → Act → World → Prop} (hQ : ∀ a w g, RegEnd vt opsA.toList st g0 h w0 a0 ts env' h' a w g → Q .normal a w) : (Code.region id opsA draw).wp P Q a0 w0 := by
  cases draw with
  | false =>
    obtain ⟨V, K, Hc, R, rfl, rfl, rfl⟩ := reg_of hc hro hk hrun hr hlo hst hnt
    exact region_seq R hvt hQ
  | true =>
    have hr' := rel_drew hr
    have hv := ev_drew hr
    obtain ⟨V, K, Hc, R, rfl, rfl, rfl⟩ := reg_of hc hro hk hrun hr' hlo ⟨fun s t ht => by obtain ⟨v, rv, h1, h2, h3⟩ := hst.get s t ht; exact ⟨v, rv, h1, h2, h3.mono hv⟩, hst.len⟩ hnt
    exact region_draw R hm hvt fun a w g hE => hQ a w g ⟨hE.rel, hv.trans hE.ev, hE.slots, hE.tmps, hE.defers, hE.size⟩
end
end Go.Lv

/- Code of the small language stands for code of Go's. -/
namespace Go.Lv
set_option linter.unusedVariables false
set_option linter.unusedSimpArgs false
set_option linter.unusedSectionVars false

def flat : Code → List Code
  | .seq a b => flat a ++ flat b
  | .skip => []
  | c => [c]

def wpL (P : Program) (Q : Exit → Act → World → Prop) : List Code → Act → World → Prop
  | [], a, w => Q .normal a w
  | c :: r, a, w => c.wp P (Exit.then (wpL P Q r) Q) a w

section
variable {P : Program} {Q : Exit → Act → World → Prop} {a : Act} {w : World}

theorem then_mono {K K' : Act → World → Prop} {Q Q' : Exit → Act → World → Prop} (h : ∀ a w, K a w → K' a w) (hq : ∀ e a w, e ≠ .normal → Q e a w → Q' e a w) : ∀ e a w, Exit.then K Q e a w → Exit.then K' Q' e a w := by
  intro e a w he
  cases e with
  | normal => exact h a w he
  | _ => exact hq _ a w (by simp) he

theorem wpL_append : ∀ (x y : List Code) (a : Act) (w : World), wpL P Q (x ++ y) a w → wpL P (Exit.then (wpL P Q y) Q) x a w
  | [], y, a, w, h => h
  | c :: r, y, a, w, h => wp_mono h (then_mono (fun a w h => wpL_append r y a w h) fun e a w hne he => by cases e <;> first | exact absurd rfl hne | exact he)

theorem wpL_mono {Q' : Exit → Act → World → Prop} (hq : ∀ e a w, Q e a w → Q' e a w) : ∀ (x : List Code) (a : Act) (w : World), wpL P Q x a w → wpL P Q' x a w
  | [], a, w, h => hq _ _ _ h
  | c :: r, a, w, h => wp_mono h (then_mono (fun a w h => wpL_mono hq r a w h) fun e a w _ he => hq e a w he)

theorem then_self : ∀ (e : Exit) (a : Act) (w : World), Exit.then (fun a w => Q .normal a w) Q e a w → Q e a w := by
  intro e a w h; cases e <;> exact h

theorem flat_sound : ∀ (c : Code) (Q : Exit → Act → World → Prop) (a : Act) (w : World), wpL P Q (flat c) a w → c.wp P Q a w := by
  intro c
  induction c with
  | seq x y ihx ihy =>
    intro Q a w h
    refine wp_seq (wp_mono (ihx _ a w (wpL_append (flat x) (flat y) a w h)) (then_mono (fun a w h => ihy Q a w h) fun e a w _ he => he))
  | skip => intro Q a w h; exact wp_skip h
  | _ => intro Q a w h; exact wp_mono h then_self

/-! ### labels -/
def findLC (l : Nat) : List Code → Option (List Code)
  | [] => none
  | c :: r => match c with
    | .label k => if k == l then some r else findLC l r
    | _ => findLC l r

theorem findLC_app : ∀ (l : Nat) (x y : List Code), findLC l (x ++ y) = match findLC l x with
    | some r => some (r ++ y)
    | none => findLC l y
  | l, [], y => rfl
  | l, c :: r, y => by
    have ih := findLC_app l r y
    cases c <;> simp only [List.cons_append, findLC, ih]
    split <;> rfl

theorem findLabel_flat : ∀ (c : Code) (l : Nat), (findLabel c l).map flat = findLC l (flat c)
  | .seq x y, l => by
    have h1 := findLabel_flat x l
    have h2 := findLabel_flat y l
    simp only [findLabel, flat, findLC_app, ← h1, ← h2]
    cases findLabel x l with
    | none => rfl
    | some r => simp [flat]
  | .label k, l => by
    simp only [findLabel, flat, findLC]
    split <;> rfl
  | .skip, l => rfl
  | .region .., l => rfl
  | .cond .., l => rfl
  | .block .., l => rfl
  | .loop .., l => rfl
  | .scope .., l => rfl
  | .exit .., l => rfl
  | .goto .., l => rfl
  | .ret, l => rfl
  | .rangeFunc .., l => rfl
  | .refuse .., l => rfl

/-! ### scopes: by rounds -/
def sRounds (P : Program) (c : Code) (Q : Exit → Act → World → Prop) : Nat → Code → Act → World → Prop
  | 0, _, _, _ => False
  | n + 1, rest, a, w => rest.wp P (fun e a' w' => match e with
    | .goto l => match findLabel c l with
      | some rest' => sRounds P c Q n rest' a' w'
      | none => Q (.goto l) a' w'
    | e => Q e a' w') a w

theorem wp_scope_rounds {c : Code} {n : Nat} (h : sRounds P c Q n c a w) : (Code.scope c).wp P Q a w := by
  intro b k cs
  have key : ∀ (n : Nat) (rest : Code) (a : Act) (w : World), sRounds P c Q n rest a w → ∃ e a' w', Q e a' w' ∧ Arrives P (lone (b.at a (.code rest :: .inScope c :: k)) cs w) b k cs e a' w' := by
    intro n
    induction n with
    | zero => intro rest a w h; exact h.elim
    | succ n ih =>
      intro rest a w h
      obtain ⟨e, a₁, w₁, hq, harr⟩ := h b (.inScope c :: k) cs
      cases e with
      | normal => exact ⟨.normal, a₁, w₁, hq, Steps.trans harr (.one step_inScope)⟩
      | exit id => exact ⟨.exit id, a₁, w₁, hq, fun k' hk => harr k' (by simp [exitTo, hk])⟩
      | goto l =>
        simp only at hq
        cases hf : findLabel c l with
        | some rest' =>
          rw [hf] at hq
          obtain ⟨e, a₂, w₂, hq₂, harr₂⟩ := ih rest' a₁ w₁ hq
          exact ⟨e, a₂, w₂, hq₂, .of_steps (harr _ (by simp [gotoIn, hf])) harr₂⟩
        | none =>
          rw [hf] at hq
          exact ⟨.goto l, a₁, w₁, hq, fun k' hk => harr k' (by simp [gotoIn, hf, hk])⟩
      | ret => exact ⟨_, a₁, w₁, hq, harr⟩
      | panic ch => exact ⟨_, a₁, w₁, hq, harr⟩
      | outgrown => exact ⟨_, a₁, w₁, hq, harr⟩
  obtain ⟨e, a', w', hq, harr⟩ := key n c a w h
  exact ⟨e, a', w', hq, .of_steps (.one step_scope) harr⟩
end

/-! ### the check of code -/
def chkN (P : Program) (ro : Nat → Bool) (nt : Nat) (vt : List Nat) : Nat → List INode → List Code → Bool
  | 0, _, _ => false
  | n + 1, nodes, codes => match nodes with
    | [] => codes.isEmpty
    | .region d st :: r => (match codes with
      | .region _ ops d' :: q => d == d' && okRegion P ro nt vt d ops.toList st && chkN P ro nt vt n r q
      | _ => false)
    | .cond d st c x y :: r => (match codes with
      | .region _ ops d' :: q1 => (match q1 with
        | .cond c' x' y' :: q => d == d' && okRegion P ro nt vt d ops.toList st && okOpd (vt.map some) (seens st ops.toList).reverse c c' && chkN P ro nt vt n x (flat x') && chkN P ro nt vt n y (flat y') && chkN P ro nt vt n r q
        | _ => false)
      | .cond c' x' y' :: q => st.isEmpty && okOpd (vt.map some) [] c c' && chkN P ro nt vt n x (flat x') && chkN P ro nt vt n y (flat y') && chkN P ro nt vt n r q
      | _ => false)
    | .block id b :: r => (match codes with
      | .block id' b' :: q => id == id' && chkN P ro nt vt n b (flat b') && chkN P ro nt vt n r q
      | _ => false)
    | .loop b :: r => (match codes with
      | .loop b' :: q => chkN P ro nt vt n b (flat b') && chkN P ro nt vt n r q
      | _ => false)
    | .scope b :: r => (match codes with
      | .scope b' :: q => chkN P ro nt vt n b (flat b') && chkN P ro nt vt n r q
      | _ => false)
    | .inScope _ _ :: _ => false
    | .exit id :: r => (match codes with
      | .exit id' :: q => id == id' && chkN P ro nt vt n r q
      | _ => false)
    | .label l :: r => (match codes with
      | .label l' :: q => l == l' && chkN P ro nt vt n r q
      | _ => false)
    | .goto l :: r => (match codes with
      | .goto l' :: q => l == l' && chkN P ro nt vt n r q
      | _ => false)
    | .ret :: r => (match codes with
      | .ret :: q => chkN P ro nt vt n r q
      | _ => false)
    | .frz s :: r => decide (s < vt.length) && chkN P ro nt vt n r codes

end Go.Lv

/- Code of the small language stands for code of Go's: the run. -/
namespace Go.Lv
set_option linter.unusedVariables false
set_option linter.unusedSimpArgs false
set_option linter.unusedSectionVars false

def ExRel : Ex → Exit → Prop
  | .nrm, .normal => True
  | .exit i, .exit j => i = j
  | .goto l, .goto k => l = k
  | .ret, .ret => True
  | _, _ => False

/-- What is so behind code. -/
structure PostE (nt : Nat) (vt : List Nat) (ex : Ex) (env' : List DV) (H' : Heap) (g : Gh) (H : Heap) (w : World) (e : Exit) (a' : Act) (w' : World) : Prop where
  ex : ExRel ex e
  defers : a'.defers = []
  size : nt ≤ a'.tmps.size
  rest : ∃ g', Rel g' H' w' ∧ Ev g H w g' H' w' ∧ StE vt g' H' w' env' a'

/-- a state before code -/
structure PreE (nt : Nat) (vt : List Nat) (lo : Nat) (env : List DV) (H : Heap) (g : Gh) (w : World) (a : Act) : Prop where
  rel : Rel g H w
  lo : lo ≤ H.length
  slots : StE vt g H w env a
  size : nt ≤ a.tmps.size
  defers : a.defers = []

section
variable {P : Program} {T : Tab} {ro : Nat → Bool} {nt : Nat} {vt : List Nat}

theorem PostE.pre {ex : Ex} {env' : List DV} {H' : Heap} {g : Gh} {H : Heap} {w : World} {e : Exit} {a' : Act} {w' : World} {lo : Nat} (hp : PostE nt vt ex env' H' g H w e a' w') (hlo : lo ≤ H.length) :
    ∃ g', PreE nt vt lo env' H' g' w' a' ∧ Ev g H w g' H' w' := by
  obtain ⟨g', h1, h2, h3⟩ := hp.rest
  exact ⟨g', ⟨h1, Nat.le_trans hlo h2.len, h3, hp.size, hp.defers⟩, h2⟩

theorem PostE.back {ex : Ex} {env' : List DV} {H' : Heap} {g g1 : Gh} {H H1 : Heap} {w w1 : World} {e : Exit} {a' : Act} {w' : World} (hv : Ev g H w g1 H1 w1) (hp : PostE nt vt ex env' H' g1 H1 w1 e a' w') : PostE nt vt ex env' H' g H w e a' w' := by
  obtain ⟨g', h1, h2, h3⟩ := hp.rest
  exact ⟨hp.ex, hp.defers, hp.size, g', h1, hv.trans h2, h3⟩

/-- code at a fuel is right -/
def CodeOk (P : Program) (T : Tab) (ro : Nat → Bool) (nt : Nat) (vt : List Nat) (n : Nat) : Prop :=
  ∀ {lo k : Nat} {nodes : List INode} {codes : List Code} {env env' : List DV} {H H' : Heap} {ex : Ex} {g : Gh} {w : World} {a : Act}, chkN P ro nt vt k nodes codes = true → exec T n lo nodes env H = some (ex, env', H') → PreE nt vt lo env H g w a →
    wpL P (PostE nt vt ex env' H' g H w) codes a w

def LoopOk (P : Program) (T : Tab) (ro : Nat → Bool) (nt : Nat) (vt : List Nat) (n : Nat) : Prop :=
  ∀ {lo k : Nat} {body r : List INode} {c : Code} {env env' : List DV} {H H' : Heap} {ex : Ex} {g : Gh} {w : World} {a : Act}, chkN P ro nt vt k body (flat c) = true → exec T n lo (.loop body :: r) env H = some (ex, env', H') → PreE nt vt lo env H g w a →
    ∀ (Q : Exit → Act → World → Prop), (∀ e a' w', e ≠ .normal → PostE nt vt ex env' H' g H w e a' w' → Q e a' w') → Code.rounds P c Q n a w

def ScopeOk (P : Program) (T : Tab) (ro : Nat → Bool) (nt : Nat) (vt : List Nat) (n : Nat) : Prop :=
  ∀ {lo k k2 k3 : Nat} {body rest r : List INode} {c rc : Code} {q : List Code} {env env' : List DV} {H H' : Heap} {ex : Ex} {g : Gh} {w : World} {a : Act}, chkN P ro nt vt k body (flat c) = true → chkN P ro nt vt k2 rest (flat rc) = true → chkN P ro nt vt k3 r q = true →
    exec T n lo (.inScope body rest :: r) env H = some (ex, env', H') → PreE nt vt lo env H g w a →
    ∀ (Q : Exit → Act → World → Prop), (∀ e a' w', Exit.then (wpL P (PostE nt vt ex env' H' g H w) q) (PostE nt vt ex env' H' g H w) e a' w' → Q e a' w') → sRounds P c Q n rc a w

/-- labels are found alike -/
theorem findL_chk : ∀ {k l : Nat} {nodes : List INode} {codes : List Code}, chkN P ro nt vt k nodes codes = true →
    (findL l nodes = none ∧ findLC l codes = none) ∨ ∃ r q k', findL l nodes = some r ∧ findLC l codes = some q ∧ chkN P ro nt vt k' r q = true := by
  intro k
  induction k with
  | zero => intro l nodes codes h; simp [chkN] at h
  | succ k ih =>
    intro l nodes codes h
    unfold chkN at h
    split at h
    · simp only [List.isEmpty_iff] at h; subst h; exact .inl ⟨rfl, rfl⟩
    · split at h
      · simp only [Bool.and_eq_true] at h; simpa [findL, findLC] using ih (l := l) h.2
      · simp at h
    · split at h
      · split at h
        · simp only [Bool.and_eq_true] at h; simpa [findL, findLC] using ih (l := l) h.2
        · simp at h
      · simp only [Bool.and_eq_true] at h; simpa [findL, findLC] using ih (l := l) h.2
      · simp at h
    · split at h
      · simp only [Bool.and_eq_true] at h; simpa [findL, findLC] using ih (l := l) h.2
      · simp at h
    · split at h
      · simp only [Bool.and_eq_true] at h; simpa [findL, findLC] using ih (l := l) h.2
      · simp at h
    · split at h
      · simp only [Bool.and_eq_true] at h; simpa [findL, findLC] using ih (l := l) h.2
      · simp at h
    · simp at h
    · split at h
      · simp only [Bool.and_eq_true] at h; simpa [findL, findLC] using ih (l := l) h.2
      · simp at h
    · split at h
      · rename_i l1 r x l2 q
        simp only [Bool.and_eq_true, beq_iff_eq] at h
        obtain ⟨rfl, h2⟩ := h
        by_cases e : l1 = l
        · subst e
          exact .inr ⟨_, _, k, by simp [findL], by simp [findLC], h2⟩
        · simpa [findL, findLC, e] using ih (l := l) h2
      · simp at h
    · split at h
      · simp only [Bool.and_eq_true] at h; simpa [findL, findLC] using ih (l := l) h.2
      · simp at h
    · split at h
      · simpa [findL, findLC] using ih (l := l) h
      · simp at h
    · simp only [Bool.and_eq_true] at h; simpa [findL] using ih (l := l) h.2
end
end Go.Lv

/- Code of the small language stands for code of Go's: by induction on the fuel. -/
namespace Go.Lv
set_option linter.unusedVariables false
set_option linter.unusedSimpArgs false
set_option linter.unusedSectionVars false

section
variable {P : Program} {T : Tab} {ro : Nat → Bool} {nt : Nat} {vt : List Nat}

theorem loop_step {n : Nat} (A : CodeOk P T ro nt vt n) (B : LoopOk P T ro nt vt n) : LoopOk P T ro nt vt (n + 1) := by
  intro lo k body r c env env' H H' ex g w a hk h hp Q hQ
  simp only [exec, exStep] at h
  show c.wp P (Exit.then (Code.rounds P c Q n) Q) a w
  cases hb : exec T n lo body env H with
  | none => rw [hb] at h; simp at h
  | some q =>
    obtain ⟨ex1, env1, H1⟩ := q
    rw [hb] at h
    refine wp_mono (flat_sound c _ a w (A hk hb hp)) fun e a1 w1 h1 => ?_
    obtain ⟨g1, hp1, hv1⟩ := h1.pre hp.lo
    have he := h1.ex
    cases ex1 with
    | nrm =>
      cases e <;> simp only [ExRel] at he
      exact B hk h hp1 Q fun e a' w' hne h2 => hQ e a' w' hne (h2.back hv1)
    | _ =>
      simp only [Option.some.injEq, Prod.mk.injEq] at h
      obtain ⟨rfl, rfl, rfl⟩ := h
      cases e <;> simp only [ExRel] at he <;> exact hQ _ _ _ (by simp) h1

theorem then_back {ex : Ex} {env' : List DV} {H' : Heap} {g g1 : Gh} {H H1 : Heap} {w w1 : World} {q : List Code} (hv : Ev g H w g1 H1 w1) : ∀ (e : Exit) (a' : Act) (w' : World),
    Exit.then (wpL P (PostE nt vt ex env' H' g1 H1 w1) q) (PostE nt vt ex env' H' g1 H1 w1) e a' w' → Exit.then (wpL P (PostE nt vt ex env' H' g H w) q) (PostE nt vt ex env' H' g H w) e a' w' :=
  then_mono (fun a w h => wpL_mono (fun e a w h => h.back hv) q a w h) fun e a w _ h => h.back hv

theorem scope_step {n : Nat} (A : CodeOk P T ro nt vt n) (C : ScopeOk P T ro nt vt n) : ScopeOk P T ro nt vt (n + 1) := by
  intro lo k k2 k3 body rest r c rc q env env' H H' ex g w a hk hk2 hk3 h hp Q hQ
  simp only [exec, exStep] at h
  show rc.wp P _ a w
  cases hb : exec T n lo rest env H with
  | none => rw [hb] at h; simp at h
  | some q1 =>
    obtain ⟨ex1, env1, H1⟩ := q1
    rw [hb] at h
    refine wp_mono (flat_sound rc _ a w (A hk2 hb hp)) fun e a1 w1 h1 => ?_
    obtain ⟨g1, hp1, hv1⟩ := h1.pre hp.lo
    have he := h1.ex
    cases ex1 with
    | nrm =>
      cases e <;> simp only [ExRel] at he
      exact hQ _ _ _ (wpL_mono (fun e a w h => h.back hv1) q a1 w1 (A hk3 h hp1))
    | goto l =>
      cases e <;> simp only [ExRel] at he
      subst he
      simp only
      have hfl := findLabel_flat c l
      rcases findL_chk (l := l) hk with ⟨h2, h3⟩ | ⟨r', q', k', h2, h3, h4⟩
      · dsimp only at h
        rw [h2] at h
        rw [h3] at hfl
        simp only [Option.some.injEq, Prod.mk.injEq] at h
        obtain ⟨rfl, rfl, rfl⟩ := h
        have : findLabel c l = none := by simpa using hfl
        rw [this]
        exact hQ _ _ _ h1
      · dsimp only at h
        rw [h2] at h
        rw [h3] at hfl
        obtain ⟨rc', h5, h6⟩ := Option.map_eq_some_iff.1 hfl
        rw [h5]
        exact C hk (by rw [h6]; exact h4) hk3 h hp1 Q fun e a' w' h7 => hQ e a' w' (then_back hv1 e a' w' h7)
    | _ =>
      simp only [Option.some.injEq, Prod.mk.injEq] at h
      obtain ⟨rfl, rfl, rfl⟩ := h
      cases e <;> simp only [ExRel] at he <;> exact hQ _ _ _ h1

theorem code_step {n : Nat} (hm : P.follows .mixedOrders = true) (hvt : vt.Nodup) (hc : CallOk P (doCall T (exec T n)))
    (hro : ∀ {lo f : Nat} {args : List DV} {H H' : Heap} {v : DV}, ro f = true → doCall T (exec T n) lo f args H = some (v, H') → H' = H)
    (A : CodeOk P T ro nt vt n) (B1 : LoopOk P T ro nt vt (n + 1)) (C : ScopeOk P T ro nt vt n) : CodeOk P T ro nt vt (n + 1) := by
  intro lo k nodes codes env env' H H' ex g w a hk h hp
  -- what follows, behind a step
  have next : ∀ {k2 : Nat} {r : List INode} {q : List Code} {env1 : List DV} {H1 : Heap} {g1 : Gh} {w1 : World} {a1 : Act}, chkN P ro nt vt k2 r q = true → exec T n lo r env1 H1 = some (ex, env', H') → PreE nt vt lo env1 H1 g1 w1 a1 → Ev g H w g1 H1 w1 →
      wpL P (PostE nt vt ex env' H' g H w) q a1 w1 := fun {k2 r q env1 H1 g1 w1 a1} hk2 h2 hp1 hv1 => wpL_mono (fun e a w h => h.back hv1) q a1 w1 (A hk2 h2 hp1)
  -- a part that comes first
  have part : ∀ {k1 k2 : Nat} {x r : List INode} {c : Code} {q : List Code} {env1 env2 : List DV} {H1 H2 : Heap} {ex1 : Ex} {g1 : Gh} {w1 : World} {a1 : Act}, chkN P ro nt vt k1 x (flat c) = true → chkN P ro nt vt k2 r q = true → exec T n lo x env1 H1 = some (ex1, env2, H2) → PreE nt vt lo env1 H1 g1 w1 a1 → Ev g H w g1 H1 w1 →
      (ex1 = .nrm → exec T n lo r env2 H2 = some (ex, env', H')) → (ex1 ≠ .nrm → ex = ex1 ∧ env' = env2 ∧ H' = H2) → c.wp P (Exit.then (wpL P (PostE nt vt ex env' H' g H w) q) (PostE nt vt ex env' H' g H w)) a1 w1 := by
    intro k1 k2 x r c q env1 env2 H1 H2 ex1 g1 w1 a1 hk1 hk2 hx hp1 hv1 hn hnn
    refine wp_mono (flat_sound c _ a1 w1 (A hk1 hx hp1)) fun e a2 w2 h1 => ?_
    obtain ⟨g2, hp2, hv2⟩ := h1.pre hp1.lo
    have he := h1.ex
    by_cases e1 : ex1 = .nrm
    · subst e1
      cases e <;> simp only [ExRel] at he
      exact next hk2 (hn rfl) hp2 (hv1.trans hv2)
    · obtain ⟨rfl, rfl, rfl⟩ := hnn e1
      cases e with
      | normal => cases ex <;> simp only [ExRel] at he; exact absurd rfl e1
      | _ => exact h1.back hv1
  have regPre : ∀ {ops : Array Oper} {st : List IStep} {ts env1 : List DV} {H1 : Heap} {a1 : Act} {w1 : World} {g1 : Gh}, RegEnd vt ops.toList st g H w a ts env1 H1 a1 w1 g1 → PreE nt vt lo env1 H1 g1 w1 a1 := fun hE =>
    ⟨hE.rel, Nat.le_trans hp.lo hE.ev.len, hE.slots, by rw [hE.size]; exact hp.size, by rw [hE.defers]; exact hp.defers⟩
  cases k with
  | zero => simp [chkN] at hk
  | succ k =>
    simp only [exec, exStep] at h
    unfold chkN at hk
    split at hk
    · simp only [List.isEmpty_iff] at hk
      subst hk
      simp only [Option.some.injEq, Prod.mk.injEq] at h
      obtain ⟨rfl, rfl, rfl⟩ := h
      exact ⟨trivial, hp.defers, hp.size, g, hp.rel, Ev.refl hp.rel, hp.slots⟩
    · rename_i d st r
      split at hk
      · rename_i id ops d' q
        simp only [Bool.and_eq_true, beq_iff_eq] at hk
        obtain ⟨⟨rfl, hk1⟩, hk2⟩ := hk
        simp only at h
        split at h
        · rename_i ts env1 H1 hrun
          exact region_rule hc hro hm hk1 hvt hrun hp.rel hp.lo hp.slots hp.size fun a1 w1 g1 hE => next hk2 h (regPre hE) hE.ev
        · simp at h
      · simp at hk
    · rename_i d st c x y r
      simp only at h
      -- behind the region: the two arms
      have arms : ∀ {k1 k2 k3 : Nat} {x' y' : Code} {q : List Code} {c' : Operand} {ts env1 : List DV} {H1 : Heap} {g1 : Gh} {w1 : World} {a1 : Act}, chkN P ro nt vt k1 x (flat x') = true → chkN P ro nt vt k2 y (flat y') = true → chkN P ro nt vt k3 r q = true →
          (match opd env1 ts c with
            | .p (.bool t) => match exec T n lo (if t then x else y) env1 H1 with
              | some (.nrm, env'', h'') => exec T n lo r env'' h''
              | x => x
            | _ => none) = some (ex, env', H') → PreE nt vt lo env1 H1 g1 w1 a1 → Ev g H w g1 H1 w1 → DRel g1 H1 w1 (opd env1 ts c) (a1.eval c') →
          (Code.cond c' x' y').wp P (Exit.then (wpL P (PostE nt vt ex env' H' g H w) q) (PostE nt vt ex env' H' g H w)) a1 w1 := by
        intro k1 k2 k3 x' y' q c' ts env1 H1 g1 w1 a1 hx hy hq h2 hp1 hv1 hd
        split at h2
        · rename_i t ht
          rw [ht] at hd
          refine wp_cond hd.bool ?_
          cases hb : exec T n lo (if t then x else y) env1 H1 with
          | none => rw [hb] at h2; simp at h2
          | some q1 =>
            obtain ⟨ex1, env2, H2⟩ := q1
            rw [hb] at h2
            have hn : ex1 = .nrm → exec T n lo r env2 H2 = some (ex, env', H') := fun e => by subst e; exact h2
            have hnn : ex1 ≠ .nrm → ex = ex1 ∧ env' = env2 ∧ H' = H2 := fun e => by
              cases ex1 with
              | nrm => exact absurd rfl e
              | _ => simp only [Option.some.injEq, Prod.mk.injEq] at h2; exact ⟨h2.1.symm, h2.2.1.symm, h2.2.2.symm⟩
            cases t with
            | true => exact part hx hq hb hp1 hv1 hn hnn
            | false => exact part hy hq hb hp1 hv1 hn hnn
        · simp at h2
      split at hk
      · rename_i id ops d' q1
        split at hk
        · rename_i c' x' y' q
          simp only [Bool.and_eq_true, beq_iff_eq] at hk
          obtain ⟨⟨⟨⟨⟨rfl, hk1⟩, hk2⟩, hk3⟩, hk4⟩, hk5⟩ := hk
          split at h
          · rename_i ts env1 H1 hrun
            exact region_rule hc hro hm hk1 hvt hrun hp.rel hp.lo hp.slots hp.size fun a1 w1 g1 hE => arms hk3 hk4 hk5 h (regPre hE) hE.ev (hE.tmps.opd hk2)
          · simp at h
        · simp at hk
      · rename_i c' x' y' q
        simp only [Bool.and_eq_true, List.isEmpty_iff] at hk
        obtain ⟨⟨⟨⟨rfl, hk2⟩, hk3⟩, hk4⟩, hk5⟩ := hk
        have hrun : runOps (doCall T (exec T n)) lo d [] env H = some ([], env, H) := by
          simp only [runOps, steps, List.reverse_nil, chkWins, outs, Bool.or_true, if_true]
        rw [hrun] at h
        simp only at h
        have hst : St (vt.map some) [] g H w env [] a := ⟨fun k t hk => by
          simp only [List.getElem?_map, Option.map_eq_some_iff, Option.some.injEq] at hk
          obtain ⟨t', h1, rfl⟩ := hk
          exact hp.slots.get k _ h1, by rw [List.length_map]; exact hp.slots.len, fun k t hk => by simp at hk, rfl⟩
        exact arms hk3 hk4 hk5 h hp (Ev.refl hp.rel) (hst.opd hk2)
      · simp at hk
    · rename_i id b r
      split at hk
      · rename_i id' b' q
        simp only [Bool.and_eq_true, beq_iff_eq] at hk
        obtain ⟨⟨rfl, hk1⟩, hk2⟩ := hk
        simp only at h
        show (Code.block id b').wp P _ a w
        apply wp_block
        cases hb : exec T n lo b env H with
        | none => rw [hb] at h; simp at h
        | some q1 =>
          obtain ⟨ex1, env1, H1⟩ := q1
          rw [hb] at h
          refine wp_mono (flat_sound b' _ a w (A hk1 hb hp)) fun e a1 w1 h1 => ?_
          obtain ⟨g1, hp1, hv1⟩ := h1.pre hp.lo
          have he := h1.ex
          cases ex1 with
          | nrm =>
            cases e <;> simp only [ExRel] at he
            exact next hk2 h hp1 hv1
          | exit j =>
            cases e <;> simp only [ExRel] at he
            subst he
            simp only [Exit.inBlock]
            dsimp only at h
            split at h
            · rename_i e1
              rw [if_pos e1]
              exact next hk2 h hp1 hv1
            · rename_i e1
              rw [if_neg e1]
              simp only [Option.some.injEq, Prod.mk.injEq] at h
              obtain ⟨rfl, rfl, rfl⟩ := h
              exact h1
          | _ =>
            simp only [Option.some.injEq, Prod.mk.injEq] at h
            obtain ⟨rfl, rfl, rfl⟩ := h
            cases e <;> simp only [ExRel] at he <;> exact h1
      · simp at hk
    · rename_i b r
      split at hk
      · rename_i b' q
        simp only [Bool.and_eq_true] at hk
        exact wp_loop_rounds (n + 1) (B1 hk.1 (by simp only [exec, exStep]; exact h) hp _ fun e a' w' hne h1 => by cases e <;> first | exact absurd rfl hne | exact h1)
      · simp at hk
    · rename_i b r
      split at hk
      · rename_i b' q
        simp only [Bool.and_eq_true] at hk
        exact wp_scope_rounds (n := n) (C hk.1 hk.1 hk.2 h hp _ fun e a' w' h1 => h1)
      · simp at hk
    · simp at hk
    · split at hk
      · rename_i q
        simp only [Bool.and_eq_true, beq_iff_eq] at hk
        obtain ⟨rfl, hk2⟩ := hk
        simp only [Option.some.injEq, Prod.mk.injEq] at h
        obtain ⟨rfl, rfl, rfl⟩ := h
        exact wp_exit ⟨rfl, hp.defers, hp.size, g, hp.rel, Ev.refl hp.rel, hp.slots⟩
      · simp at hk
    · split at hk
      · rename_i q
        simp only [Bool.and_eq_true, beq_iff_eq] at hk
        obtain ⟨rfl, hk2⟩ := hk
        exact wp_label (next hk2 h hp (Ev.refl hp.rel))
      · simp at hk
    · split at hk
      · rename_i q
        simp only [Bool.and_eq_true, beq_iff_eq] at hk
        obtain ⟨rfl, hk2⟩ := hk
        simp only [Option.some.injEq, Prod.mk.injEq] at h
        obtain ⟨rfl, rfl, rfl⟩ := h
        exact wp_goto ⟨rfl, hp.defers, hp.size, g, hp.rel, Ev.refl hp.rel, hp.slots⟩
      · simp at hk
    · split at hk
      · simp only [Option.some.injEq, Prod.mk.injEq] at h
        obtain ⟨rfl, rfl, rfl⟩ := h
        exact wp_ret ⟨trivial, hp.defers, hp.size, g, hp.rel, Ev.refl hp.rel, hp.slots⟩
      · simp at hk
    · rename_i s r
      simp only [Bool.and_eq_true, decide_eq_true_eq] at hk
      simp only at h
      split at h
      · rename_i v H1 hf
        obtain ⟨dv, rv, h1, h2, h3⟩ := hp.slots.get s (vt[s]'hk.1) (by simp [hk.1])
        rw [getN_eq, h1] at hf
        simp only [Option.getD_some] at hf
        obtain ⟨g1, e1, e2, e3, _⟩ := freeze_rel 6 hp.rel h3 hf
        refine next hk.2 h ⟨e1, Nat.le_trans hp.lo e2.len, ⟨fun k t ht => ?_, by rw [setN_eq, List.length_set]; exact hp.slots.len⟩, hp.size, hp.defers⟩ e2
        obtain ⟨dk, rk, q1, q2, q3⟩ := hp.slots.get k t ht
        rw [setN_eq]
        by_cases e : s = k
        · subst e
          have ht' : vt[s]'hk.1 = t := by
            have := List.getElem?_eq_getElem hk.1
            rw [this] at ht; exact Option.some.inj ht
          rw [ht'] at h2
          refine ⟨.p v, rv, by rw [List.getElem?_set_self (by exact (List.getElem?_eq_some_iff.1 h1).1)], h2, .p _ _ e3⟩
        · exact ⟨dk, rk, by rw [List.getElem?_set_ne e]; exact q1, q2, q3.mono e2⟩
      · simp at h
end
end Go.Lv

/- Code of the small language stands for code of Go's: at every fuel. -/
namespace Go.Lv
set_option linter.unusedVariables false

theorem exec_ok {P : Program} {T : Tab} {ro : Nat → Bool} {nt : Nat} {vt : List Nat} (hm : P.follows .mixedOrders = true) (hvt : vt.Nodup)
    (hro : ∀ (n : Nat) {lo f : Nat} {args : List DV} {H H' : Heap} {v : DV}, ro f = true → doCall T (exec T n) lo f args H = some (v, H') → H' = H) :
    ∀ n : Nat, (∀ m, m < n → CallOk P (doCall T (exec T m))) → CodeOk P T ro nt vt n ∧ LoopOk P T ro nt vt n ∧ ScopeOk P T ro nt vt n := by
  intro n
  induction n with
  | zero =>
    intro _
    refine ⟨?_, ?_, ?_⟩
    · intro lo k nodes codes env env' H H' ex g w a _ h; simp [exec] at h
    · intro lo k body r c env env' H H' ex g w a _ h; simp [exec] at h
    · intro lo k k2 k3 body rest r c rc q env env' H H' ex g w a _ _ _ h; simp [exec] at h
  | succ n ih =>
    intro hc
    obtain ⟨A, B, C⟩ := ih fun m h => hc m (by omega)
    have B1 : LoopOk P T ro nt vt (n + 1) := loop_step A B
    exact ⟨code_step hm hvt (hc n (by omega)) (fun h h' => hro n h h') A B1 C, B1, scope_step A C⟩
end Go.Lv

/- Functions: their results, their bodies. -/
namespace Go.Lv
set_option linter.unusedVariables false
set_option linter.unusedSimpArgs false

def okRets (P : Program) (vt : List Nat) : List (Nat × Option (Bool × Nat)) → List ResultVar → Bool
  | [], [] => true
  | (s, none) :: r, .tmp t :: q => getN vt s == some t && okRets P vt r q
  | (s, some (ag, n)) :: r, .cell t ty :: q => getN vt s == some t && okTy P ty ag n && okRets P vt r q
  | _, _ => false

section
variable {P : Program} {vt : List Nat} {g : Gh} {H : Heap} {w : World} {env : List DV} {a : Act}

def resOf (tmps : Array Value) : ResultVar → Sem Value
  | .tmp t => pure (tmps.getD t Go.undef)
  | .cell a t => do loadVar t (← asAddr (tmps.getD a Go.undef))

theorem load_ptr {ag : Bool} {n : Nat} {x v : DV} {rx : Value} (h : DRel g H w x rx) (hv : loadDV H ag n x = some v) : ∃ A, rx = .pointer (some A) := by
  unfold loadDV at hv
  split at hv
  · cases h <;> exact ⟨_, rfl⟩
  · have := h.pure
    cases this
    exact ⟨_, rfl⟩
  · simp at hv

theorem rets_run (hr : Rel g H w) (hs : StE vt g H w env a) : ∀ {l : List (Nat × Option (Bool × Nat))} {q : List ResultVar} {vs : List DV}, okRets P vt l q = true → retVals H env l = some vs →
    ∃ rvs : List Value, (q.mapM (resOf a.tmps)).run P w = .ok rvs w ∧ vs.length = rvs.length ∧ ∀ (i : Nat) (c : DV) (v : Value), vs[i]? = some c → rvs[i]? = some v → DRel g H w c v
  | [], [], vs, _, h => by
    simp only [retVals, Option.some.injEq] at h; subst h
    exact ⟨[], by simp [List.mapM_nil], rfl, fun i c v h => by simp at h⟩
  | (s, none) :: r, .tmp t :: q, vs, hk, h => by
    simp only [okRets, Bool.and_eq_true, beq_iff_eq, getN_eq] at hk
    simp only [retVals, getN_eq] at h
    split at h
    · rename_i l hl
      obtain rfl := Option.some.inj h
      obtain ⟨rvs, h1, h2, h3⟩ := rets_run hr hs hk.2 hl
      obtain ⟨v, rv, h4, h5, h6⟩ := hs.get s t hk.1
      refine ⟨rv :: rvs, by simp [List.mapM_cons, resOf, h5, h1], by simp [h2], fun i c u hc hu => ?_⟩
      cases i with
      | zero => simp [h4] at hc hu; subst hc hu; exact h6
      | succ i => exact h3 i c u (by simpa using hc) (by simpa using hu)
    · simp at h
  | (s, some (ag, n)) :: r, .cell t ty :: q, vs, hk, h => by
    simp only [okRets, Bool.and_eq_true, beq_iff_eq, getN_eq] at hk
    simp only [retVals, getN_eq] at h
    split at h
    · rename_i v l hv hl
      obtain rfl := Option.some.inj h
      obtain ⟨rvs, h1, h2, h3⟩ := rets_run hr hs hk.2 hl
      obtain ⟨x, rx, h4, h5, h6⟩ := hs.get s t hk.1.1
      rw [h4] at hv
      simp only [Option.getD_some] at hv
      obtain ⟨rv, h7, h8⟩ := s_load (P := P) hk.1.2 hr h6 hv
      refine ⟨rv :: rvs, ?_, by simp [h2], fun i c u hc hu => ?_⟩
      · have : (resOf a.tmps (.cell t ty)).run P w = .ok rv w := by
          obtain ⟨A, rfl⟩ := load_ptr h6 hv
          have e : resOf a.tmps (.cell t ty) = Instr.loadAt ty (.pointer (some A)) := by simp [resOf, h5, Instr.loadAt, asAddr, Instr.sureAddr]
          rw [e]; exact h7
        simp [List.mapM_cons, this, h1]
      · cases i with
        | zero => simp at hc hu; subst hc hu; exact h8
        | succ i => exact h3 i c u (by simpa using hc) (by simpa using hu)
    · simp at h
  | [], _ :: _, _, h, _ => by simp [okRets] at h
  | (s, none) :: r, [], _, h, _ => by simp [okRets] at h
  | (s, some (ag, n)) :: r, [], _, h, _ => by simp [okRets] at h
  | (s, none) :: r, .cell _ _ :: _, _, h, _ => by simp [okRets] at h
  | (s, some (ag, n)) :: r, .tmp _ :: _, _, h, _ => by simp [okRets] at h

theorem one_rel {vs : List DV} {rvs : List Value} (hl : vs.length = rvs.length) (h : ∀ (i : Nat) (c : DV) (v : Value), vs[i]? = some c → rvs[i]? = some v → DRel g H w c v) :
    DRel g H w (one vs) (if h : rvs.toArray.size = 1 then rvs.toArray[0] else .tuple rvs.toArray) := by
  unfold one
  split
  · rename_i v
    match rvs, hl with
    | [rv], _ => exact h 0 v rv (by simp) (by simp)
  · rename_i l hne
    have : ¬ rvs.toArray.size = 1 := by
      intro e
      simp only [List.size_toArray] at e
      match vs, hl with
      | [], hl => simp at hl; omega
      | [v], _ => exact hne v rfl
      | _ :: _ :: _, hl => simp at hl; omega
    rw [dif_neg this]
    exact mkTup_rel (by simpa using hl) fun i c v hc hv => h i c v hc (by simpa using hv)
end
end Go.Lv

/- Functions: a body's call. -/
namespace Go.Lv
set_option linter.unusedVariables false
set_option linter.unusedSimpArgs false

/-- is a function the image of one of the program's? -/
def chkFunc (P : Program) (ro : Nat → Bool) (k : Nat) (f : IFunc) : Bool :=
  match P.funcs[rid k]? with
  | some F => (match F.body with
    | some c => chkN P ro F.ntmps f.vt 100000 f.body (flat c)
    | none => false) && okRets P f.vt f.rets F.results.toList && !(F.name == "runtime.NumGoroutine") && noDup f.vt && eqBytes (takeN f.np f.vt) (upto 0 f.np) && (dropN f.np f.vt).all (fun t => decide (f.np ≤ t) && decide (t < F.ntmps)) && decide (f.np ≤ f.vt.length)
  | none => false
where
  upto (i : Nat) : Nat → List Nat
    | 0 => []
    | n + 1 => i :: upto (i + 1) n

theorem upto_get : ∀ {n i k : Nat}, k < n → (chkFunc.upto i n)[k]? = some (i + k)
  | 0, i, k, h => by omega
  | n + 1, i, 0, _ => by simp [chkFunc.upto]
  | n + 1, i, k + 1, h => by
    simp only [chkFunc.upto, List.getElem?_cons_succ]
    rw [upto_get (by omega)]
    congr 1; omega

section
variable {P : Program} {T : Tab} {ro : Nat → Bool}

/-- A body's call, on a heap. -/
theorem body_calls {n k lo : Nat} {f : IFunc} {args rs : List DV} {rargs : Array Value} {g : Gh} {H H' : Heap} {w : World} (hA : ∀ nt vt, vt.Nodup → CodeOk P T ro nt vt n) (hk : chkFunc P ro k f = true) (hr : Rel g H w) (hlo : lo ≤ H.length)
    (hl : args.length = rargs.size) (hrel : ∀ (i : Nat) (c : DV) (v : Value), args[i]? = some c → rargs[i]? = some v → DRel g H w c v) (h : runBody (exec T n) f lo args H = some (rs, H')) :
    (∃ F, P.funcs[rid k]? = some F ∧ (F.name == "runtime.NumGoroutine") = false ∧ F.body.isSome = true) ∧
    Calls P (rid k) rargs w fun e w' => ∃ rvs : List Value, e = .returned (if h : rvs.toArray.size = 1 then rvs.toArray[0] else .tuple rvs.toArray) ∧ rs.length = rvs.length ∧
      ∃ g', Rel g' H' w' ∧ Ev g H w g' H' w' ∧ ∀ (i : Nat) (c : DV) (v : Value), rs[i]? = some c → rvs[i]? = some v → DRel g' H' w' c v := by
  unfold chkFunc at hk
  split at hk
  · rename_i F hF
    simp only [Bool.and_eq_true, Bool.not_eq_true', decide_eq_true_eq] at hk
    obtain ⟨⟨⟨⟨⟨⟨h1, h2⟩, h3⟩, h4⟩, h5⟩, h6⟩, h7⟩ := hk
    split at h1
    · rename_i c hc
      refine ⟨⟨F, hF, h3, by rw [hc]; rfl⟩, ?_⟩
      unfold runBody at h
      split at h
      · rename_i hnp
        have hvt := noDup_spec h4
        rw [eqBytes_eq, beq_iff_eq, takeN_eq] at h5
        rw [dropN_eq] at h6
        -- the frame at first
        let a0 : Act := { tmps := rargs ++ Array.replicate (F.ntmps - rargs.size) Go.undef, defers := [] }
        have hsz : F.ntmps ≤ a0.tmps.size := by simp only [a0, Array.size_append, Array.size_replicate]; omega
        have hst : StE f.vt g H w (args ++ rep (f.vt.length - f.np) (.p .undef)) a0 := by
          refine ⟨fun s t ht => ?_, by rw [List.length_append, rep_eq, List.length_replicate]; omega⟩
          have hs := (List.getElem?_eq_some_iff.1 ht).1
          rcases Nat.lt_or_ge s f.np with hlt | hge
          · have e1 : t = s := by
              have e2 : (f.vt.take f.np)[s]? = some t := by rw [List.getElem?_take, if_pos hlt]; exact ht
              rw [h5, upto_get hlt] at e2
              have := Option.some.inj e2; omega
            subst e1
            have ha : t < args.length := by omega
            have hra : t < rargs.size := by omega
            refine ⟨args[t], rargs[t], by rw [List.getElem?_append_left ha]; simp [ha], ?_, hrel t _ _ (by simp [ha]) (by simp [hra])⟩
            simp only [a0]; rw [Array.getElem?_append_left hra]; simp [hra]
          · have e2 : (f.vt.drop f.np)[s - f.np]? = some t := by rw [List.getElem?_drop, show f.np + (s - f.np) = s by omega]; exact ht
            have e3 := List.all_eq_true.1 h6 t (List.mem_of_getElem? e2)
            simp only [Bool.and_eq_true, decide_eq_true_eq] at e3
            refine ⟨.p .undef, Go.undef, ?_, ?_, .p _ _ .undef⟩
            · rw [List.getElem?_append_right (by omega), rep_eq, List.getElem?_replicate, if_pos (by omega)]
            · simp only [a0]
              rw [Array.getElem?_append_right (by omega), Array.getElem?_replicate, if_pos (by omega)]
        have fin : ∀ (ex : Ex) (env' : List DV), (ex = .nrm ∨ ex = .ret) → exec T n lo f.body (args ++ rep (f.vt.length - f.np) (.p .undef)) H = some (ex, env', H') → retVals H' env' f.rets = some rs →
            Calls P (rid k) rargs w fun e w' => ∃ rvs : List Value, e = .returned (if h : rvs.toArray.size = 1 then rvs.toArray[0] else .tuple rvs.toArray) ∧ rs.length = rvs.length ∧
              ∃ g', Rel g' H' w' ∧ Ev g H w g' H' w' ∧ ∀ (i : Nat) (c : DV) (v : Value), rs[i]? = some c → rvs[i]? = some v → DRel g' H' w' c v := by
          intro ex env' hex hrun hret
          refine calls_of_wp hF hc (flat_sound c _ a0 w (wpL_mono (fun e a' w' hp => ?_) (flat c) a0 w (hA F.ntmps f.vt hvt h1 hrun ⟨hr, hlo, hst, hsz, rfl⟩)))
          obtain ⟨g', e1, e2, e3⟩ := hp.rest
          obtain ⟨rvs, e4, e5, e6⟩ := rets_run e1 e3 h2 hret
          have key : a'.defers = [] ∧ ∃ v, (results F a'.tmps).run P w' = .ok v w' ∧ ∃ rvs : List Value, Ending.returned v = .returned (if h : rvs.toArray.size = 1 then rvs.toArray[0] else .tuple rvs.toArray) ∧ rs.length = rvs.length ∧
              ∃ g', Rel g' H' w' ∧ Ev g H w g' H' w' ∧ ∀ (i : Nat) (c : DV) (v : Value), rs[i]? = some c → rvs[i]? = some v → DRel g' H' w' c v := by
            refine ⟨hp.defers, _, ?_, rvs, rfl, e5, g', e1, e2, e6⟩
            have e7 : results F a'.tmps = (do let vs ← F.results.mapM (resOf a'.tmps); pure (if h : vs.size = 1 then vs[0] else .tuple vs)) := rfl
            rw [e7, Array.mapM_eq_mapM_toList]
            simp [e4]
          have he := hp.ex
          rcases hex with rfl | rfl
          · cases e <;> simp only [ExRel] at he
            exact key
          · cases e <;> simp only [ExRel] at he
            exact key
        split at h
        · rename_i env' H1 hrun
          split at h
          · rename_i l hl'
            simp only [Option.some.injEq, Prod.mk.injEq] at h
            obtain ⟨rfl, rfl⟩ := h
            exact fin .nrm env' (.inl rfl) hrun hl'
          · simp at h
        · rename_i env' H1 hrun
          split at h
          · rename_i l hl'
            simp only [Option.some.injEq, Prod.mk.injEq] at h
            obtain ⟨rfl, rfl⟩ := h
            exact fin .ret env' (.inr rfl) hrun hl'
          · simp at h
        · simp at h
      · simp at h
    · simp at h1
  · simp at hk
end
end Go.Lv

/- The interpreter is right: its calls stand for the program's. -/
namespace Go.Lv
set_option linter.unusedVariables false
set_option linter.unusedSimpArgs false

/-- What a function that is not interpreted does. -/
def PrimOk (P : Program) (k : Nat) (F : List PV → Option PV) : Prop :=
  ∀ {I : Nat → Nat → Prop} {w : World} {args : List PV} {rargs : Array Value} {v : PV}, (∀ R o, I R o → R < w.heap.size) → args.length = rargs.size →
    (∀ (i : Nat) (c : PV) (v : Value), args[i]? = some c → rargs[i]? = some v → PRel I w c v) → F args = some v →
    (∃ fn, P.funcs[rid k]? = some fn ∧ (fn.name == "runtime.NumGoroutine") = false ∧ fn.body.isSome = true) ∧
    Calls P (rid k) rargs w fun e w' => ∃ rv g', e = .returned rv ∧ Ev ⟨fun _ => none, I⟩ [] w g' [] w' ∧ (∀ R o, g'.I R o → R < w'.heap.size) ∧ PRel g'.I w' v rv

/-- What a function that is not interpreted, and looks at the heap, does. -/
def HPrimOk (P : Program) (k : Nat) (F : Heap → List DV → Option PV) : Prop :=
  ∀ {g : Gh} {H : Heap} {w : World} {args : List DV} {rargs : Array Value} {v : PV}, Rel g H w → args.length = rargs.size →
    (∀ (i : Nat) (c : DV) (v : Value), args[i]? = some c → rargs[i]? = some v → DRel g H w c v) → F H args = some v →
    (∃ fn, P.funcs[rid k]? = some fn ∧ (fn.name == "runtime.NumGoroutine") = false ∧ fn.body.isSome = true) ∧ Calls P (rid k) rargs w (Comes' g H w H (.p v))

structure TabOk (P : Program) (T : Tab) (ro : Nat → Bool) : Prop where
  mixed : P.follows .mixedOrders = true
  fn : ∀ k f, T.fn k = some f → chkFunc P ro k f = true
  prim : ∀ k F, T.prim k = some F → PrimOk P k F
  hprim : ∀ k F, T.hprim k = some F → HPrimOk P k F
  ro : ∀ k, ro k = true → T.hprim k ≠ none ∨ T.prim k ≠ none ∨ ∃ f, T.fn k = some f ∧ f.mode = .pure

theorem TabOk.reads {P : Program} {T : Tab} {ro : Nat → Bool} (hT : TabOk P T ro) {run : Run} {lo f : Nat} {args : List DV} {H H' : Heap} {v : DV} (hro : ro f = true) (h : doCall T run lo f args H = some (v, H')) : H' = H := by
  unfold doCall at h
  split at h
  · exact (okP_some h).choose_spec.2.2
  rename_i hhp
  unfold doCall1 at h
  split at h
  · split at h
    · exact (okP_some h).choose_spec.2.2
    · simp at h
  · rename_i hp
    rcases hT.ro f hro with h1 | h1 | ⟨fn, h1, h2⟩
    · exact absurd hhp h1
    · exact absurd hp h1
    · rw [h1] at h
      simp only [h2] at h
      split at h
      · split at h
        · split at h
          · simp only [Option.some.injEq, Prod.mk.injEq] at h; exact h.2.symm
          · simp at h
        · simp at h
      · simp at h

theorem frzList_rel : ∀ {cs l : List DV} {n : Nat} {g : Gh} {H H' : Heap} {w : World} {vs : List Value}, Rel g H w → cs.length = vs.length → (∀ (i : Nat) (c : DV) (v : Value), cs[i]? = some c → vs[i]? = some v → DRel g H w c v) →
    doCall1.frzList n H cs = some (l, H') → ∃ g', Rel g' H' w ∧ Ev g H w g' H' w ∧ l.length = vs.length ∧ ∀ (i : Nat) (c : DV) (v : Value), l[i]? = some c → vs[i]? = some v → DRel g' H' w c v
  | [], l, n, g, H, H', w, vs, hr, hl, hrel, h => by
    simp only [doCall1.frzList, Option.some.injEq, Prod.mk.injEq] at h
    obtain ⟨rfl, rfl⟩ := h
    exact ⟨g, hr, Ev.refl hr, hl, fun i c v h => by simp at h⟩
  | c :: r, l, n, g, H, H', w, [], hr, hl, _, _ => by simp at hl
  | c :: r, l, n, g, H, H', w, v :: vs, hr, hl, hrel, h => by
    have keep : ∀ {l' : List DV} {H1 : Heap}, doCall1.frzList n H r = some (l', H1) → ∃ g', Rel g' H1 w ∧ Ev g H w g' H1 w ∧ (c :: l').length = (v :: vs).length ∧ ∀ (i : Nat) (c' : DV) (v' : Value), (c :: l')[i]? = some c' → (v :: vs)[i]? = some v' → DRel g' H1 w c' v' := fun {l' H1} hr' => by
      obtain ⟨g', h1, h2, h3, h4⟩ := frzList_rel (vs := vs) hr (by simpa using hl) (fun i c' v' hc hv => hrel (i + 1) c' v' (by simpa using hc) (by simpa using hv)) hr'
      refine ⟨g', h1, h2, by simp [h3], fun i c' v' hc hv => ?_⟩
      cases i with
      | zero => simp at hc hv; subst hc hv; exact (hrel 0 c v (by simp) (by simp)).mono h2
      | succ i => exact h4 i c' v' (by simpa using hc) (by simpa using hv)
    simp only [doCall1.frzList] at h
    split at h
    · split at h
      · rename_i l' H1 hl'
        simp only [Option.some.injEq, Prod.mk.injEq] at h
        obtain ⟨rfl, rfl⟩ := h
        exact keep hl'
      · simp at h
    · split at h
      · rename_i x H1 hx
        split at h
        · rename_i l' H2 hl'
          simp only [Option.some.injEq, Prod.mk.injEq] at h
          obtain ⟨rfl, rfl⟩ := h
          obtain ⟨g1, e1, e2, e3, _⟩ := freeze_rel n hr (hrel 0 c v (by simp) (by simp)) hx
          obtain ⟨g2, e4, e5, e6, e7⟩ := frzList_rel (vs := vs) e1 (by simpa using hl) (fun i c' v' hc hv => (hrel (i + 1) c' v' (by simpa using hc) (by simpa using hv)).mono e2) hl'
          refine ⟨g2, e4, e2.trans e5, by simp [e6], fun i c' v' hc hv => ?_⟩
          cases i with
          | zero => simp at hc hv; subst hc hv; exact .p _ _ (e3.mono e5.keeps)
          | succ i => exact e7 i c' v' (by simpa using hc) (by simpa using hv)
        · simp at h
      · split at h
        · rename_i l' H1 hl'
          simp only [Option.some.injEq, Prod.mk.injEq] at h
          obtain ⟨rfl, rfl⟩ := h
          exact keep hl'
        · simp at h

end Go.Lv

/- The interpreter is right: its calls stand for the program's; each way of calling. -/
namespace Go.Lv
set_option linter.unusedVariables false
set_option linter.unusedSimpArgs false

theorem oneP_rel {I : Nat → Nat → Prop} {w : World} {vs : List PV} {rvs : List Value} (hl : vs.length = rvs.length) (h : ∀ (i : Nat) (c : PV) (v : Value), vs[i]? = some c → rvs[i]? = some v → PRel I w c v) :
    PRel I w (oneP vs) (if h : rvs.toArray.size = 1 then rvs.toArray[0] else .tuple rvs.toArray) := by
  unfold oneP
  split
  · rename_i v
    match rvs, hl with
    | [rv], _ => exact h 0 v rv (by simp) (by simp)
  · rename_i l hne
    have : ¬ rvs.toArray.size = 1 := by
      intro e
      simp only [List.size_toArray] at e
      match vs, hl with
      | [], hl => simp at hl; omega
      | [v], _ => exact hne v rfl
      | _ :: _ :: _, hl => simp at hl; omega
    rw [dif_neg this]
    exact .tup vs _ (by simpa using hl) fun i c v hc hv => h i c v hc (by simpa using hv)

section
variable {P : Program} {T : Tab} {ro : Nat → Bool}

theorem snaps_args {g : Gh} {H : Heap} {w : World} {args : List DV} {rargs : Array Value} {l : List PV} (hr : Rel g H w) (hl : args.length = rargs.size)
    (hrel : ∀ (i : Nat) (c : DV) (v : Value), args[i]? = some c → rargs[i]? = some v → DRel g H w c v) (h : snaps H args = some l) :
    l.length = rargs.size ∧ ∀ (i : Nat) (c : PV) (v : Value), l[i]? = some c → rargs[i]? = some v → PRel g.I w c v := by
  obtain ⟨h1, h2⟩ := snaps_rel hr h
  refine ⟨by rw [h1, hl], fun i c v hc hv => ?_⟩
  obtain ⟨d, h3, h4⟩ := h2 i c hc
  exact snap_rel hr (hrel i d v h3 hv) h4

/-- a slice that was made in an empty heap is the caller's -/
theorem own_res {g g1 : Gh} {H H1 : Heap} {w w' : World} {b len z : Nat} {gr ag : Bool} {els : List (List DV)} {rv : Value} (hr : Rel g H w) (h1 : Rel g1 H1 w') (hv : Ev g.none [] w g1 H1 w') (hd : DRel g1 H1 w' (.msl b 0 len) rv)
    (hb : H1[b]? = some (.vec gr ag z els)) (hl : els.length = len) (hp : allPures els = true) : Post g H w (H ++ [.vec gr ag z els]) (.msl H.length 0 len) rv w' := by
  obtain ⟨R, hφ, hR, e0, e1, e2, e3⟩ := h1.blk b _ hb trivial
  have hge : w.heap.size ≤ R := (hv.newφ b _ R hb trivial hφ).resolve_right fun h => h fun b k hb => by simp at hb
  obtain ⟨h2, h3⟩ := outer hr hv h1.low
  have hfree : Free ⟨g.φ, g1.I⟩ H R := fun b' k' hb' ha' hφ' => by
    obtain ⟨R', h4, h5, _⟩ := hr.blk b' k' hb' ha'
    have h6 : g.φ b' = some R := hφ'
    rw [h4] at h6; have := Option.some.inj h6; omega
  refine ⟨_, own_blk (k := .vec gr ag z els) h2 hfree hR ⟨e0, e1, fun i e k d hi hk => ?_, e3⟩, ev_own h3 hge, ?_⟩
  · obtain ⟨v, h4, h5⟩ := e2 i e k d hi hk
    obtain ⟨x, rfl⟩ := allPure_mem (allPures_mem hp e (List.mem_of_getElem? hi)) d (List.mem_of_getElem? hk)
    exact ⟨v, h4, .p _ _ h5.pure⟩
  · cases hd with
    | dmsl b off len cap A h => rw [hb] at h; simp at h
    | fmsl b off len cap R' z' ag' els' hH hφ' hbd hcap hc =>
      rw [hb] at hH
      simp only [Option.some.injEq, Blk.vec.injEq] at hH
      obtain ⟨rfl, rfl, rfl, rfl⟩ := hH
      rw [hφ] at hφ'; obtain rfl := Option.some.inj hφ'
      exact .fmsl _ 0 len cap R z ag els (look_last _) (by simp [Gh.own]) hbd hcap hc
    | gmsl b off len cap R' z' A ag' els' hH hφ' hs hbd hcap hc hf =>
      rw [hb] at hH
      simp only [Option.some.injEq, Blk.vec.injEq] at hH
      obtain ⟨rfl, rfl, rfl, rfl⟩ := hH
      rw [hφ] at hφ'; obtain rfl := Option.some.inj hφ'
      exact .gmsl _ 0 len cap R z A ag els (look_last _) (by simp [Gh.own]) hs hbd hcap hc hf

theorem call_ok (hT : TabOk P T ro) {n : Nat} (hA : ∀ nt vt, vt.Nodup → CodeOk P T ro nt vt n) : CallOk P (doCall T (exec T n)) := by
  intro g H H' w lo f args v rargs hr hlo hl hrel h
  unfold doCall at h
  split at h
  · rename_i F hF
    obtain ⟨u, h1, rfl, rfl⟩ := okP_some h
    exact hT.hprim f F hF hr hl hrel h1
  unfold doCall1 at h
  split at h
  · rename_i F hF
    split at h
    · rename_i l hs
      obtain ⟨u, h1, rfl, rfl⟩ := okP_some h
      obtain ⟨h2, h3⟩ := snaps_args hr hl hrel hs
      obtain ⟨hf, hc⟩ := hT.prim f F hF hr.low h2 h3 h1
      refine ⟨hf, Calls.mono hc fun e w' he => ?_⟩
      obtain ⟨rv, g', rfl, h4, h5, h6⟩ := he
      obtain ⟨h7, h8⟩ := outer hr h4 h5
      exact ⟨_, h7, h8, .p _ _ h6⟩
    · simp at h
  · split at h
    · simp at h
    · rename_i fn hfn
      have hk := hT.fn f fn hfn
      split at h
      · -- as a function of pure values
        split at h
        · rename_i l hs
          split at h
          · rename_i rs H1 hb
            split at h
            · rename_i vs H2 hfz
              simp only [Option.some.injEq, Prod.mk.injEq] at h
              obtain ⟨rfl, rfl⟩ := h
              obtain ⟨h2, h3⟩ := snaps_args hr hl hrel hs
              obtain ⟨hf, hc⟩ := body_calls hA hk hr.none (Nat.le_refl 0) (by rw [List.length_map]; exact h2) (fun i c v hc hv => by
                simp only [List.getElem?_map, Option.map_eq_some_iff] at hc
                obtain ⟨c', h4, rfl⟩ := hc
                exact .p _ _ (h3 i c' v h4 hv)) hb
              refine ⟨hf, Calls.mono hc fun e w' he => ?_⟩
              obtain ⟨rvs, rfl, h4, g1, h5, h6, h7⟩ := he
              obtain ⟨g2, h8, h9, h10, h11, _⟩ := frzs_rel (freeze_rel 6) h5 h4 h7 hfz
              obtain ⟨h12, h13⟩ := outer hr (h6.trans h9) h8.low
              exact ⟨_, h12, h13, .p _ _ (oneP_rel h10 h11)⟩
            · simp at h
          · simp at h
        · simp at h
      · -- likewise, its slice is the caller's
        split at h
        · rename_i l hs
          obtain ⟨h2, h3⟩ := snaps_args hr hl hrel hs
          have hargs : ∀ (i : Nat) (c : DV) (v : Value), (l.map DV.p)[i]? = some c → rargs[i]? = some v → DRel g.none [] w c v := fun i c v hc hv => by
            simp only [List.getElem?_map, Option.map_eq_some_iff] at hc
            obtain ⟨c', h4, rfl⟩ := hc
            exact .p _ _ (h3 i c' v h4 hv)
          split at h
          · rename_i b len H1 hb
            rw [getN_eq] at h
            split at h
            · rename_i gr ag z els hbk
              split at h
              · rename_i hcond
                simp only [Option.some.injEq, Prod.mk.injEq] at h
                obtain ⟨rfl, rfl⟩ := h
                obtain ⟨hf, hc⟩ := body_calls hA hk hr.none (Nat.le_refl 0) (by rw [List.length_map]; exact h2) hargs hb
                refine ⟨hf, Calls.mono hc fun e w' he => ?_⟩
                obtain ⟨rvs, rfl, h4, g1, h5, h6, h7⟩ := he
                match rvs, h4 with
                | [rv], _ => exact own_res hr h5 h6 (h7 0 _ rv (by simp) (by simp)) hbk hcond.1 hcond.2
              · simp at h
            · simp at h
          · rename_i H1 hb
            simp only [Option.some.injEq, Prod.mk.injEq] at h
            obtain ⟨rfl, rfl⟩ := h
            obtain ⟨hf, hc⟩ := body_calls hA hk hr.none (Nat.le_refl 0) (by rw [List.length_map]; exact h2) hargs hb
            refine ⟨hf, Calls.mono hc fun e w' he => ?_⟩
            obtain ⟨rvs, rfl, h4, g1, h5, h6, h7⟩ := he
            obtain ⟨h12, h13⟩ := outer hr h6 h5.low
            match rvs, h4 with
            | [rv], _ => exact ⟨_, h12, h13, .p _ _ (h7 0 _ rv (by simp) (by simp)).pure⟩
          · simp at h
        · simp at h
      · -- on the heap; what is new is let go of
        split at h
        · rename_i rs H1 hb
          split at h
          · rename_i vs H2 hfz
            split at h
            · rename_i hbl
              simp only [Option.some.injEq, Prod.mk.injEq, takeN_eq] at h
              obtain ⟨rfl, rfl⟩ := h
              obtain ⟨hf, hc⟩ := body_calls hA hk hr (Nat.le_refl _) hl hrel hb
              refine ⟨hf, Calls.mono hc fun e w' he => ?_⟩
              obtain ⟨rvs, rfl, h4, g1, h5, h6, h7⟩ := he
              obtain ⟨g2, h8, h9, h10, h11⟩ := frzList_rel h5 h4 h7 hfz
              have hlo2 : LoInv H.length H2 := ((runBody_lo (exec_lo T n) hb).trans (frzList_lo hfz)).2 (Nat.le_refl _) _ (Nat.le_refl _) hr.lo
              exact ⟨g2, h8.take hlo2, (h6.trans h9).take (Nat.le_refl _), one_rel h10 fun i c v hc hv => (h11 i c v hc hv).take (below_all hbl i c hc)⟩
            · simp at h
          · simp at h
        · simp at h
      · -- on the heap
        split at h
        · rename_i rs H1 hb
          simp only [Option.some.injEq, Prod.mk.injEq] at h
          obtain ⟨rfl, rfl⟩ := h
          obtain ⟨hf, hc⟩ := body_calls hA hk hr hlo hl hrel hb
          refine ⟨hf, Calls.mono hc fun e w' he => ?_⟩
          obtain ⟨rvs, rfl, h4, g1, h5, h6, h7⟩ := he
          exact ⟨g1, h5, h6, one_rel h4 h7⟩
        · simp at h

/-- The interpreter is right. -/
theorem callN_ok (hT : TabOk P T ro) : ∀ n : Nat, CallOk P (callN T n) := by
  intro n
  induction n using Nat.strongRecOn with
  | _ n ih => exact call_ok hT fun nt vt hvt => (exec_ok hT.mixed hvt (fun m {_ _ _ _ _ _} h h' => hT.reads h h') n fun m hm => ih m hm).1
end
end Go.Lv
