/- The small language and its interpreter, part 1. -/
import Derived.Test.YtdfhfgepbigljaaGreatLvM0
import Derived.Laws.BytesString
import Derived.Laws.StructEq
import Derived.Laws.RangeString
/- Operations, one by one: maps. -/
namespace Go.Lv
set_option linter.unusedVariables false
set_option linter.unusedSimpArgs false
variable {P : Program} {g : Gh} {H : Heap} {w : World}

/-- a map's kind of keys -/
def KeyTy (P : Program) (k : TypeId) (ks : Bool) : Prop := if ks then P.underlying k = some .string else ∃ q, P.underlying k = some (.int q)

theorem str_beq (a b : ByteArray) : (a == b) = eqBytes (a.data.toList.map UInt8.toNat) (b.data.toList.map UInt8.toNat) := by
  rw [← toNat_beq]
  have h1 : (a == b) = (a.data == b.data) := by cases a; cases b; rfl
  rw [h1, Bool.eq_iff_iff]
  simp

theorem str_eq_of {a b : ByteArray} (h : (a == b) = true) : a = b := by
  have h1 : (a == b) = (a.data == b.data) := by cases a; cases b; rfl
  rw [h1] at h
  have : a.data = b.data := by simpa using h
  cases a; cases b; simp_all
theorem str_beq_self (a : ByteArray) : (a == a) = true := by
  have h1 : (a == a) = (a.data == a.data) := by cases a; rfl
  rw [h1]; simp

theorem same_key {I : Nat → Nat → Prop} {k : TypeId} {ks : Bool} {x y : PV} {rx ry : Value} {r : Bool} {d : TypeDesc} (hk : KeyTy P k ks) (hd : P.underlying k = some d) (hx : isKey ks x = true) (h1 : PRel I w x rx) (h2 : PRel I w y ry)
    (h : eqScal x y = some r) : Instr.sameNow d rx ry = some r ∧ (r = true → x = y ∧ Instr.sameBits 10000 ry rx = true) := by
  cases x <;> simp only [isKey] at hx <;> first
    | (simp at hx; done)
    | skip
  · rename_i q n
    have hks : ks = false := by cases ks <;> simp_all
    subst hks
    obtain ⟨q', hq⟩ := hk
    rw [hd] at hq; obtain rfl := Option.some.inj hq
    obtain rfl := h1.int_inv
    cases y <;> simp only [eqScal] at h <;> first
      | (simp at h; done)
      | skip
    rename_i q2 n2
    obtain rfl := h2.int_inv
    split at h
    · rename_i e; subst e
      obtain rfl := Option.some.inj h
      refine ⟨by simp [Instr.sameNow], fun hr => ?_⟩
      have : n = n2 := by simpa using hr
      subst this
      exact ⟨rfl, by simp [Instr.sameBits]⟩
    · simp at h
  · rename_i l
    subst hx
    have hs : P.underlying k = some .string := hk
    rw [hd] at hs; obtain rfl := Option.some.inj hs
    obtain ⟨s, rfl, rfl⟩ := h1.str_inv
    cases y <;> simp only [eqScal] at h <;> first
      | (simp at h; done)
      | skip
    obtain ⟨s2, rfl, rfl⟩ := h2.str_inv
    obtain rfl := Option.some.inj h
    refine ⟨by simp only [Instr.sameNow, str_beq], fun hr => ?_⟩
    have h3 : s = s2 := by rw [← str_beq] at hr; exact str_eq_of hr
    subst h3
    exact ⟨rfl, by simp [Instr.sameBits, str_beq_self]⟩

theorem find_rel {I : Nat → Nat → Prop} {k : TypeId} {ks : Bool} {x : PV} {rx : Value} {d : TypeDesc} (hk : KeyTy P k ks) (hd : P.underlying k = some d) (hx : isKey ks x = true) (h1 : PRel I w x rx) :
    ∀ (es : List (PV × DV)) (ents : List MapEntry) (i : Nat) (r : Option DV), es.length = ents.length → (∀ (j : Nat) (e : PV × DV) (m : MapEntry), es[j]? = some e → ents[j]? = some m → PRel I w e.1 m.key) → findE es x = some r →
      (r = none ∧ Instr.findNow d rx ents i = some none ∧ ∀ v, putE es x v = some (es ++ [(x, v)])) ∨
      (∃ j e m, es[j]? = some e ∧ ents[j]? = some m ∧ r = some e.2 ∧ Instr.findNow d rx ents i = some (some (i + j, m.val)) ∧ x = e.1 ∧ Instr.sameBits 10000 m.key rx = true ∧
        ∀ v, putE es x v = some (es.set j (x, v)))
  | [], [], i, r, _, _, h => by
    simp only [findE, Option.some.injEq] at h; subst h
    exact .inl ⟨rfl, rfl, fun v => rfl⟩
  | [], _ :: _, _, _, hl, _, _ => by simp at hl
  | _ :: _, [], _, _, hl, _, _ => by simp at hl
  | (y, u) :: es, m :: ents, i, r, hl, hrel, h => by
    simp only [findE] at h
    split at h
    · rename_i he
      obtain rfl := Option.some.inj h
      obtain ⟨h2, h3⟩ := same_key hk hd hx h1 (hrel 0 (y, u) m rfl rfl) he
      obtain ⟨rfl, h4⟩ := h3 rfl
      exact .inr ⟨0, (x, u), m, rfl, rfl, rfl, by simp [Instr.findNow, h2], rfl, h4, fun v => by simp [putE, he]⟩
    · rename_i he
      obtain ⟨h2, _⟩ := same_key hk hd hx h1 (hrel 0 (y, u) m rfl rfl) he
      rcases find_rel hk hd hx h1 es ents (i + 1) r (by simpa using hl) (fun j e m' h3 h4 => hrel (j + 1) e m' (by simpa using h3) (by simpa using h4)) h with ⟨h3, h4, h5⟩ | ⟨j, e, m', h3, h4, h5, h6, h7, h8, h9⟩
      · exact .inl ⟨h3, by simp [Instr.findNow, h2, h4], fun v => by simp [putE, he, h5]⟩
      · exact .inr ⟨j + 1, e, m', by simpa using h3, by simpa using h4, h5, by simp [Instr.findNow, h2, h6]; omega, h7, h8, fun v => by simp [putE, he, h9]⟩
    · simp at h

theorem findP_E : ∀ (es : List (PV × PV)) (x : PV), findE (es.map fun p => (p.1, DV.p p.2)) x = (findP es x).map (·.map .p)
  | [], x => rfl
  | (y, v) :: es, x => by
    simp only [List.map_cons, findE, findP]
    split
    · rename_i h; simp [h]
    · rename_i h; simp [h, findP_E es x]
    · rename_i h; simp [h]

theorem r_checkKey {k : TypeId} {ks : Bool} {b : Bool} {v : Value} (hk : KeyTy P k ks) : (Instr.checkKey b 10000 k v).run P w = .ok () w := by
  unfold KeyTy at hk
  cases ks with
  | true => simp only [if_true] at hk; unfold Instr.checkKey; simp [r_under hk]
  | false =>
    simp only [Bool.false_eq_true, if_false] at hk
    obtain ⟨q, hq⟩ := hk
    unfold Instr.checkKey; simp [r_under hq]

theorem key_under {k : TypeId} {ks : Bool} (hk : KeyTy P k ks) : ∃ d, P.underlying k = some d := by
  unfold KeyTy at hk
  cases ks with
  | true => exact ⟨_, by simpa using hk⟩
  | false => simp only [Bool.false_eq_true, if_false] at hk; obtain ⟨q, hq⟩ := hk; exact ⟨_, hq⟩

/-- what a lookup leaves -/
theorem r_lookup {t k e : TypeId} {ks ok : Bool} {x : PV} {rx rm : Value} {es : List (PV × DV)} {ents : Array MapEntry} {i : TypeInfo} {z : PV} {zv : Value} {r : Option DV} (ht : P.underlying t = some (.map k e))
    (hk : KeyTy P k ks) (hx : isKey ks x = true) (h1 : PRel g.I w x rx) (hl : es.length = ents.size) (hi : P.info? e = some i) (hz : i.zero = some zv) (hzr : DRel g H w (.p z) zv)
    (hrel : ∀ (j : Nat) (e : PV × DV) (m : MapEntry), es[j]? = some e → ents[j]? = some m → PRel g.I w e.1 m.key ∧ DRel g H w e.2 m.val)
    (hm : (rm = .map none ∧ ents = #[]) ∨ ∃ R clock, rm = .map (some R) ∧ w.heap[R]? = some (.map ents clock)) (h : findE es x = some r) :
    ∃ rv, (Instr.lookup t rm rx ok).run P w = .ok rv w ∧ DRel g H w (if ok then mkTup [r.getD (.p z), .p (.bool r.isSome)] else r.getD (.p z)) rv := by
  obtain ⟨d, hd⟩ := key_under hk
  have hfind := find_rel (P := P) hk hd hx h1 es ents.toList 0 r (by simpa using hl) (fun j e m a b => (hrel j e m a (by simpa using b)).1) h
  have hsub : ∀ u, Instr.findNow d rx ents.toList 0 = some u → (Instr.findKey k rx ents.toList).run P w = .ok u w := fun u hu => by
    simp [Instr.findKey, r_under hd, hu]
  have body : ∃ (v : Value) (b : Bool), DRel g H w (r.getD (.p z)) v ∧ b = r.isSome ∧
      (Instr.lookup t rm rx ok).run P w = .ok (if ok then .tuple #[v, .bool b] else v) w := by
    rcases hfind with ⟨rfl, h2, _⟩ | ⟨j, e', m, h2, h3, rfl, h4, _⟩
    · refine ⟨zv, false, hzr, rfl, ?_⟩
      have := hsub none h2
      rcases hm with ⟨rfl, rfl⟩ | ⟨R, clock, rfl, hw⟩
      · simp [Instr.lookup, r_under ht, r_checkKey hk, this, r_zero hi hz]
      · have hg : (getObj R).run P w = .ok (.map ents clock) w := by simp [getObj, Sem.run, hw]
        simp [Instr.lookup, r_under ht, r_checkKey hk, this, r_zero hi hz, hg]
    · refine ⟨m.val, true, (hrel j e' m h2 (by simpa using h3)).2, rfl, ?_⟩
      have := hsub _ h4
      rcases hm with ⟨rfl, rfl⟩ | ⟨R, clock, rfl, hw⟩
      · simp at h3
      · have hg : (getObj R).run P w = .ok (.map ents clock) w := by simp [getObj, Sem.run, hw]
        simp [Instr.lookup, r_under ht, r_checkKey hk, this, hg]
  obtain ⟨v, b, h2, rfl, h3⟩ := body
  refine ⟨_, h3, ?_⟩
  cases ok with
  | true =>
    simp only [if_true]
    refine mkTup_rel (by simp) fun i c v' hc hv => ?_
    match i, hc, hv with
    | 0, hc, hv => simp at hc hv; subst hc hv; exact h2
    | 1, hc, hv => simp at hc hv; subst hc hv; exact .p _ _ (.bool _)
    | i + 2, hc, hv => simp at hc
  | false => exact h2

theorem s_lookup {t k e : TypeId} {ks ok : Bool} {x : PV} {m : DV} {rx rm : Value} {i : TypeInfo} {z : PV} {zv : Value} {r : Option DV} (hr : Rel g H w) (ht : P.underlying t = some (.map k e))
    (hk : KeyTy P k ks) (hx : isKey ks x = true) (h1 : PRel g.I w x rx) (hi : P.info? e = some i) (hz : i.zero = some zv) (hzr : PRel g.I w z zv) (hm : DRel g H w m rm)
    (h : (m = .p .nilm ∧ r = none) ∨ (∃ es r', m = .p (.pmap es) ∧ findP es x = some r' ∧ r = r'.map .p) ∨ (∃ b es, m = .map b ∧ H[b]? = some (.mp es) ∧ findE es x = some r)) :
    ∃ rv, (Instr.lookup t rm rx ok).run P w = .ok rv w ∧ DRel g H w (if ok then mkTup [r.getD (.p z), .p (.bool r.isSome)] else r.getD (.p z)) rv := by
  rcases h with ⟨rfl, rfl⟩ | ⟨es, r', rfl, h2, rfl⟩ | ⟨b, es, rfl, hb, h2⟩
  · have := hm.pure; cases this
    exact r_lookup (es := []) (ents := #[]) ht hk hx h1 rfl hi hz (.p _ _ hzr) (fun j e m h => by simp at h) (.inl ⟨rfl, rfl⟩) rfl
  · have := hm.pure
    cases this with
    | pmap es R ents clock hI hw hl hk' hv hb hd =>
      refine r_lookup (es := es.map fun p => (p.1, DV.p p.2)) (ents := ents) ht hk hx h1 (by simpa using hl) hi hz (.p _ _ hzr) (fun j e m h3 h4 => ?_) (.inr ⟨R, clock, rfl, hw⟩) (by rw [findP_E, h2]; rfl)
      simp only [List.getElem?_map, Option.map_eq_some_iff] at h3
      obtain ⟨p, h5, rfl⟩ := h3
      exact ⟨hk' j p m h5 h4, .p _ _ (hv j p m h5 h4)⟩
  · cases hm with
    | dmap b R h => rw [hb] at h; simp at h
    | map b R es' hH hφ =>
      rw [hb] at hH; obtain rfl := Blk.mp.inj (Option.some.inj hH)
      obtain ⟨R', h3, h4, ⟨ents, clock, hw, hl, hrel, _⟩, _⟩ := hr.blk b _ hb trivial
      rw [hφ] at h3; obtain rfl := Option.some.inj h3
      exact r_lookup ht hk hx h1 hl hi hz (.p _ _ hzr) hrel (.inr ⟨R, clock, rfl, hw⟩) h2

theorem s_mapUpd {t k e : TypeId} {ks : Bool} {x : PV} {b : Nat} {v : DV} {rx rm rv : Value} {es l : List (PV × DV)} (hr : Rel g H w) (ht : P.underlying t = some (.map k e)) (hk : KeyTy P k ks) (hx : isKey ks x = true)
    (h1 : PRel g.I w x rx) (hm : DRel g H w (.map b) rm) (hv : DRel g H w v rv) (hb : H[b]? = some (.mp es)) (hp : putE es x v = some l) :
    ∃ w', (Instr.mapUpdate t rm rx rv).run P w = .ok () w' ∧ ∃ g', Rel g' (H.set b (.mp l)) w' ∧ Ev g H w g' (H.set b (.mp l)) w' := by
  obtain ⟨d, hd⟩ := key_under hk
  cases hm with
  | dmap b R h => rw [hb] at h; simp at h
  | map b R es' hH hφ =>
    rw [hb] at hH; obtain rfl := Blk.mp.inj (Option.some.inj hH)
    obtain ⟨R', h3, hR, ⟨ents, clock, hw, hl, hrel, hborn, hnd⟩, hnI⟩ := hr.blk b _ hb trivial
    rw [hφ] at h3; obtain rfl := Option.some.inj h3
    have hg : (getObj R).run P w = .ok (.map ents clock) w := by simp [getObj, Sem.run, hw]
    have hset : ∀ o, (setObj R o).run P w = .ok () { w with heap := w.heap.setIfInBounds R o } := fun o => by simp [setObj, Sem.run, hw]
    have hfe : ∃ r, findE es x = some r := by
      have key : ∀ (es l : List (PV × DV)), putE es x v = some l → ∃ r, findE es x = some r := by
        intro es
        induction es with
        | nil => intro l _; exact ⟨none, rfl⟩
        | cons p es ih =>
          intro l h
          obtain ⟨y, u⟩ := p
          simp only [putE] at h
          split at h
          · rename_i he; exact ⟨some u, by simp only [findE, he]⟩
          · rename_i he
            split at h
            · rename_i l' hl'
              obtain ⟨r, hr'⟩ := ih l' hl'
              exact ⟨r, by simp only [findE, he, hr']⟩
            · simp at h
          · simp at h
      exact key es l hp
    obtain ⟨r, hfe⟩ := hfe
    have wrote : ∀ o, csize w R = 0 → Wrote w { w with heap := w.heap.setIfInBounds R o } R := fun o h0 =>
      ⟨by simp, fun R' hne => by simp [Array.getElem?_setIfInBounds_ne (Ne.symm hne)], by omega, ⟨rfl, rfl, rfl⟩⟩
    have hcs0 : csize w R = 0 := by simp [csize, hw]
    have fin : ∀ (ents' : Array MapEntry) (clock' : Nat), (Instr.mapUpdate t (.map (some R)) rx rv).run P w = .ok () { w with heap := w.heap.setIfInBounds R (.map ents' clock') } →
        l.length = ents'.size → (∀ (j : Nat) (e : PV × DV) (m : MapEntry), l[j]? = some e → ents'[j]? = some m → PRel g.I w e.1 m.key ∧ DRel g H w e.2 m.val) →
        (∀ m ∈ ents'.toList, m.born < clock') → (ents'.toList.map (·.born)).Nodup →
        ∃ w', (Instr.mapUpdate t (.map (some R)) rx rv).run P w = .ok () w' ∧ ∃ g', Rel g' (H.set b (.mp l)) w' ∧ Ev g H w g' (H.set b (.mp l)) w' := by
      intro ents' clock' hrun hl' hrel' hb' hn'
      have hev : Ev g H w g (H.set b (.mp l)) { w with heap := w.heap.setIfInBounds R (.map ents' clock') } :=
        Ev.write hr hb trivial hφ (wrote _ hcs0) rfl (fun _ _ h => h) (fun _ _ _ h => h) (fun o h => absurd h (hnI o)) (fun _ _ o h => absurd h (hnI o)) (.inl ⟨l, rfl, rfl⟩)
      refine ⟨_, hrun, g, rel_write hr hb trivial hφ (wrote _ hcs0) rfl (fun _ _ h => h) (fun _ _ _ h => h) hev fun _ => ⟨⟨ents', clock', by simp [hR], hl', fun j e m h5 h6 => ?_, hb', hn'⟩, hnI⟩, hev⟩
      exact ⟨(hrel' j e m h5 h6).1.mono hev.keeps, (hrel' j e m h5 h6).2.mono hev⟩
    rcases find_rel (P := P) hk hd hx h1 es ents.toList 0 r (by simpa using hl) (fun j e m a b => (hrel j e m a (by simpa using b)).1) hfe with ⟨_, h4, h5⟩ | ⟨j, e', m, h4, h5, _, h6, h7, h8, h9⟩
    · rw [h5] at hp; obtain rfl := Option.some.inj hp
      have hfk : (Instr.findKey k rx ents.toList).run P w = .ok none w := by simp [Instr.findKey, r_under hd, h4]
      refine fin (ents.push { key := rx, val := rv, born := clock }) (clock + 1) (by simp [Instr.mapUpdate, r_under ht, hg, r_checkKey hk, hfk, hset]) (by simp [hl]) (fun j e m h6 h7 => ?_) (fun m hm => ?_) ?_
      · rw [List.getElem?_append] at h6
        rw [Array.getElem?_push] at h7
        split at h6
        · rw [if_neg (by omega)] at h7; exact hrel j e m h6 h7
        · have : j = es.length := by have := (List.getElem?_eq_some_iff.1 h6).1; simp at this; omega
          subst this
          rw [if_pos hl] at h7
          simp at h6 h7; subst h6 h7
          exact ⟨h1, hv⟩
      · simp at hm
        rcases hm with hm | rfl
        · have := hborn m (by simpa using hm); omega
        · simp
      · simp only [Array.toList_push, List.map_append, List.map_cons, List.map_nil]
        rw [List.nodup_append]
        refine ⟨hnd, by simp, fun a ha b hb => ?_⟩
        simp at hb; subst hb
        obtain ⟨m, hm, rfl⟩ := List.mem_map.1 ha
        have := hborn m hm; omega
    · rw [h9] at hp; obtain rfl := Option.some.inj hp
      have hjl : j < ents.size := by have := (List.getElem?_eq_some_iff.1 h5).1; simpa using this
      have hm' : ents[j]? = some m := by simpa using h5
      have hfk : (Instr.findKey k rx ents.toList).run P w = .ok (some (j, m.val)) w := by simp [Instr.findKey, r_under hd, h6]
      have hst : (Instr.keyThatStays m.key rx).run P w = .ok rx w := by simp [Instr.keyThatStays, h8]
      refine fin (ents.modify j fun e => { e with key := rx, val := rv }) clock (by simp [Instr.mapUpdate, r_under ht, hg, r_checkKey hk, hfk, hset, hm', hst]) (by simp [hl]) (fun i e m2 h10 h11 => ?_) (fun m2 hm2 => ?_) ?_
      · rw [List.getElem?_set] at h10
        rw [Array.getElem?_modify] at h11
        split at h10
        · rename_i hij; subst hij
          have hjes : j < es.length := by omega
          simp [hjes] at h10; subst h10
          simp [hm'] at h11; subst h11
          exact ⟨h1, hv⟩
        · rename_i hij
          rw [if_neg hij] at h11
          exact hrel i e m2 h10 h11
      · obtain ⟨i, hi⟩ := List.getElem?_of_mem hm2
        rw [Array.getElem?_toList, Array.getElem?_modify] at hi
        split at hi
        · rename_i hij; subst hij
          simp [hm'] at hi; subst hi
          exact hborn m (List.mem_of_getElem? h5)
        · exact hborn m2 (List.mem_of_getElem? (by simpa using hi))
      · have : (ents.modify j fun e => { e with key := rx, val := rv }).toList.map (·.born) = ents.toList.map (·.born) := by
          apply List.ext_getElem?; intro i
          simp only [List.getElem?_map, Array.getElem?_toList, Array.getElem?_modify]
          split
          · rename_i hij; subst hij; simp [hm']
          · rfl
        rw [this]; exact hnd

end Go.Lv

/- Operations, one by one: texts and their bytes, rows that are made, copies, comparisons. -/
namespace Go.Lv
set_option linter.unusedVariables false
set_option linter.unusedSimpArgs false
variable {P : Program} {g : Gh} {H : Heap} {w : World}

/-- a row of elements of the heap more, with a mark behind it -/
theorem new_vec' {gr ag : Bool} {z : Nat} {els : List (List DV)} {c : Array Value} {t : TypeId} {fr : Nat × Nat} (hfr : fr.1 = fr.2 ∨ c.size ≤ fr.1) (hr : Rel g H w) (hs : els.length * z ≤ c.size)
    (hz : ∀ (i : Nat) (e : List DV), els[i]? = some e → e.length = z ∧ ∀ d ∈ e, isCell d = true)
    (h : ∀ (i : Nat) (e : List DV) (k : Nat) (d : DV), els[i]? = some e → e[k]? = some d → ∃ v, c[i * z + k]? = some v ∧ DRel g H w d v) :
    Rel (g.put H.length w.heap.size (if gr then els.length * z else 0)) (H ++ [.vec gr ag z els]) (w.alloc (.cells c t fr)) ∧
    Ev g H w (g.put H.length w.heap.size (if gr then els.length * z else 0)) (H ++ [.vec gr ag z els]) (w.alloc (.cells c t fr)) := by
  refine alloc_blk hr _ _ _ fun hv => ⟨⟨c, t, fr, heap_alloc_new, hs, hfr⟩, hz, fun i e k d hi hk => ?_, fun o => ?_⟩
  · obtain ⟨v, h1, h2⟩ := h i e k d hi hk
    exact ⟨v, by rw [cell?_eq heap_alloc_new]; exact h1, h2.mono hv⟩
  · simp only [Gh.put]
    constructor
    · rintro (h1 | ⟨_, h1⟩)
      · exact absurd (hr.low _ _ h1) (Nat.lt_irrefl _)
      · cases gr with
        | true => exact ⟨rfl, by simpa using h1⟩
        | false => simp at h1
    · rintro ⟨h0, h1⟩
      refine .inr ⟨by first | trivial | rfl, ?_⟩
      rw [if_pos h0]; exact h1

/-- a slice over the whole of a new row -/
theorem msl_new {gr ag : Bool} {z cap : Nat} {els : List (List DV)} {c : Array Value} {t : TypeId} {fr : Nat × Nat} (hcap : els.length ≤ cap) (hc : cap * z ≤ c.size) :
    DRel (g.put H.length w.heap.size (if gr then els.length * z else 0)) (H ++ [.vec gr ag z els]) (w.alloc (.cells c t fr)) (.msl H.length 0 els.length) (.slice (some ⟨w.heap.size, 0, none⟩) els.length cap) := by
  have hcs : csize (w.alloc (.cells c t fr)) w.heap.size = c.size := csize_eq heap_alloc_new
  cases gr with
  | false =>
    have := DRel.fmsl (g := g.put H.length w.heap.size (if false then els.length * z else 0)) (w := w.alloc (.cells c t fr)) H.length 0 els.length cap w.heap.size z ag els (look_last _) (by simp [Gh.put]) (by simp) hcap (by rw [hcs]; simpa using hc)
    rw [Nat.zero_mul] at this; exact this
  | true =>
    exact DRel.gmsl H.length 0 els.length cap w.heap.size z ⟨w.heap.size, 0, none⟩ ag els (look_last _) (by simp [Gh.put]) rfl (by simp) hcap
      (fun m hm => ⟨by simp only [Gh.put, if_true, Nat.zero_add]; exact .inr ⟨trivial, hm⟩, by simp⟩) (fun _ _ => ⟨rfl, by rw [hcs]; exact hc⟩)

theorem freeze_new (c : Array Value) (t : TypeId) : (w.alloc (.cells c t)).freeze ⟨w.heap.size, c.size, none⟩ 1 = w.alloc (.cells c t (c.size, c.size + 1)) := by
  simp only [World.freeze, World.alloc]
  simp only [show ¬ (1 : Nat) = 0 by omega, if_false]
  congr 1
  apply Array.ext_getElem?
  intro i
  rw [Array.getElem?_modify, Array.getElem?_push, Array.getElem?_push]
  by_cases h : i = w.heap.size
  · subst h; simp
  · simp [h, Ne.symm h]

theorem s_s2b {src dst e : TypeId} {s : List Nat} {rx : Value} {ag : Bool} (hr : Rel g H w) (hd : P.underlying dst = some (.slice e)) (he : P.underlying e = some (.int .u8)) (hsrc : P.underlying src = some .string)
    (h : DRel g H w (.p (.str s)) rx) :
    ∃ rv w', (convert src dst rx).run P w = .ok rv w' ∧ Post g H w H (.p (.isl (byteVals s))) rv w' ∧ ∀ gr, Post g H w (H ++ [.vec gr false 1 (byteCells s)]) (.msl H.length 0 s.length) rv w' := by
  obtain ⟨b, rfl, rfl⟩ := h.str
  have hlen : b.data.toList.length = b.size := Array.length_toList
  let cap := (Question.appendCap b.size 0 e).cut (w.tape w.drawn (Question.appendCap b.size 0 e))
  have hcap : b.size ≤ cap := by simp only [cap, Question.cut]; omega
  let c : Array Value := b.data.map (fun x => Value.int .u8 x.toNat) ++ Array.replicate (cap - b.size) (.int .u8 0)
  have hbs : b.data.size = b.size := rfl
  have hcsz : c.size = cap := by simp only [c, Array.size_append, Array.size_map, Array.size_replicate, hbs]; omega
  have hr2 := rel_drew hr
  have hl2 : (b.data.toList.map UInt8.toNat).length = b.size := by rw [List.length_map, hlen]
  have hcellv : ∀ (i x : Nat), (b.data.toList.map UInt8.toNat)[i]? = some x → c[i]? = some (.int .u8 x) := fun i x hi => by
    simp only [List.getElem?_map, Option.map_eq_some_iff, Array.getElem?_toList] at hi
    obtain ⟨y, h1, rfl⟩ := hi
    have hlt : i < b.data.size := (Array.getElem?_eq_some_iff.1 h1).1
    simp only [c]
    rw [Array.getElem?_append_left (by simpa using hlt)]
    simp [h1]
  refine ⟨.slice (some ⟨w.heap.size, 0, none⟩) b.size cap, w.drew.alloc (.cells c e (c.size, c.size + 1)), ?_, Post.drew hr ?_, fun gr => Post.drew hr ?_⟩
  · have h0 : ¬ (Question.appendCap b.size 0 e).forced = true := by simp [Question.forced]
    have hsh : (w.drew.alloc (.cells c e)).shape? w.heap.size = some (e, c.size) := by
      have : (w.drew.alloc (.cells c e)).heap[w.heap.size]? = some (.cells c e) := heap_alloc_new (w := w.drew)
      unfold World.shape?; rw [this]
    have hfz := freeze_new (w := w.drew) c e
    simp only [convert, Sem.run_bind, r_under hsrc, r_under hd, r_under he, Result.andThen_ok, Conv.stringToBytes, run_choose, h0, if_false, Bool.false_eq_true, World.drew_eq, newRow, run_newObj, World.alloc_eq, Sem.run_pure, markStringish, run_shape, run_freeze]
    have e1 : (Question.appendCap b.size 0 e).cut (w.tape w.drawn (Question.appendCap b.size 0 e)) = cap := rfl
    have e2 : b.data.map (fun x => Value.int .u8 x.toNat) ++ Array.replicate (cap - b.size) (.int .u8 0) = c := rfl
    rw [e1, e2]
    simp only [World.size_drew, hsh]
    simp only [run_freeze, Result.andThen_ok]
    rw [show w.heap.size = w.drew.heap.size from rfl, hfz]
  · have hlv : (byteVals (b.data.toList.map UInt8.toNat)).length = b.size := by rw [byteVals_eq, List.length_map, hl2]
    refine new_isl (z := 1) (c := c) (o := .cells c e (c.size, c.size + 1)) hr2 hlv.symm hcap (fun k hk => cell?_eq heap_alloc_new) (alloc_val hr2 _ _) (fun i x hi => ?_) (fun i x k y hi hk => ?_)
    · rw [byteVals_eq] at hi
      simp only [List.getElem?_map, Option.map_eq_some_iff] at hi
      obtain ⟨n, _, rfl⟩ := hi
      exact ⟨rfl, fun y hy => by simp [cellsP] at hy; subst hy; rfl⟩
    · rw [byteVals_eq, List.getElem?_map, Option.map_eq_some_iff] at hi
      obtain ⟨n, h1, rfl⟩ := hi
      cases k with
      | succ k => simp [cellsP] at hk
      | zero =>
        simp [cellsP] at hk; subst hk
        exact ⟨_, by rw [Nat.mul_one, Nat.add_zero]; exact hcellv i n h1, .int _ _⟩
  · have hlb : (byteCells (b.data.toList.map UInt8.toNat)).length = b.size := by rw [byteCells_eq, List.length_map, hl2]
    obtain ⟨h7, h8⟩ := new_vec' (gr := gr) (ag := false) (z := 1) (els := byteCells (b.data.toList.map UInt8.toNat)) (c := c) (t := e) (fr := (c.size, c.size + 1)) (.inr (Nat.le_refl _)) hr2 (by rw [hlb, hcsz]; omega) (fun i e hi => by
      rw [byteCells_eq, List.getElem?_map, Option.map_eq_some_iff] at hi
      obtain ⟨n, _, rfl⟩ := hi
      exact ⟨rfl, by simp [isCell, isCellP]⟩) (fun i e k d hi hk => by
      rw [byteCells_eq, List.getElem?_map, Option.map_eq_some_iff] at hi
      obtain ⟨n, h1, rfl⟩ := hi
      cases k with
      | succ k => simp at hk
      | zero =>
        simp at hk; subst hk
        exact ⟨_, by rw [Nat.mul_one, Nat.add_zero]; exact hcellv i n h1, .p _ _ (.int _ _)⟩)
    refine ⟨_, h7, h8, ?_⟩
    have := msl_new (g := g) (H := H) (w := w.drew) (gr := gr) (ag := false) (z := 1) (cap := cap) (els := byteCells (b.data.toList.map UInt8.toNat)) (c := c) (t := e) (fr := (c.size, c.size + 1)) (by rw [hlb]; exact hcap) (by rw [hcsz]; omega)
    rw [hlb] at this
    rw [hlb, hl2]
    exact this

theorem bytesOfVals_spec : ∀ {vs : List PV} {s : List Nat}, bytesOfVals vs = some s → ∃ ns : List Int, vs = ns.map (.int .u8) ∧ s = ns.map fun n => n.toNat % 256
  | [], s, h => by simp [bytesOfVals] at h; subst h; exact ⟨[], rfl, rfl⟩
  | v :: r, s, h => by
    unfold bytesOfVals at h
    split at h
    · rename_i heq; simp at heq
    · rename_i n r' heq
      simp only [List.cons.injEq] at heq
      obtain ⟨rfl, rfl⟩ := heq
      split at h
      · rename_i l hl
        obtain rfl := Option.some.inj h
        obtain ⟨ns, rfl, rfl⟩ := bytesOfVals_spec hl
        exact ⟨n :: ns, rfl, rfl⟩
      · simp at h
    · simp at h

theorem fold_push : ∀ (ns : List Int) (s : ByteArray), (ns.foldl (fun r n => r.push (UInt8.ofNat n.toNat)) s).data.toList.map UInt8.toNat = s.data.toList.map UInt8.toNat ++ ns.map fun n => n.toNat % 256
  | [], s => by simp
  | n :: r, s => by
    rw [List.foldl_cons, fold_push r]
    simp [ByteArray.data_push, UInt8.toNat_ofNat]

theorem s_b2s {src dst e : TypeId} {x : DV} {rx : Value} {l : List (List DV)} {vs : List PV} {s : List Nat} (hr : Rel g H w) (hs : P.underlying src = some (.slice e)) (he : P.underlying e = some (.int .u8)) (hd : P.underlying dst = some .string)
    (h : DRel g H w x rx) (hx : ∀ s, x ≠ .p (.str s)) (hel : elems H x = some l) (hv : valsOfCells false l = some vs) (hb : bytesOfVals vs = some s) :
    ∃ rv, (convert src dst rx).run P w = .ok rv w ∧ DRel g H w (.p (.str s)) rv := by
  obtain ⟨ns, rfl, rfl⟩ := bytesOfVals_spec hb
  obtain ⟨h1, h2⟩ := valsOfCells_spec false hv
  have hh : headLen 1 l = true := by
    cases l with
    | nil => rfl
    | cons c r =>
      obtain ⟨l', x', h3, _, h5⟩ := h2 0 c rfl
      simp only [valOfP, Bool.false_eq_true, if_false] at h5
      split at h5
      · subst h3; simp [headLen]
      · simp at h5
  obtain ⟨nw, hl, hn, hrows⟩ := s_elems (P := P) hr h hel hh
  have hnw : nw = (ns.map (Value.int .u8)).toArray := by
    obtain ⟨h3, h4, h5⟩ := hrows
    apply Array.ext_getElem?
    intro i
    by_cases hi : i < l.length
    · obtain ⟨l', x', h6, h7, h8⟩ := h2 i l[i] (by simp [hi])
      simp only [List.getElem?_map, Option.map_eq_some_iff] at h7
      obtain ⟨n, h11, rfl⟩ := h7
      simp only [valOfP, Bool.false_eq_true, if_false] at h8
      split at h8
      · rename_i c
        have h12 : c = .int .u8 n := Option.some.inj h8
        subst h12
        obtain ⟨v, h9, h10, _⟩ := h5 i l[i] 0 (.p (.int .u8 n)) (by simp [hi]) (by rw [h6]; rfl)
        rw [Nat.mul_one, Nat.add_zero] at h9
        have h13 : v = .int .u8 n := h10.int
        rw [h9, h13]
        simp [h11]
      · simp at h8
    · rw [Array.getElem?_eq_none (by rw [h3]; omega), Array.getElem?_eq_none (by simp at h1 ⊢; omega)]
  have fin : ∀ (s0 : ByteArray), s0 = ns.foldl (fun r n => r.push (UInt8.ofNat n.toNat)) ByteArray.empty → DRel g H w (.p (.str (ns.map fun n => n.toNat % 256))) (.string s0) := fun s0 hs0 => by
    refine .p _ _ (.str s0 _ ?_)
    rw [hs0, fold_push]; simp
  have conv : ∀ (a : Option Addr) (n c : Nat), rx = .slice a n c → (convert src dst rx).run P w = (Conv.bytesToString (.slice a n c)).run P w := fun a n c hrx => by
    subst hrx; exact run_convert_bytes_string w src dst e a n c hs he hd
  have some_case : ∀ (A : Addr) (n c : Nat), rx = .slice (some A) n c → ∃ rv, (convert src dst rx).run P w = .ok rv w ∧ DRel g H w (.p (.str (ns.map fun n => n.toNat % 256))) rv := by
    intro A n c hrx
    subst hrx
    simp only [Builtin.lenOf, Sem.run_pure, Result.ok.injEq, and_true] at hl
    subst hl
    simp only [Builtin.firstCells, Nat.mul_one, hnw] at hn
    refine ⟨_, by rw [conv _ _ _ rfl]; exact run_bytesToString w A _ c ns hn, fin _ rfl⟩
  unfold elems at hel
  split at hel
  · obtain rfl := Option.some.inj hel
    have := h.pure; cases this
    have : ns = [] := by simpa using h1.symm
    subst this
    exact ⟨.string .empty, by rw [conv none 0 0 rfl]; simp [Conv.bytesToString], fin _ rfl⟩
  · have := h.pure
    cases this with
    | isl xs n A cap sz r hn' => exact some_case A n cap rfl
  · rename_i s0; exact absurd rfl (hx s0)
  · cases h with
    | dmsl b off len cap A h => exact some_case _ _ _ rfl
    | fmsl b off len cap R z ag els => exact some_case _ _ _ rfl
    | gmsl b off len cap R z A ag els => exact some_case _ _ _ rfl
  · simp at hel

end Go.Lv

/- Operations, one by one: rows that are made, copies, comparisons, ranges over texts. -/
namespace Go.Lv
set_option linter.unusedVariables false
set_option linter.unusedSimpArgs false
variable {P : Program} {g : Gh} {H : Heap} {w : World}

theorem set_same {k : Blk} {b : Nat} (h : H[b]? = some k) : H.set b k = H := by
  apply List.ext_getElem?; intro i
  rw [List.getElem?_set]
  split
  · rename_i e; subst e; rw [if_pos (List.getElem?_eq_some_iff.1 h).1, h]
  · rfl

/-- where a slice over a whole row stands -/
theorem msl_whole {b len : Nat} {rs : Value} {gr ag : Bool} {z : Nat} {els : List (List DV)} (hb : H[b]? = some (.vec gr ag z els)) (hlen : els.length = len) (hs : DRel g H w (.msl b 0 len) rs) :
    ∃ R cap, g.φ b = some R ∧ rs = .slice (some ⟨R, 0, none⟩) len cap ∧ len ≤ cap ∧ cap * z ≤ csize w R := by
  cases hs with
  | dmsl b off len cap A h => rw [hb] at h; simp at h
  | fmsl b off len cap R z' ag' els' hH hφ hbd hcap hc =>
    rw [hb] at hH; simp only [Option.some.injEq, Blk.vec.injEq] at hH
    obtain ⟨_, rfl, rfl, rfl⟩ := hH
    exact ⟨R, cap, hφ, by rw [Nat.zero_mul], hcap, by simpa using hc⟩
  | gmsl b off len cap R z' A ag' els' hH hφ hs' hbd hcap hc hf =>
    rw [hb] at hH; simp only [Option.some.injEq, Blk.vec.injEq] at hH
    obtain ⟨_, rfl, rfl, rfl⟩ := hH
    obtain ⟨h1, h2⟩ := hf rfl hlen.symm
    exact ⟨R, cap, hφ, by rw [h1], hcap, h2⟩

theorem s_b2b {t e : TypeId} {b len : Nat} {rx : Value} {gr ag : Bool} {z : Nat} {els : List (List DV)} (hr : Rel g H w) (ht : P.underlying t = some (.slice e)) (he : P.underlying e = some (.int .u8))
    (h : DRel g H w (.msl b 0 len) rx) (hb : H[b]? = some (.vec gr ag z els)) (hlen : els.length = len) :
    ∃ rv w', (convert t t rx).run P w = .ok rv w' ∧ Post g H w H (.msl b 0 len) rv w' := by
  obtain ⟨R, cap, hφ, rfl, hcap, hcz⟩ := msl_whole hb hlen h
  obtain ⟨R', hφ', hR, ⟨c, ty, fr, hc, hcl, hf⟩, hels, hcell, hI⟩ := hr.blk b _ hb trivial
  rw [hφ] at hφ'; obtain rfl := Option.some.inj hφ'
  have hsh : w.shape? R = some (ty, c.size) := by simp [World.shape?, hc]
  let w' := w.freeze ⟨R, c.size, none⟩ 1
  have hw1 : ∃ fr', w'.heap[R]? = some (.cells c ty fr') ∧ (fr'.1 = fr'.2 ∨ c.size ≤ fr'.1) := by
    simp only [w', World.freeze, show ¬ (1 : Nat) = 0 by omega, if_false, Array.getElem?_modify, if_true, hc, Option.map_some]
    refine ⟨_, rfl, .inr ?_⟩
    split
    · exact Nat.le_refl _
    · rename_i hne
      rcases hf with hf | hf
      · exact absurd (by simpa using hf) hne
      · exact Nat.le_min.2 ⟨hf, Nat.le_refl _⟩
  obtain ⟨fr', hc', hf'⟩ := hw1
  have hw : Wrote w w' R := ⟨by simp [w', World.freeze], fun R' hne => by simp [w', World.freeze, Array.getElem?_modify, Ne.symm hne], by rw [csize_eq hc, csize_eq hc']; exact Nat.le_refl _, ⟨rfl, rfl, rfl⟩⟩
  have hce : ∀ o, w'.cell? ⟨R, o, none⟩ = w.cell? ⟨R, o, none⟩ := fun o => by rw [cell?_eq hc, cell?_eq hc']
  have hturn : Turns g w g w' b (.vec gr ag z els) (.vec gr ag z els) := by
    cases gr with
    | false => exact .inl ⟨els, rfl, rfl, rfl⟩
    | true => exact .inl ⟨[], R, R, by simp, hφ, hφ, fun _ => rfl, fun m _ => hce m⟩
  have hev : Ev g H w g (H.set b (.vec gr ag z els)) w' :=
    Ev.write hr hb trivial hφ hw rfl (fun _ _ h => h) (fun _ _ _ h => h) (fun o _ => hce o) (fun _ _ _ _ hh => by rw [hc] at hh; simp at hh) hturn
  have hrel := rel_write hr hb trivial hφ hw rfl (fun _ _ h => h) (fun _ _ _ h => h) hev (fun _ => ⟨⟨c, ty, fr', hc', hcl, hf'⟩, hels, fun i e k d hi hk => by
    obtain ⟨v, h1, h2⟩ := hcell i e k d hi hk
    exact ⟨v, by rw [hce, h1], h2.mono hev⟩, hI⟩)
  rw [set_same hb] at hev hrel
  refine ⟨_, w', ?_, g, hrel, hev, h.mono hev⟩
  simp only [convert, Sem.run_bind, r_under ht, r_under he, Result.andThen_ok, beq_self_eq_true, markStringish, run_shape, hsh, run_freeze, Sem.run_pure]
  rfl

/-! ### rows that are made -/
theorem rep_get {α : Type} {n : Nat} {x : α} {i : Nat} {y : α} (h : (rep n x)[i]? = some y) : y = x ∧ i < n := by
  rw [rep_eq, List.getElem?_replicate] at h
  split at h
  · rename_i hi; exact ⟨(Option.some.inj h).symm, hi⟩
  · simp at h

theorem s_makeSl {t e : TypeId} {i : TypeInfo} {zv : Value} {z : List PV} {ag : Bool} {x y : DV} {rx ry : Value} {n : Nat} (hr : Rel g H w) (ht : P.underlying t = some (.slice e)) (hi : P.info? e = some i) (hz : i.zero = some zv)
    (hrel : (relZero (.agg z) zv = true) ∨ ∃ u, z = [u] ∧ relZ u zv = true) (hsz : i.size = z.length) (hzs : zv.cells.size = z.length) (hb : i.bytes ≤ 65536) (hx : DRel g H w x rx) (hn : asNat x = some n) (hlt : n < maxLen') :
    ∃ rv w', (Instr.makeSlice t rx rx).run P w = .ok rv w' ∧ Post g H w (H ++ [.vec false ag z.length (rep n (z.map .p))]) (.msl H.length 0 n) rv w' := by
  obtain ⟨k, m, rfl, h0, hm⟩ := asNat_rel hx hn
  have e1 : maxLen' = 1073741824 := rfl
  have hw : IntKind.i64.wrap m = m := by
    have : (2 : Int) ^ IntKind.i64.bits = 18446744073709551616 := by decide
    have h2 : (2 : Int) ^ (IntKind.i64.bits - 1) = 9223372036854775808 := by decide
    unfold IntKind.wrap
    simp only [this, h2]
    rw [Int.emod_eq_of_lt h0 (by omega)]
    rw [if_neg (by simp; omega)]
  have hcells : CellsRel g H w (z.map .p) zv.cells := by
    rcases hrel with h | ⟨u, rfl, h⟩
    · exact zero_cells h rfl
    · obtain ⟨h1, h2⟩ := relZ_spec (I := g.I) (w := w) h
      have h3 := h1.cell h2
      rw [h3.2]
      refine ⟨by simp, fun c hc => by simp at hc; subst hc; exact h2, fun i c v hc hv => ?_⟩
      cases i with
      | zero => simp at hc hv; subst hc hv; exact .p _ _ h1
      | succ i => simp at hc
  have hrun : ∃ c : Array Value, (Instr.makeSlice t (.int k m) (.int k m)).run P w = .ok (.slice (some ⟨w.heap.size, 0, none⟩) n n) (w.alloc (.cells c e)) ∧ c.size = n * z.length ∧
      ∀ i j, i < n → j < z.length → c[i * z.length + j]? = zv.cells[j]? := by
    have h48 : (2 : Int) ^ 48 = 281474976710656 := by decide
    have hbm : ¬ ((i.bytes : Int) * m > 281474976710656) := by
      have h3 : (i.bytes : Int) * m ≤ 65536 * 1073741824 := Int.mul_le_mul (by omega) (by omega) h0 (by omega)
      omega
    have hneg : ¬ m < 0 := by omega
    by_cases hpos : n * z.length = 0
    · refine ⟨#[], ?_, by simp [hpos], fun i j hi hj => ?_⟩
      · have hr0 : Array.range 0 = #[] := rfl
        simp [Instr.makeSlice, r_under ht, asInt, asIntOf, r_info hi, hw, h48, hbm, hneg, r_size hi, hsz, ← hm, hpos, hr0, newRow]
      · have := mul_le_of_lt (z := z.length) hi; omega
    · refine ⟨(Array.range (n * z.length)).map (zv.cells[· % zv.cells.size]!), ?_, by simp, fun i j hi hj => ?_⟩
      · simp [Instr.makeSlice, r_under ht, asInt, asIntOf, r_info hi, hw, h48, hbm, hneg, r_size hi, hsz, ← hm, hpos, r_zero ‹P.info? e = some _› hz, newRow]
      · have hl := mul_le_of_lt (z := z.length) hi
        have hmod : (i * z.length + j) % z.length = j := by rw [Nat.add_comm, Nat.add_mul_mod_self_right, Nat.mod_eq_of_lt hj]
        simp only [Array.getElem?_map, hzs]
        rw [Array.getElem?_eq_getElem (by simp; omega)]
        simp [hmod, show j < zv.cells.size by omega]
  obtain ⟨c, h1, h2, h3⟩ := hrun
  have hl : (rep n (z.map DV.p)).length = n := by rw [rep_eq]; simp
  obtain ⟨h7, h8⟩ := new_vec' (gr := false) (ag := ag) (z := z.length) (els := rep n (z.map .p)) (c := c) (t := e) (fr := (0, 0)) (.inl rfl) hr (by rw [hl, h2]; exact Nat.le_refl _) (fun i e hi => by
    obtain ⟨rfl, _⟩ := rep_get hi
    exact ⟨by simp, hcells.2.1⟩) (fun i e k d hi hk => by
    obtain ⟨rfl, hlt'⟩ := rep_get hi
    have hkz : k < z.length := by have := (List.getElem?_eq_some_iff.1 hk).1; simpa using this
    have hkc : k < zv.cells.size := by omega
    exact ⟨zv.cells[k], by rw [h3 i k hlt' hkz]; simp [hkc], hcells.2.2 k d _ hk (by simp [hkc])⟩)
  refine ⟨_, _, h1, _, h7, h8, ?_⟩
  have := msl_new (g := g) (H := H) (w := w) (gr := false) (ag := ag) (z := z.length) (cap := n) (els := rep n (z.map .p)) (c := c) (t := e) (fr := (0, 0)) (by rw [hl]; exact Nat.le_refl _) (by rw [h2]; exact Nat.le_refl _)
  rw [hl] at this
  rw [hl]
  exact this

end Go.Lv

/- Operations, one by one: copies, ranges over texts, comparisons. -/
namespace Go.Lv
set_option linter.unusedVariables false
set_option linter.unusedSimpArgs false
variable {P : Program} {g : Gh} {H : Heap} {w : World}

/-! ### == -/
/-- is a type one of a kind of scalars? -/
def scalTy (P : Program) (k : SK) (t : TypeId) : Bool :=
  match k, P.underlying t with
  | .i, some (.int _) => true
  | .s, some .string => true
  | .b, some .bool => true
  | _, _ => false

/-- fields of scalars, one behind the other -/
def flatFields (P : Program) : Nat → List SK → List Field → Bool
  | _, [], [] => true
  | i, k :: ks, f :: r => f.offset == i && f.name != "_" && scalTy P k f.type && flatFields P (i + 1) ks r
  | _, _, _ => false

theorem s_eqScal {I : Nat → Nat → Prop} {t : TypeId} {k : SK} {d : Nat} {x y : PV} {rx ry : Value} {r : Bool} (ht : scalTy P k t = true) (h1 : PRel I w x rx) (h2 : PRel I w y ry) (h : eqScal x y = some r)
    (hfit : fitK k x = true) : (Op.equalIn (d + 1) t rx ry).run P w = .ok r w := by
  unfold scalTy at ht
  split at ht
  · rename_i q hq
    cases x <;> simp only [fitK] at hfit <;> first
      | (simp at hfit; done)
      | skip
    cases y <;> simp only [eqScal] at h <;> first
      | (simp at h; done)
      | skip
    obtain rfl := h1.int_inv
    obtain rfl := h2.int_inv
    split at h
    · rename_i e; subst e
      obtain rfl := Option.some.inj h
      exact run_equalIn_int w d t _ q _ _ hq
    · simp at h
  · rename_i hq
    cases x <;> simp only [fitK] at hfit <;> first
      | (simp at hfit; done)
      | skip
    cases y <;> simp only [eqScal] at h <;> first
      | (simp at h; done)
      | skip
    obtain ⟨a, rfl, rfl⟩ := h1.str_inv
    obtain ⟨b, rfl, rfl⟩ := h2.str_inv
    obtain rfl := Option.some.inj h
    rw [run_equalIn_string w d t a b hq, bytes_beq]
  · rename_i hq
    cases x <;> simp only [fitK] at hfit <;> first
      | (simp at hfit; done)
      | skip
    cases y <;> simp only [eqScal] at h <;> first
      | (simp at h; done)
      | skip
    obtain rfl := h1.bool_inv
    obtain rfl := h2.bool_inv
    obtain rfl := Option.some.inj h
    exact run_equalIn_bool' w d t _ _ hq
  · simp at ht

theorem r_part1 {t : TypeId} {k : SK} {cs : Array Value} {i : Nat} {v : Value} (ht : scalTy P k t = true) (h : cs[i]? = some v) : (part t cs i).run P w = .ok v w := by
  have hag : agOf P t = some false := by
    unfold scalTy at ht
    unfold agOf
    split at ht <;> (rename_i hq; first | rw [hq] | (simp at ht))
  simp only [part, Sem.run_bind, r_isAgg hag, Result.andThen_ok, Bool.false_eq_true, if_false, h, Sem.run_pure]

theorem s_eqFields {I : Nat → Nat → Prop} {d : Nat} {X Y : Array Value} : ∀ (ks : List SK) (fs : List Field) (x y : List PV) (i : Nat) (r : Bool), flatFields P i ks fs = true → eqCells ks x y = some r →
    (∀ (j : Nat) (c : PV), x[j]? = some c → ∃ v, X[i + j]? = some v ∧ PRel I w c v) → (∀ (j : Nat) (c : PV), y[j]? = some c → ∃ v, Y[i + j]? = some v ∧ PRel I w c v) →
    (Op.eqFields (d + 1) X Y fs).run P w = .ok r w
  | [], [], x, y, i, r, _, h, _, _ => by
    cases x <;> cases y <;> simp [eqCells] at h
    subst h; simp [Op.eqFields]
  | [], _ :: _, x, y, i, r, hf, _, _, _ => by simp [flatFields] at hf
  | _ :: _, [], x, y, i, r, hf, _, _, _ => by simp [flatFields] at hf
  | k :: ks, f :: fs, x, y, i, r, hf, h, hx, hy => by
    simp only [flatFields, Bool.and_eq_true, beq_iff_eq, bne_iff_ne] at hf
    obtain ⟨⟨⟨h1, h2⟩, h3⟩, h4⟩ := hf
    cases x with
    | nil => simp [eqCells] at h
    | cons a x =>
      cases y with
      | nil => simp [eqCells] at h
      | cons b y =>
        simp only [eqCells] at h
        split at h
        · rename_i hfit
          obtain ⟨va, ha1, ha2⟩ := hx 0 a rfl
          obtain ⟨vb, hb1, hb2⟩ := hy 0 b rfl
          rw [Nat.add_zero] at ha1 hb1
          have hp1 : (part f.type X f.offset).run P w = .ok va w := by rw [h1]; exact r_part1 h3 ha1
          have hp2 : (part f.type Y f.offset).run P w = .ok vb w := by rw [h1]; exact r_part1 h3 hb1
          simp only [Op.eqFields, ne_eq, h2, not_false_eq_true, if_true, Sem.run_bind, hp1, hp2, Result.andThen_ok]
          split at h
          · rename_i he
            have he2 := s_eqScal (P := P) (d := d) h3 ha2 hb2 he hfit
            simp only [he2, Result.andThen_ok, Bool.not_true, Bool.false_eq_true, if_false]
            exact s_eqFields ks fs x y (i + 1) r h4 h (fun j c hc => by have := hx (j + 1) c (by simpa using hc); rw [show i + 1 + j = i + (j + 1) by omega]; exact this)
              (fun j c hc => by have := hy (j + 1) c (by simpa using hc); rw [show i + 1 + j = i + (j + 1) by omega]; exact this)
          · rename_i he
            have he2 := s_eqScal (P := P) (d := d) h3 ha2 hb2 he hfit
            obtain rfl := Option.some.inj h
            simp only [he2, Result.andThen_ok, Bool.not_false, if_true, Sem.run_pure]
          · simp at h
        · simp at h

/-- may a comparison stand at a type? -/
def okEq (P : Program) (k : EqK) (t : TypeId) : Bool :=
  match k, P.underlying t with
  | .bool, some .bool => true
  | .ptr, some (.pointer _) => true
  | .slice, some (.slice _) => true
  | .map, some (.map _ _) => true
  | .func, some (.func _ _ _) => true
  | .iface, some (.interface _) => true
  | .struct ks, some (.struct fields) => flatFields P 0 ks fields.toList && !P.stoodInHeld t && !P.eqGuardType P.depth t
  | _, _ => false

theorem nil_ptr {x : DV} {rx : Value} {b : Bool} (hx : DRel g H w x rx) (h : nilOf .ptr x = some b) : ∃ a : Option Addr, rx = .pointer a ∧ a.isNone = b := by
  unfold nilOf at h
  split at h <;> (try (rename_i heq; simp at heq; done)) <;> (try (simp at h; done)) <;> obtain rfl := Option.some.inj h
  · have := hx.pure; cases this; exact ⟨none, rfl, rfl⟩
  · have := hx.pure; cases this; exact ⟨some _, rfl, rfl⟩
  · cases hx <;> exact ⟨some _, rfl, rfl⟩
theorem nil_slice {x : DV} {rx : Value} {b : Bool} (hx : DRel g H w x rx) (h : nilOf .slice x = some b) : ∃ (a : Option Addr) (n c : Nat), rx = .slice a n c ∧ a.isNone = b := by
  unfold nilOf at h
  split at h <;> (try (rename_i heq; simp at heq; done)) <;> (try (simp at h; done)) <;> obtain rfl := Option.some.inj h
  · have := hx.pure; cases this; exact ⟨none, 0, 0, rfl, rfl⟩
  · have := hx.pure; cases this; exact ⟨some _, _, _, rfl, rfl⟩
  · cases hx <;> exact ⟨some _, _, _, rfl, rfl⟩
theorem nil_map {x : DV} {rx : Value} {b : Bool} (hx : DRel g H w x rx) (h : nilOf .map x = some b) : ∃ a : Option Nat, rx = .map a ∧ a.isNone = b := by
  unfold nilOf at h
  split at h <;> (try (rename_i heq; simp at heq; done)) <;> (try (simp at h; done)) <;> obtain rfl := Option.some.inj h
  · have := hx.pure; cases this; exact ⟨none, rfl, rfl⟩
  · have := hx.pure; cases this; exact ⟨some _, rfl, rfl⟩
  · cases hx <;> exact ⟨some _, rfl, rfl⟩
theorem nil_func {x : DV} {rx : Value} {b : Bool} (hx : DRel g H w x rx) (h : nilOf .func x = some b) : (b = true ∧ rx = .nilFunc) ∨ (b = false ∧ ∃ f a c, rx = .func f a c) := by
  unfold nilOf at h
  split at h <;> (try (rename_i heq; simp at heq; done)) <;> (try (simp at h; done)) <;> obtain rfl := Option.some.inj h
  · have := hx.pure; cases this; exact .inl ⟨rfl, rfl⟩
  · have := hx.pure; cases this; exact .inr ⟨rfl, _, _, _, rfl⟩
  · cases hx; exact .inr ⟨rfl, _, _, _, rfl⟩
theorem nil_iface {x : DV} {rx : Value} {b : Bool} (hx : DRel g H w x rx) (h : nilOf .iface x = some b) : (b = true ∧ rx = .nilIface) ∨ (b = false ∧ ∃ t v, rx = .iface t v) := by
  unfold nilOf at h
  split at h <;> (try (rename_i heq; simp at heq; done)) <;> (try (simp at h; done)) <;> obtain rfl := Option.some.inj h
  · have := hx.pure; cases this; exact .inl ⟨rfl, rfl⟩
  · have := hx.pure; cases this; exact .inr ⟨rfl, _, _, rfl⟩

theorem nil_split {k : EqK} {x y : DV} {r : Bool} (h : eqNil (nilOf k x) (nilOf k y) = some r) :
    ∃ a b, nilOf k x = some a ∧ nilOf k y = some b ∧ ((a = true ∧ r = b) ∨ (a = false ∧ b = true ∧ r = false)) := by
  unfold eqNil at h
  split at h
  · rename_i b h1 h2; obtain rfl := Option.some.inj h; exact ⟨true, b, h1, h2, .inl ⟨rfl, rfl⟩⟩
  · rename_i h1 h2; obtain rfl := Option.some.inj h; exact ⟨false, true, h1, h2, .inr ⟨rfl, rfl, rfl⟩⟩
  · simp at h

theorem s_eqDV {k : EqK} {t : TypeId} {x y : DV} {rx ry : Value} {r : Bool} (ht : okEq P k t = true) (hx : DRel g H w x rx) (hy : DRel g H w y ry) (h : eqDV k x y = some r) :
    (Op.equal t rx ry).run P w = .ok r w := by
  obtain ⟨d, hd⟩ : ∃ d, Op.maxDepth = d + 1 + 1 := ⟨9998, rfl⟩
  unfold Op.equal
  rw [hd]
  unfold okEq at ht
  split at ht
  · rename_i hu
    simp only [eqDV] at h
    split at h
    · obtain rfl := hx.bool
      obtain rfl := hy.bool
      obtain rfl := Option.some.inj h
      exact run_equalIn_bool' w _ t _ _ hu
    · simp at h
  · rename_i hu
    obtain ⟨a, b, h1, h2, h3⟩ := nil_split h
    obtain ⟨p, rfl, rfl⟩ := nil_ptr hx h1
    obtain ⟨q, rfl, rfl⟩ := nil_ptr hy h2
    cases p <;> cases q <;> simp at h3 <;> subst h3 <;> (generalize d + 1 = d'; simp [Op.equalIn, r_under hu])
  · rename_i hu
    obtain ⟨a, b, h1, h2, h3⟩ := nil_split h
    obtain ⟨p, _, _, rfl, rfl⟩ := nil_slice hx h1
    obtain ⟨q, _, _, rfl, rfl⟩ := nil_slice hy h2
    cases p <;> cases q <;> simp at h3 <;> subst h3 <;> (generalize d + 1 = d'; simp [Op.equalIn, r_under hu])
  · rename_i hu
    obtain ⟨a, b, h1, h2, h3⟩ := nil_split h
    obtain ⟨p, rfl, rfl⟩ := nil_map hx h1
    obtain ⟨q, rfl, rfl⟩ := nil_map hy h2
    cases p <;> cases q <;> simp at h3 <;> subst h3 <;> (generalize d + 1 = d'; simp [Op.equalIn, r_under hu])
  · rename_i hu
    obtain ⟨a, b, h1, h2, h3⟩ := nil_split h
    rcases nil_func hx h1 with ⟨rfl, rfl⟩ | ⟨rfl, _, _, _, rfl⟩ <;> rcases nil_func hy h2 with ⟨rfl, rfl⟩ | ⟨rfl, _, _, _, rfl⟩ <;> simp at h3 <;> subst h3 <;> (generalize d + 1 = d'; simp [Op.equalIn, r_under hu])
  · rename_i hu
    obtain ⟨a, b, h1, h2, h3⟩ := nil_split h
    rcases nil_iface hx h1 with ⟨rfl, rfl⟩ | ⟨rfl, _, _, rfl⟩ <;> rcases nil_iface hy h2 with ⟨rfl, rfl⟩ | ⟨rfl, _, _, rfl⟩ <;> simp at h3 <;> subst h3 <;> (generalize d + 1 = d'; simp [Op.equalIn, r_under hu])
  · rename_i ks fields hu
    simp only [Bool.and_eq_true, Bool.not_eq_true'] at ht
    obtain ⟨⟨hf, hst⟩, _⟩ := ht
    simp only [eqDV] at h
    split at h
    · rename_i a b
      have hx' := hx.pure
      have hy' := hy.pure
      cases hx' with
      | agg cs vs hk hl hh =>
        cases hy' with
        | agg cs' vs' hk' hl' hh' =>
          have hfo : P.fieldsOf t = fields := by simp [Program.fieldsOf, hu]
          rw [run_equalIn_struct w _ t vs vs' (by rw [hfo]; exact hu) hst, hfo]
          have look : ∀ {cs : List PV} {vs : Array Value}, cs.length = vs.size → (∀ (i : Nat) (c : PV) (v : Value), cs[i]? = some c → vs[i]? = some v → PRel g.I w c v) →
              ∀ (j : Nat) (c : PV), cs[j]? = some c → ∃ v, vs[0 + j]? = some v ∧ PRel g.I w c v := fun {cs vs} hl hh j c hc => by
            have hlt : j < vs.size := by have := (List.getElem?_eq_some_iff.1 hc).1; omega
            exact ⟨vs[j], by simp [hlt], hh j c _ hc (by simp [hlt])⟩
          exact s_eqFields ks fields.toList _ _ 0 r hf h (look hl hh) (look hl' hh')
    · simp at h
  · simp at ht

/-- no guard stands before a comparison -/
theorem s_eqGuard {k : EqK} {t : TypeId} {op : BinOp} {ox oy : Operand} {x y : DV} {rx ry : Value} {r : Bool} (ht : okEq P k t = true) (hx : DRel g H w x rx) (hy : DRel g H w y ry) (h : eqDV k x y = some r)
    (hc : k = .iface → (∃ v, ox = .const v) ∨ ∃ v, oy = .const v) : (eqGuard op t ox oy rx ry).run P w = .ok () w := by
  unfold okEq at ht
  split at ht
  · simp only [eqDV] at h
    split at h
    · obtain rfl := hx.bool
      obtain rfl := hy.bool
      cases op <;> simp [eqGuard]
    · simp at h
  · obtain ⟨a, b, h1, h2, h3⟩ := nil_split h
    obtain ⟨p, rfl, rfl⟩ := nil_ptr hx h1
    obtain ⟨q, rfl, rfl⟩ := nil_ptr hy h2
    cases op <;> simp [eqGuard]
  · obtain ⟨a, b, h1, h2, h3⟩ := nil_split h
    obtain ⟨p, _, _, rfl, rfl⟩ := nil_slice hx h1
    obtain ⟨q, _, _, rfl, rfl⟩ := nil_slice hy h2
    cases op <;> simp [eqGuard]
  · obtain ⟨a, b, h1, h2, h3⟩ := nil_split h
    obtain ⟨p, rfl, rfl⟩ := nil_map hx h1
    obtain ⟨q, rfl, rfl⟩ := nil_map hy h2
    cases op <;> simp [eqGuard]
  · obtain ⟨a, b, h1, h2, h3⟩ := nil_split h
    rcases nil_func hx h1 with ⟨rfl, rfl⟩ | ⟨rfl, _, _, _, rfl⟩ <;> rcases nil_func hy h2 with ⟨rfl, rfl⟩ | ⟨rfl, _, _, _, rfl⟩ <;> cases op <;> simp [eqGuard]
  · obtain ⟨a, b, h1, h2, h3⟩ := nil_split h
    rcases hc rfl with ⟨v, rfl⟩ | ⟨v, rfl⟩ <;> rcases nil_iface hx h1 with ⟨rfl, rfl⟩ | ⟨rfl, _, _, rfl⟩ <;> rcases nil_iface hy h2 with ⟨rfl, rfl⟩ | ⟨rfl, _, _, rfl⟩ <;> cases op <;> simp [eqGuard]
  · simp only [Bool.and_eq_true, Bool.not_eq_true'] at ht
    simp only [eqDV] at h
    split at h
    · have hx' := hx.pure
      have hy' := hy.pure
      cases hx'; cases hy'
      exact run_eqGuard_agg w op t ox oy _ _ ht.2
    · simp at h
  · simp at ht

def notNum : Value → Bool
  | .int .. | .float .. | .complex .. | .string .. => false
  | _ => true

theorem eql_notNum {t : TypeId} {rx ry : Value} (h : notNum rx = true) : binOp .eql t rx ry = (do pure (.bool (← Op.equal t rx ry)) : Sem Value) := by
  cases rx <;> first | (simp [notNum] at h; done) | rfl
theorem neq_notNum {t : TypeId} {rx ry : Value} (h : notNum rx = true) : binOp .neq t rx ry = (do pure (.bool (!(← Op.equal t rx ry))) : Sem Value) := by
  cases rx <;> first | (simp [notNum] at h; done) | rfl

theorem notNum_of {k : EqK} {x y : DV} {rx : Value} {r : Bool} (hx : DRel g H w x rx) (h : eqDV k x y = some r) : notNum rx = true := by
  cases k with
  | bool =>
    simp only [eqDV] at h
    split at h
    · obtain rfl := hx.bool; rfl
    · simp at h
  | struct ks =>
    simp only [eqDV] at h
    split at h
    · have := hx.pure; cases this; rfl
    · simp at h
  | ptr => obtain ⟨a, b, h1, _⟩ := nil_split h; obtain ⟨p, rfl, _⟩ := nil_ptr hx h1; rfl
  | slice => obtain ⟨a, b, h1, _⟩ := nil_split h; obtain ⟨p, _, _, rfl, _⟩ := nil_slice hx h1; rfl
  | map => obtain ⟨a, b, h1, _⟩ := nil_split h; obtain ⟨p, rfl, _⟩ := nil_map hx h1; rfl
  | func => obtain ⟨a, b, h1, _⟩ := nil_split h; rcases nil_func hx h1 with ⟨_, rfl⟩ | ⟨_, _, _, _, rfl⟩ <;> rfl
  | iface => obtain ⟨a, b, h1, _⟩ := nil_split h; rcases nil_iface hx h1 with ⟨_, rfl⟩ | ⟨_, _, _, rfl⟩ <;> rfl

theorem s_eqv {k : EqK} {t : TypeId} {ox oy : Operand} {x y : DV} {rx ry : Value} {r neg : Bool} (ht : okEq P k t = true) (hx : DRel g H w x rx) (hy : DRel g H w y ry) (h : eqDV k x y = some r)
    (hc : k = .iface → (∃ v, ox = .const v) ∨ ∃ v, oy = .const v) :
    ((do eqGuard (if neg then .neq else .eql) t ox oy rx ry; binOp (if neg then .neq else .eql) t rx ry : Sem Value)).run P w = .ok (.bool (if neg then !r else r)) w := by
  have h1 := s_eqGuard (op := if neg then .neq else .eql) ht hx hy h hc
  have h2 := s_eqDV ht hx hy h
  have h3 := notNum_of hx h
  cases neg
  · simp only [Bool.false_eq_true, if_false] at h1 ⊢
    simp only [Sem.run_bind, h1, Result.andThen_ok, eql_notNum h3, h2, Sem.run_pure]
  · simp only [if_true] at h1 ⊢
    simp only [Sem.run_bind, h1, Result.andThen_ok, neq_notNum h3, h2, Sem.run_pure]

/-! ### copies -/
theorem take_rel {x : DV} {rx : Value} {ys : List (List DV)} {n : Nat} (hr : Rel g H w) (h : DRel g H w x rx) (he : elems H x = some ys) (hn : n ≤ ys.length) :
    ∃ x' rx', DRel g H w x' rx' ∧ elems H x' = some (ys.take n) ∧ ∀ size, Builtin.firstCells size n rx' = Builtin.firstCells size n rx := by
  by_cases hall : n = ys.length
  · subst hall
    exact ⟨x, rx, h, by rw [he, List.take_length], fun _ => rfl⟩
  have he0 := he
  unfold elems at he
  split at he
  · obtain rfl := Option.some.inj he
    simp at hn hall; omega
  · rename_i xs
    obtain rfl := Option.some.inj he
    have := h.pure
    cases this with
    | isl xs n' A cap sz r hn' hs hcap hsz hc hh =>
      subst hn'
      rw [cellsOfVals_eq] at hn ⊢
      simp only [List.length_map] at hn
      refine ⟨.p (.isl (xs.take n)), .slice (some A) n cap, .p _ _ (.isl _ _ A cap sz r (by simp; omega) hs (by omega) (fun j x hx => hsz j x (by
        rw [List.getElem?_take] at hx; split at hx; exact hx; simp at hx)) (fun j k hj hk => hc j k (by simp at hj; omega) hk) (fun j x k c hx hk => hh j x k c (by
        rw [List.getElem?_take] at hx; split at hx; exact hx; simp at hx) hk)), by simp only [elems, cellsOfVals_eq, List.map_take], fun size => rfl⟩
  · rename_i s
    obtain rfl := Option.some.inj he
    obtain ⟨b, rfl, rfl⟩ := h.str
    rw [byteCells_eq] at hn ⊢
    simp only [List.length_map] at hn
    have hlen : b.data.toList.length = b.size := Array.length_toList
    refine ⟨.p (.str ((b.data.toList.map UInt8.toNat).take n)), .string (b.extract 0 n), .p _ _ (.str _ _ (by rw [extract_toNat b 0 n (by omega) (by omega)]; simp)), by simp only [elems, byteCells_eq, List.map_take], fun size => ?_⟩
    simp only [Builtin.firstCells]
    congr 2
    have : (b.extract 0 n).extract 0 n = b.extract 0 n := by
      apply ByteArray.ext
      simp [ByteArray.data_extract, Array.extract_extract]
    rw [this]
  · rename_i b off len
    rw [getN_eq] at he
    split at he
    · rename_i gr ag z els hb
      simp only [takeN_eq, dropN_eq] at he
      split at he
      · rename_i hl
        obtain rfl := Option.some.inj he
        rw [hl] at hn hall
        have hel : elems H (.msl b off n) = some (((els.drop off).take len).take n) := by
          have h1 : (List.take n (List.drop off els)).length = n := by simp only [List.length_take, List.length_drop] at hl ⊢; omega
          simp only [elems, getN_eq, hb, takeN_eq, dropN_eq, h1, if_true]
          rw [List.take_take, Nat.min_eq_left hn]
        cases h with
        | dmsl b off len cap A h => rw [hb] at h; simp at h
        | fmsl b off len cap R z' ag' els' hH hφ hbd hcap hc =>
          exact ⟨.msl b off n, .slice (some ⟨R, off * z', none⟩) n cap, .fmsl b off n cap R z' ag' els' hH hφ (by omega) (by omega) hc, hel, fun _ => rfl⟩
        | gmsl b off len cap R z' A ag' els' hH hφ hs hbd hcap hc hf =>
          refine ⟨.msl b off n, .slice (some A) n cap, .gmsl b off n cap R z' A ag' els' hH hφ hs (by omega) (by omega) (fun m hm => hc m (Nat.lt_of_lt_of_le hm (Nat.mul_le_mul_right _ hn))) (fun h0 h1 => ?_), hel, fun _ => rfl⟩
          omega
      · simp at he
    · simp at he
  · simp at he

theorem putAt_rows {z : Nat} {els l : List (List DV)} {off : Nat} (h1 : ∀ (i : Nat) (e : List DV), els[i]? = some e → e.length = z ∧ ∀ d ∈ e, isCell d = true)
    (h2 : ∀ (i : Nat) (e : List DV), l[i]? = some e → e.length = z ∧ ∀ d ∈ e, isCell d = true) :
    ∀ (i : Nat) (e : List DV), (putAt els off l)[i]? = some e → e.length = z ∧ ∀ d ∈ e, isCell d = true := by
  intro i e hi
  rw [putAt_get] at hi
  split at hi
  · exact h2 _ e hi
  · exact h1 i e hi

theorem s_copy {dT xT e ty : TypeId} {inf : TypeInfo} {b off len z : Nat} {x : DV} {rd rx : Value} {ag : Bool} {els ys : List (List DV)} (hr : Rel g H w) (hd : P.underlying dT = some (.slice e)) (hi : P.info? e = some inf) (hz : inf.size = z)
    (hs : DRel g H w (.msl b off len) rd) (hx : DRel g H w x rx) (he : elems H x = some ys) (hb : H[b]? = some (.vec false ag z els)) (hh : headLen z ys = true) (hle : off + len ≤ els.length) :
    ∃ rv w', (Builtin.copy_ #[dT, xT] ty #[rd, rx]).run P w = .ok rv w' ∧
      Post g H w (H.set b (.vec false ag z (putAt els off (ys.take len)))) (.p (.int .i64 ((ys.take len).length : Nat))) rv w' := by
  obtain ⟨R, hφ, hR, ⟨c, ty', fr, hc, hcl, hf⟩, hels, hcell, hI⟩ := hr.blk b _ hb trivial
  obtain ⟨nw0, hl, _, _⟩ := s_elems (P := P) hr hx he hh
  have hnle : (ys.take len).length ≤ ys.length := by simp; omega
  obtain ⟨x', rx', hx', he', hfc⟩ := take_rel hr hx he hnle
  have htake : ys.take (ys.take len).length = ys.take len := by
    rw [List.length_take]
    by_cases h : len ≤ ys.length
    · rw [Nat.min_eq_left h]
    · rw [Nat.min_eq_right (by omega), List.take_length, List.take_of_length_le (by omega)]
  rw [htake] at he'
  have hh' : headLen z (ys.take len) = true := by
    cases ys with
    | nil => simp [headLen]
    | cons y r => cases len with
      | zero => rfl
      | succ len => exact hh
  obtain ⟨nw, _, hn, hnw⟩ := s_elems (P := P) hr hx' he' hh'
  rw [hfc] at hn
  obtain ⟨hsz, hys, hyc⟩ := hnw
  generalize hlq : ys.take len = l at *
  have hll : l.length ≤ len := by rw [← hlq]; simp; omega
  have hmin : Nat.min ys.length len = l.length := by rw [← hlq, List.length_take]; exact Nat.min_comm _ _
  cases hs with
  | dmsl b off len cap A h => rw [hb] at h; simp at h
  | gmsl b off len cap R' z' A ag' els' hH => rw [hb] at hH; simp at hH
  | fmsl b off len cap R' z' ag' els' hH hφ' hbd hcap hcz =>
    rw [hb] at hH
    simp only [Option.some.injEq, Blk.vec.injEq] at hH
    obtain ⟨_, rfl, rfl, rfl⟩ := hH
    rw [hφ] at hφ'; obtain rfl := Option.some.inj hφ'
    have hnl : nw.toList.length = l.length * z := by rw [Array.length_toList, hsz]
    have hm : off * z + l.length * z ≤ els.length * z := by rw [← Nat.add_mul]; exact Nat.mul_le_mul_right _ (by omega)
    obtain ⟨w', c', e1, e2, e3, e4, e5, e6, e7⟩ := r_storeCells (P := P) (a := ⟨R, off * z, none⟩) rfl nw.toList 0 w c ty' fr hc hf (by simp only [hnl]; omega) (fun u hu => by
      obtain ⟨m, hm'⟩ := List.getElem?_of_mem hu
      have hmlt : m < l.length * z := by have := (List.getElem?_eq_some_iff.1 hm').1; omega
      have hz0 : 0 < z := by rcases Nat.eq_zero_or_pos z with h0 | h0
                             · subst h0; simp at hmlt
                             · exact h0
      have h1 : m / z < l.length := Nat.div_lt_of_lt_mul (by rw [Nat.mul_comm]; exact hmlt)
      have h2 := (hys _ _ (show l[m / z]? = some l[m / z] by simp [h1])).1
      have h3 : m % z < (l[m / z]).length := by rw [h2]; exact Nat.mod_lt _ hz0
      obtain ⟨v, h4, _, h5⟩ := hyc (m / z) _ (m % z) _ (show l[m / z]? = some l[m / z] by simp [h1]) (show (l[m / z])[m % z]? = some _ by simp [h3]; rfl)
      rw [show m / z * z + m % z = m by rw [Nat.mul_comm]; exact Nat.div_add_mod m z] at h4
      rw [Array.getElem?_toList, h4] at hm'
      obtain rfl := Option.some.inj hm'; exact h5)
    simp only [Nat.add_zero, hnl] at e4
    have hw : Wrote w w' R := ⟨e6, e5, by rw [csize_eq hc, csize_eq e2, e3]; exact Nat.le_refl _, e7⟩
    have hnI : ∀ o', ¬ g.I R o' := fun o' h => by have := (hI o').1 h; simp at this
    have hev : Ev g H w g (H.set b (.vec false ag z (putAt els off l))) w' :=
      Ev.write hr hb trivial hφ hw rfl (fun _ _ h => h) (fun _ _ _ h => h) (fun o' h => absurd h (hnI o')) (fun _ _ o' h => absurd h (hnI o')) (.inl ⟨_, rfl, putAt_len _ _ _, rfl⟩)
    refine ⟨.int .i64 l.length, w', ?_, g, rel_write hr hb trivial hφ hw rfl (fun _ _ h => h) (fun _ _ _ h => h) hev (fun _ => ?_), hev, .p _ _ (.int _ _)⟩
    · simp only [Builtin.copy_, Sem.run_bind]
      simp [r_under hd, hl, hmin, r_size hi, hz, hn, e1, goInt]
    · refine ⟨⟨c', ty', fr, e2, by rw [e3, putAt_len]; exact hcl, by rw [e3]; exact hf⟩, putAt_rows hels hys, fun i' e k d he hd => ?_, fun o' => by rw [hI]; simp⟩
      rw [cell?_eq e2, e4]
      rw [putAt_get] at he
      split at he
      · rename_i hc1
        have hkz : k < z := by rw [← (hys _ e he).1]; exact (List.getElem?_eq_some_iff.1 hd).1
        have h5 := mul_le_of_lt (z := z) (show i' - off < l.length by omega)
        have h6 : i' * z = off * z + (i' - off) * z := by rw [← Nat.add_mul]; congr 1; omega
        rw [if_pos (by omega)]
        obtain ⟨v, h7, h8, _⟩ := hyc _ e k d he hd
        exact ⟨v, by rw [show i' * z + k - off * z = (i' - off) * z + k by omega, Array.getElem?_toList, h7], h8.mono hev⟩
      · rename_i hc1
        have hkz : k < z := by rw [← (hels _ e he).1]; exact (List.getElem?_eq_some_iff.1 hd).1
        have hil : i' < els.length := (List.getElem?_eq_some_iff.1 he).1
        have hne : ¬ (off * z ≤ i' * z + k ∧ i' * z + k < off * z + l.length * z) := by
          rintro ⟨h5, h6⟩
          by_cases h7 : i' < off
          · have := mul_le_of_lt (z := z) h7; omega
          · have h8 : off + l.length ≤ i' := by omega
            have := Nat.mul_le_mul_right z h8
            rw [Nat.add_mul] at this; omega
        rw [if_neg hne]
        obtain ⟨v, h7, h8⟩ := hcell i' e k d he hd
        rw [cell?_eq hc] at h7
        exact ⟨v, h7, h8.mono hev⟩

/-! ### the next sign of a text -/
theorem s_next {ty : TypeId} {b pos : Nat} {s : List Nat} {rx : Value} {v : DV} {H' : Heap} {lo : Nat} (hr : Rel g H w) (hx : DRel g H w (.it b) rx) (h : nextDV lo H (.it b) = some (v, H')) :
    ∃ rv w', (Instr.next rx true ty).run P w = .ok rv w' ∧ Post g H w H' v rv w' := by
  simp only [nextDV, getN_eq] at h
  split at h
  · rename_i s pos hb
    split at h
    · obtain ⟨R, hφ, hR, ⟨s', hw, rfl⟩, hnI⟩ := hr.blk b _ hb trivial
      have hrx : rx = .pointer (some ⟨R, 0, none⟩) := by
        cases hx with
        | dit b R h => rw [hb] at h; simp at h
        | it b R' s2 pos2 hH hφ' => rw [hφ] at hφ'; obtain rfl := Option.some.inj hφ'; rfl
      subst hrx
      have hg : (getObj R).run P w = .ok (.stringIter s' pos) w := by simp [getObj, Sem.run, hw]
      have hset : ∀ o, (setObj R o).run P w = .ok () { w with heap := w.heap.setIfInBounds R o } := fun o => by simp [setObj, Sem.run, hw]
      have hlen : s'.data.toList.length = s'.size := Array.length_toList
      split at h
      · rename_i c hc
        split at h
        · rename_i hlt
          simp only [Option.some.injEq, Prod.mk.injEq, setN_eq] at h
          obtain ⟨rfl, rfl⟩ := h
          simp only [List.getElem?_map, Option.map_eq_some_iff, Array.getElem?_toList] at hc
          obtain ⟨y, hy, rfl⟩ := hc
          have hpos : pos < s'.size := (Array.getElem?_eq_some_iff.1 hy).1
          have hy2 : s'[pos]'hpos = y := (Array.getElem?_eq_some_iff.1 hy).2
          have hdec := decode_ascii s' pos hpos (by rw [hy2]; exact hlt)
          rw [hy2] at hdec
          let w' : World := { w with heap := w.heap.setIfInBounds R (.stringIter s' (pos + 1)) }
          have hwr : Wrote w w' R := ⟨by simp [w'], fun R' hne => by simp [w', Array.getElem?_setIfInBounds_ne (Ne.symm hne)], by simp [csize, hw], ⟨rfl, rfl, rfl⟩⟩
          have hev : Ev g H w g (H.set b (.iter (s'.data.toList.map UInt8.toNat) (pos + 1))) w' :=
            Ev.write hr hb trivial hφ hwr rfl (fun _ _ h => h) (fun _ _ _ h => h) (fun o h => absurd h (hnI o)) (fun _ _ o h => absurd h (hnI o)) (.inl ⟨pos + 1, rfl, rfl⟩)
          refine ⟨.tuple #[.bool true, .int .i64 pos, .int .i32 y.toNat], w', ?_, g, rel_write hr hb trivial hφ hwr rfl (fun _ _ h => h) (fun _ _ _ h => h) hev (fun _ => ⟨⟨s', by simp [w', hR], rfl⟩, hnI⟩), hev, ?_⟩
          · simp [Instr.next, hg, hpos, hdec, hset, goInt, w']
          · refine .p _ _ (.tup _ _ (by simp) fun i c v hc hv => ?_)
            match i, hc, hv with
            | 0, hc, hv => simp at hc hv; subst hc hv; exact .bool _
            | 1, hc, hv => simp at hc hv; subst hc hv; exact .int _ _
            | 2, hc, hv => simp at hc hv; subst hc hv; exact .int _ _
            | i + 3, hc, hv => simp at hc
        · simp at h
      · rename_i hc
        simp only [Option.some.injEq, Prod.mk.injEq] at h
        obtain ⟨rfl, rfl⟩ := h
        have hpos : ¬ pos < s'.size := fun hlt => by
          have h1 := List.getElem?_eq_none_iff.1 hc
          rw [List.length_map, hlen] at h1; omega
        refine ⟨.tuple #[.bool false], w, by simp [Instr.next, hg, hpos], Post.same hr (.p _ _ (.tup _ _ (by simp) fun i c v hc hv => ?_))⟩
        match i, hc, hv with
        | 0, hc, hv => simp at hc hv; subst hc hv; exact .bool _
        | i + 1, hc, hv => simp at hc
    · simp at h
  · simp at h

end Go.Lv

/- One operation of the small language stands for one of Go's: the check, and that it is right. -/
namespace Go.Lv
set_option linter.unusedVariables false
set_option linter.unusedSimpArgs false

/-- a constant stands for a constant -/
def relC : PV → Value → Bool
  | .int k n, .int k' n' => decide (k = k') && decide (n = n')
  | .bool a, .bool b => a == b
  | .str l, .string s => l == s.data.toList.map UInt8.toNat
  | .nils, .slice none 0 0 => true
  | .nilp, .pointer none => true
  | .nilm, .map none => true
  | .nilf, .nilFunc => true
  | .nili, .nilIface => true
  | _, _ => false

def okOpd (vt : List (Option Nat)) (ds : List (Option Nat)) : Opd → Operand → Bool
  | .v s, .tmp t => getN vt s == some (some t)
  | .t k, .tmp t => getN ds k == some (some t)
  | .c (.fn f []), .func f' => rid f == f'
  | .c x, .const v => relC x v
  | _, _ => false

def okOpds (vt : List (Option Nat)) (ds : List (Option Nat)) : List Opd → List Operand → Bool
  | [], [] => true
  | x :: r, y :: s => okOpd vt ds x y && okOpds vt ds r s
  | _, _ => false

/-- What stands in a frame. -/
structure St (vt : List (Option Nat)) (ds : List (Option Nat)) (g : Gh) (H : Heap) (w : World) (env ts : List DV) (a : Act) : Prop where
  henv : ∀ (s t : Nat), vt[s]? = some (some t) → ∃ v rv, env[s]? = some v ∧ a.tmps[t]? = some rv ∧ DRel g H w v rv
  elen : env.length = vt.length
  hts : ∀ (k t : Nat), ds[k]? = some (some t) → ∃ v rv, ts[k]? = some v ∧ a.tmps[t]? = some rv ∧ DRel g H w v rv
  tlen : ts.length = ds.length

section
variable {P : Program} {vt : List (Option Nat)} {ds : List (Option Nat)} {g : Gh} {H : Heap} {w : World} {env ts : List DV} {a : Act}

theorem relC_spec {x : PV} {v : Value} (h : relC x v = true) : DRel g H w (.p x) v := by
  unfold relC at h
  split at h
  · simp only [Bool.and_eq_true, decide_eq_true_eq] at h; obtain ⟨rfl, rfl⟩ := h; exact .p _ _ (.int _ _)
  · simp only [beq_iff_eq] at h; subst h; exact .p _ _ (.bool _)
  · simp only [beq_iff_eq] at h; exact .p _ _ (.str _ _ h)
  · exact .p _ _ .nils
  · exact .p _ _ .nilp
  · exact .p _ _ .nilm
  · exact .p _ _ .nilf
  · exact .p _ _ .nili
  · simp at h

theorem St.opd (hs : St vt ds g H w env ts a) {x : Opd} {y : Operand} (h : okOpd vt ds x y = true) : DRel g H w (Lv.opd env ts x) (a.eval y) := by
  unfold okOpd at h
  split at h
  · simp only [beq_iff_eq, getN_eq] at h
    obtain ⟨v, rv, h1, h2, h3⟩ := hs.henv _ _ h
    simpa [Lv.opd, getN_eq, h1, Act.eval, h2] using h3
  · simp only [beq_iff_eq, getN_eq] at h
    obtain ⟨v, rv, h1, h2, h3⟩ := hs.hts _ _ h
    simpa [Lv.opd, getN_eq, h1, Act.eval, h2] using h3
  · simp only [beq_iff_eq] at h
    subst h
    exact .p _ _ (.fn _ [] #[] rfl fun i c v h => by simp at h)
  · exact relC_spec h
  · simp at h

theorem St.opds (hs : St vt ds g H w env ts a) : ∀ {xs : List Opd} {ys : List Operand}, okOpds vt ds xs ys = true → xs.length = ys.length ∧
    ∀ (i : Nat) (c : DV) (v : Value), (Lv.opds env ts xs)[i]? = some c → (ys.map a.eval)[i]? = some v → DRel g H w c v
  | [], [], _ => ⟨rfl, fun i c v h => by simp [Lv.opds] at h⟩
  | [], _ :: _, h => by simp [okOpds] at h
  | _ :: _, [], h => by simp [okOpds] at h
  | x :: r, y :: s, h => by
    simp only [okOpds, Bool.and_eq_true] at h
    obtain ⟨h1, h2⟩ := hs.opds h.2
    refine ⟨by simp [h1], fun i c v hc hv => ?_⟩
    cases i with
    | zero => simp [Lv.opds] at hc hv; subst hc hv; exact hs.opd h.1
    | succ i => exact h2 i c v (by simpa [Lv.opds] using hc) (by simpa using hv)
theorem opds_len {env ts : List DV} : ∀ xs : List Opd, (Lv.opds env ts xs).length = xs.length
  | [] => rfl
  | x :: r => by simp [Lv.opds, opds_len r]

/-- An operation of Go's comes to a value, or to none. -/
def Runs (P : Program) (o : Oper) (a : Act) (w : World) (K : Value → World → Prop) : Prop :=
  ∃ rv w', ((execOp a.eval o).run P w = .ok (.value rv) w' ∨ ((execOp a.eval o).run P w = .ok .skip w' ∧ rv = Go.undef)) ∧ K rv w'

theorem Runs.of_value {o : Oper} {s : Sem Value} {K : Value → World → Prop} (he : execOp a.eval o = (do pure (.value (← s)))) (h : ∃ rv w', s.run P w = .ok rv w' ∧ K rv w') : Runs P o a w K := by
  obtain ⟨rv, w', h1, h2⟩ := h
  exact ⟨rv, w', .inl (by rw [he]; simp [h1]), h2⟩
theorem Runs.of_same {o : Oper} {s : Sem Value} {v : DV} (hr : Rel g H w) (he : execOp a.eval o = (do pure (.value (← s)))) (h : ∃ rv, s.run P w = .ok rv w ∧ DRel g H w v rv) : Runs P o a w (Post g H w H v) := by
  obtain ⟨rv, h1, h2⟩ := h
  exact .of_value he ⟨rv, w, h1, Post.same hr h2⟩
theorem Runs.of_unit {o : Oper} {s : Sem Unit} {K : Value → World → Prop} (he : execOp a.eval o = (do s; pure .skip)) (h : ∃ w', s.run P w = .ok () w' ∧ K Go.undef w') : Runs P o a w K := by
  obtain ⟨w', h1, h2⟩ := h
  exact ⟨Go.undef, w', .inr ⟨by rw [he]; simp [h1], rfl⟩, h2⟩
end

/-! ### each kind -/
def okMov (P : Program) (vt : List (Option Nat)) (ds : List (Option Nat)) (x : Opd) : Op → Bool
  | .move y => okOpd vt ds x y
  | .assign y => okOpd vt ds x y
  | .call { callee := .builtin .len, args, argTypes } => match argTypes.toList, x with
    | [t], .c (.int .i64 n) => (match P.underlying t with | some (.array m _) => decide ((m : Int) = n) | _ => false) && args.size == 1
    | _, _ => false
  | _ => false

section kinds
variable {P : Program} {vt : List (Option Nat)} {ds : List (Option Nat)} {g : Gh} {H : Heap} {w : World} {env ts : List DV} {a : Act} {o : Oper}

theorem snd_mov {x : Opd} (hs : St vt ds g H w env ts a) (hr : Rel g H w) (h : okMov P vt ds x o.op = true) : Runs P o a w (Post g H w H (opd env ts x)) := by
  unfold okMov at h
  split at h
  · rename_i y hy
    exact ⟨a.eval y, w, .inl (by simp [execOp, hy]), Post.same hr (hs.opd h)⟩
  · rename_i y hy
    exact ⟨a.eval y, w, .inl (by simp [execOp, hy]), Post.same hr (hs.opd h)⟩
  · rename_i args argTypes ho
    split at h
    · rename_i t n hat
      simp only [Bool.and_eq_true, beq_iff_eq] at h
      obtain ⟨h1, h2⟩ := h
      split at h1
      · rename_i m e hu
        have hn : (m : Int) = n := by simpa using h1
        have hat' : argTypes = #[t] := by apply Array.toList_inj.1; simpa using hat
        obtain ⟨z, hz⟩ : ∃ z, args = #[z] := by
          refine ⟨args[0], ?_⟩
          apply Array.ext (by simp [h2]) 
          intro i hi1 hi2
          simp at hi2; subst hi2; rfl
        subst hat' hz hn
        refine ⟨.int .i64 m, w, .inl ?_, Post.same hr (.p _ _ (.int _ _))⟩
        simp [execOp, ho, resolve, invoke, builtin, Builtin.len_, r_under hu, goInt]
      · simp at h1
    · simp at h
  · simp at h

def okPick (vt : List (Option Nat)) (ds : List (Option Nat)) (c x y : Opd) : Op → Bool
  | .pick c' x' y' => okOpd vt ds c c' && okOpd vt ds x x' && okOpd vt ds y y'
  | _ => false

theorem snd_pick {c x y : Opd} {t : Bool} (hs : St vt ds g H w env ts a) (hr : Rel g H w) (h : okPick vt ds c x y o.op = true) (hc : opd env ts c = .p (.bool t)) :
    Runs P o a w (Post g H w H (if t then opd env ts x else opd env ts y)) := by
  unfold okPick at h
  split at h
  · rename_i c' x' y' ho
    simp only [Bool.and_eq_true] at h
    obtain ⟨⟨h1, h2⟩, h3⟩ := h
    have hcb := hs.opd h1
    rw [hc] at hcb
    have := hcb.bool
    refine ⟨if t then a.eval x' else a.eval y', w, .inl (by simp [execOp, ho, this, asBool]), Post.same hr ?_⟩
    cases t
    · exact hs.opd h3
    · exact hs.opd h2
  · simp at h

def okBin (P : Program) (vt : List (Option Nat)) (ds : List (Option Nat)) (op : BinOp) (x y : Opd) : Op → Bool
  | .binOp op' t x' y' _ => decide (op = op') && okOpd vt ds x x' && okOpd vt ds y y'
  | _ => false

theorem eqGuard_num {op : BinOp} {t : TypeId} {x y : Operand} {rx ry : Value} (h : (∃ k n, rx = .int k n) ∨ ∃ s, rx = .string s) : (eqGuard op t x y rx ry).run P w = .ok () w := by
  rcases h with ⟨k, n, rfl⟩ | ⟨s, rfl⟩ <;> cases op <;> simp [eqGuard]

theorem s_binPV {op : BinOp} {t : TypeId} {I : Nat → Nat → Prop} {x y v : PV} {rx ry : Value} {ox oy : Operand} (hx : PRel I w x rx) (hy : PRel I w y ry) (h : binPV op x y = some v) :
    ∃ rv, ((do eqGuard op t ox oy rx ry; binOp op t rx ry : Sem Value)).run P w = .ok rv w ∧ PRel I w v rv := by
  unfold binPV at h
  split at h
  · rename_i k n k' m
    obtain rfl := hx.int_inv
    obtain rfl := hy.int_inv
    have hg := eqGuard_num (P := P) (w := w) (op := op) (t := t) (x := ox) (y := oy) (rx := .int k n) (ry := .int k' m) (.inl ⟨k, n, rfl⟩)
    have key : ∃ rv, (Go.binOp op t (.int k n) (.int k' m)).run P w = .ok rv w ∧ PRel I w v rv := by
      split at h
      · exact s_shift t h (.inl rfl)
      · exact s_shift t h (.inr rfl)
      · rename_i h1 h2
        split at h
        · rename_i e; subst e; exact s_intBin t h ⟨h1, h2⟩
        · simp at h
    obtain ⟨rv, h1, h2⟩ := key
    exact ⟨rv, by simp [hg, h1], h2⟩
  · obtain ⟨s, rfl, rfl⟩ := hx.str_inv
    obtain ⟨s', rfl, rfl⟩ := hy.str_inv
    obtain ⟨rv, h1, h2⟩ := s_strBin (P := P) (I := I) (w := w) t h
    have hg := eqGuard_num (P := P) (w := w) (op := op) (t := t) (x := ox) (y := oy) (rx := .string s) (ry := .string s') (.inr ⟨s, rfl⟩)
    exact ⟨rv, by simp [hg, h1], h2⟩
  · simp at h

theorem snd_bin {op : BinOp} {x y : Opd} {p q v : PV} (hs : St vt ds g H w env ts a) (hr : Rel g H w) (h : okBin P vt ds op x y o.op = true) (hx : opd env ts x = .p p) (hy : opd env ts y = .p q) (hv : binPV op p q = some v) :
    Runs P o a w (Post g H w H (.p v)) := by
  unfold okBin at h
  split at h
  · rename_i op' t x' y' ty ho
    simp only [Bool.and_eq_true, decide_eq_true_eq] at h
    obtain ⟨⟨rfl, h1⟩, h2⟩ := h
    have hx' := hs.opd h1
    have hy' := hs.opd h2
    rw [hx] at hx'; rw [hy] at hy'
    obtain ⟨rv, h3, h4⟩ := s_binPV (P := P) (t := t) (ox := x') (oy := y') hx'.pure hy'.pure hv
    exact Runs.of_same hr (s := (do eqGuard op t x' y' (a.eval x') (a.eval y'); binOp op t (a.eval x') (a.eval y'))) (by simp only [execOp, ho]) ⟨rv, h3, .p _ _ h4⟩
  · simp at h

def isConstO : Operand → Bool
  | .const _ => true
  | _ => false
def isIfaceK : EqK → Bool
  | .iface => true
  | _ => false
def okEqv (P : Program) (vt : List (Option Nat)) (ds : List (Option Nat)) (k : EqK) (neg : Bool) (x y : Opd) : Op → Bool
  | .binOp op t x' y' _ => decide (op = if neg then .neq else .eql) && okEq P k t && (!isIfaceK k || isConstO x' || isConstO y') && okOpd vt ds x x' && okOpd vt ds y y'
  | _ => false

theorem snd_eqv {k : EqK} {neg r : Bool} {x y : Opd} (hs : St vt ds g H w env ts a) (hr : Rel g H w) (h : okEqv P vt ds k neg x y o.op = true) (hv : eqDV k (opd env ts x) (opd env ts y) = some r) :
    Runs P o a w (Post g H w H (.p (.bool (if neg then !r else r)))) := by
  unfold okEqv at h
  split at h
  · rename_i op t x' y' ty ho
    simp only [Bool.and_eq_true, decide_eq_true_eq] at h
    obtain ⟨⟨⟨⟨rfl, h1⟩, h2⟩, h3⟩, h4⟩ := h
    have hc : k = .iface → (∃ v, x' = .const v) ∨ ∃ v, y' = .const v := fun e => by
      subst e
      simp only [isIfaceK, Bool.not_true, Bool.false_or, Bool.or_eq_true] at h2
      rcases h2 with h2 | h2
      · cases x' <;> simp [isConstO] at h2; exact .inl ⟨_, rfl⟩
      · cases y' <;> simp [isConstO] at h2; exact .inr ⟨_, rfl⟩
    have h5 := s_eqv (P := P) (neg := neg) h1 (hs.opd h3) (hs.opd h4) hv hc
    exact Runs.of_same hr (by simp only [execOp, ho]) ⟨_, h5, .p _ _ (.bool _)⟩
  · simp at h

def okUn (vt : List (Option Nat)) (ds : List (Option Nat)) (op : UnOp) (x : Opd) : Op → Bool
  | .unOp op' _ x' => decide (op = op') && okOpd vt ds x x'
  | _ => false
theorem snd_un {op : UnOp} {x : Opd} {p v : PV} (hs : St vt ds g H w env ts a) (hr : Rel g H w) (h : okUn vt ds op x o.op = true) (hx : opd env ts x = .p p) (hv : unPV op p = some v) :
    Runs P o a w (Post g H w H (.p v)) := by
  unfold okUn at h
  split at h
  · rename_i op' t x' ho
    simp only [Bool.and_eq_true, decide_eq_true_eq] at h
    obtain ⟨rfl, h1⟩ := h
    have hx' := hs.opd h1
    rw [hx] at hx'
    obtain ⟨rv, h3, h4⟩ := s_un (P := P) hv hx'.pure
    exact Runs.of_same hr (by simp only [execOp, ho]) ⟨rv, h3, .p _ _ h4⟩
  · simp at h

def okConv (P : Program) (vt : List (Option Nat)) (ds : List (Option Nat)) (k : IntKind) (x : Opd) : Op → Bool
  | .convert src dst x' => (match P.underlying dst with | some (.int k') => decide (k = k') | _ => false) && (P.underlying src).isSome && okOpd vt ds x x'
  | _ => false
theorem snd_conv {k k' : IntKind} {n : Int} {x : Opd} (hs : St vt ds g H w env ts a) (hr : Rel g H w) (h : okConv P vt ds k x o.op = true) (hx : opd env ts x = .p (.int k' n)) :
    Runs P o a w (Post g H w H (.p (.int k (k.wrap n)))) := by
  unfold okConv at h
  split at h
  · rename_i src dst x' ho
    simp only [Bool.and_eq_true] at h
    obtain ⟨⟨h1, h2⟩, h3⟩ := h
    have hx' := hs.opd h3
    rw [hx] at hx'
    split at h1
    · rename_i k2 hd
      simp only [decide_eq_true_eq] at h1; subst h1
      obtain ⟨d, hsrc⟩ := Option.isSome_iff_exists.1 h2
      refine Runs.of_same hr (s := convert src dst (a.eval x')) (by simp only [execOp, ho]) ⟨.int k (k.wrap n), ?_, .p _ _ (.int _ _)⟩
      rw [hx'.int]
      simp only [convert, Sem.run_bind, r_under hsrc, r_under hd, Result.andThen_ok, Conv.intToInt, Sem.run_pure]
    · simp at h1
  · simp at h

/-! ### texts and bytes -/
def isByteSl (P : Program) (t : TypeId) : Bool :=
  match P.underlying t with
  | some (.slice e) => (match P.underlying e with | some (.int .u8) => true | _ => false)
  | _ => false
def isStr (P : Program) (t : TypeId) : Bool :=
  match P.underlying t with
  | some .string => true
  | _ => false
theorem isByteSl_spec {t : TypeId} (h : isByteSl P t = true) : ∃ e, P.underlying t = some (.slice e) ∧ P.underlying e = some (.int .u8) := by
  unfold isByteSl at h
  split at h
  · rename_i e he
    split at h
    · rename_i h2; exact ⟨e, he, h2⟩
    · simp at h
  · simp at h
theorem isStr_spec {t : TypeId} (h : isStr P t = true) : P.underlying t = some .string := by
  unfold isStr at h
  split at h
  · assumption
  · simp at h

def okS2b (P : Program) (vt : List (Option Nat)) (ds : List (Option Nat)) (x : Opd) : Op → Bool
  | .convert src dst x' => isStr P src && isByteSl P dst && okOpd vt ds x x'
  | _ => false
theorem snd_s2b {x : Opd} {s : List Nat} (hs : St vt ds g H w env ts a) (hr : Rel g H w) (h : okS2b P vt ds x o.op = true) (hx : opd env ts x = .p (.str s)) :
    Runs P o a w (Post g H w H (.p (.isl (byteVals s)))) ∧ ∀ gr, Runs P o a w (Post g H w (H ++ [.vec gr false 1 (byteCells s)]) (.msl H.length 0 s.length)) := by
  unfold okS2b at h
  split at h
  · rename_i src dst x' ho
    simp only [Bool.and_eq_true] at h
    obtain ⟨⟨h1, h2⟩, h3⟩ := h
    have hx' := hs.opd h3
    rw [hx] at hx'
    obtain ⟨e, h4, h5⟩ := isByteSl_spec h2
    obtain ⟨rv, w', h6, h7, h8⟩ := s_s2b (ag := false) hr h4 h5 (isStr_spec h1) hx'
    exact ⟨Runs.of_value (s := convert src dst (a.eval x')) (by simp only [execOp, ho]) ⟨rv, w', h6, h7⟩, fun gr => Runs.of_value (s := convert src dst (a.eval x')) (by simp only [execOp, ho]) ⟨rv, w', h6, h8 gr⟩⟩
  · simp at h

def okB2s (P : Program) (vt : List (Option Nat)) (ds : List (Option Nat)) (x : Opd) : Op → Bool
  | .convert src dst x' => isByteSl P src && isStr P dst && okOpd vt ds x x'
  | _ => false
theorem snd_b2s {x : Opd} {s : List Nat} {l : List (List DV)} {vs : List PV} (hs : St vt ds g H w env ts a) (hr : Rel g H w) (h : okB2s P vt ds x o.op = true) (hns : ∀ s, opd env ts x ≠ .p (.str s))
    (hel : elems H (opd env ts x) = some l) (hv : valsOfCells false l = some vs) (hb : bytesOfVals vs = some s) : Runs P o a w (Post g H w H (.p (.str s))) := by
  unfold okB2s at h
  split at h
  · rename_i src dst x' ho
    simp only [Bool.and_eq_true] at h
    obtain ⟨⟨h1, h2⟩, h3⟩ := h
    obtain ⟨e, h4, h5⟩ := isByteSl_spec h1
    exact Runs.of_same hr (s := convert src dst (a.eval x')) (by simp only [execOp, ho]) (s_b2s hr h4 h5 (isStr_spec h2) (hs.opd h3) hns hel hv hb)
  · simp at h

def okB2b (P : Program) (vt : List (Option Nat)) (ds : List (Option Nat)) (x : Opd) : Op → Bool
  | .convert src dst x' => src == dst && isByteSl P src && okOpd vt ds x x'
  | _ => false
theorem snd_b2b {x : Opd} {b len z : Nat} {gr ag : Bool} {els : List (List DV)} (hs : St vt ds g H w env ts a) (hr : Rel g H w) (h : okB2b P vt ds x o.op = true) (hx : opd env ts x = .msl b 0 len)
    (hb : H[b]? = some (.vec gr ag z els)) (hlen : els.length = len) : Runs P o a w (Post g H w H (.msl b 0 len)) := by
  unfold okB2b at h
  split at h
  · rename_i src dst x' ho
    simp only [Bool.and_eq_true, beq_iff_eq] at h
    obtain ⟨⟨rfl, h1⟩, h3⟩ := h
    obtain ⟨e, h4, h5⟩ := isByteSl_spec h1
    have hx' := hs.opd h3
    rw [hx] at hx'
    exact Runs.of_value (s := convert src src (a.eval x')) (by simp only [execOp, ho]) (s_b2b hr h4 h5 hx' hb hlen)
  · simp at h

/-! ### boxes and memory -/
def okBox (vt : List (Option Nat)) (ds : List (Option Nat)) (x : Opd) : Op → Bool
  | .box _ x' => okOpd vt ds x x'
  | _ => false
theorem snd_box_val {x : Opd} {v : PV} (hs : St vt ds g H w env ts a) (hr : Rel g H w) (h : okBox vt ds x o.op = true) (hx : opd env ts x = .p v) (hc : okCells (cellsD (.p v)) = true) :
    Runs P o a w (Post g H w H (.p (.cptr v))) := by
  unfold okBox at h
  split at h
  · rename_i t x' ho
    have hx' := hs.opd h
    rw [hx] at hx'
    exact Runs.of_value (s := Instr.box t (a.eval x')) (by simp only [execOp, ho]) (s_box_val hr hx' hc)
  · simp at h
theorem snd_box_fix {x : Opd} {ag : Bool} (hs : St vt ds g H w env ts a) (hr : Rel g H w) (h : okBox vt ds x o.op = true) (hc : okCells (cellsD (opd env ts x)) = true) :
    Runs P o a w (Post g H w (H ++ [.vec false ag (cellsD (opd env ts x)).length [cellsD (opd env ts x)]]) (.ptr H.length 0 0)) := by
  unfold okBox at h
  split at h
  · rename_i t x' ho
    exact Runs.of_value (s := Instr.box t (a.eval x')) (by simp only [execOp, ho]) (s_box_fix hr (hs.opd h) hc)
  · simp at h

def okAlloc (P : Program) (n : Nat) (z : PV) : Op → Bool
  | .alloc t => match P.info? t with
    | some i => (match i.zero with | some zv => relZero z zv | none => false)
    | none => false
  | _ => false
theorem snd_alloc {n : Nat} {z : PV} (hr : Rel g H w) (h : okAlloc P n z o.op = true) (hn : (cellsP z).length = n) :
    Runs P o a w (Post g H w (H ++ [.vec false (isAggP z) n [(cellsP z).map .p]]) (.ptr H.length 0 0)) := by
  unfold okAlloc at h
  split at h
  · rename_i t ho
    split at h
    · rename_i i hi
      split at h
      · rename_i zv hz
        exact Runs.of_value (s := Instr.alloc t true (.tuple #[])) (by simp only [execOp, ho]) (s_alloc hr hi hz h hn)
      · simp at h
    · simp at h
  · simp at h

def okLoad (P : Program) (vt : List (Option Nat)) (ds : List (Option Nat)) (ag : Bool) (n : Nat) (x : Opd) : Op → Bool
  | .load t x' => okTy P t ag n && okOpd vt ds x x'
  | _ => false
theorem snd_load {ag : Bool} {n : Nat} {x : Opd} {v : DV} (hs : St vt ds g H w env ts a) (hr : Rel g H w) (h : okLoad P vt ds ag n x o.op = true) (hv : loadDV H ag n (opd env ts x) = some v) :
    Runs P o a w (Post g H w H v) := by
  unfold okLoad at h
  split at h
  · rename_i t x' ho
    simp only [Bool.and_eq_true] at h
    exact Runs.of_same hr (s := Instr.loadAt t (a.eval x')) (by simp only [execOp, ho]) (s_load h.1 hr (hs.opd h.2) hv)
  · simp at h

def okStore (P : Program) (vt : List (Option Nat)) (ds : List (Option Nat)) (n : Nat) (x v : Opd) : Op → Bool
  | .store t x' v' => szOf P t == some n && okOpd vt ds x x' && okOpd vt ds v v'
  | _ => false
theorem szOf_spec {t : TypeId} {n : Nat} (h : szOf P t = some n) : ∃ i, P.info? t = some i ∧ i.size = n := by
  unfold szOf at h
  split at h
  · rename_i i hi; exact ⟨i, hi, Option.some.inj h⟩
  · simp at h
theorem snd_store {n lo : Nat} {x v : Opd} {H' : Heap} (hs : St vt ds g H w env ts a) (hr : Rel g H w) (h : okStore P vt ds n x v o.op = true) (hv : storeDV lo H n (opd env ts x) (opd env ts v) = some H') :
    Runs P o a w (Post g H w H' (.p .undef)) := by
  unfold okStore at h
  split at h
  · rename_i t x' v' ho
    simp only [Bool.and_eq_true, beq_iff_eq] at h
    obtain ⟨⟨h1, h2⟩, h3⟩ := h
    obtain ⟨i, hi, hn⟩ := szOf_spec h1
    unfold storeDV at hv
    split at hv
    · rename_i b j q hx
      rw [getN_eq] at hv
      split at hv
      · rename_i ag z els hb
        rw [getN_eq] at hv
        split at hv
        · rename_i cs hj
          dsimp only at hv
          split at hv
          · rename_i hc
            have hH' := Option.some.inj hv
            rw [setN_eq, setN_eq] at hH'
            have hx' := hs.opd h2
            rw [hx] at hx'
            obtain ⟨w', e1, g', e2, e3⟩ := s_store (P := P) hr hi hn hx' (hs.opd h3) hb hj hc.1 hc.2.1 hc.2.2.1
            rw [hH'] at e2 e3
            exact Runs.of_unit (s := Instr.storeAt t (a.eval x') (a.eval v')) (by simp only [execOp, ho]) ⟨w', e1, g', e2, e3, .p _ _ .undef⟩
          · simp at hv
        · simp at hv
      · simp at hv
    · simp at hv
  · simp at h

def okFieldAddr (P : Program) (vt : List (Option Nat)) (ds : List (Option Nat)) (off n : Nat) (ag : Bool) (x : Opd) : Op → Bool
  | .fieldAddr s x' f => (match P.underlying s with
    | some (.struct fields) => (match fields[f]? with | some fd => fd.offset == off && okTy P fd.type ag n && n != 0 | none => false)
    | _ => false) && okOpd vt ds x x'
  | _ => false
theorem snd_fieldAddr {off n : Nat} {ag : Bool} {x : Opd} {v : DV} (hs : St vt ds g H w env ts a) (hr : Rel g H w) (h : okFieldAddr P vt ds off n ag x o.op = true) (hv : fieldDV off n ag (opd env ts x) = some v) :
    Runs P o a w (Post g H w H v) := by
  unfold okFieldAddr at h
  split at h
  · rename_i s x' f ho
    simp only [Bool.and_eq_true] at h
    obtain ⟨h1, h2⟩ := h
    split at h1
    · rename_i fields hu
      split at h1
      · rename_i fd hf
        simp only [Bool.and_eq_true, beq_iff_eq, bne_iff_ne] at h1
        obtain ⟨⟨rfl, h3⟩, h4⟩ := h1
        exact Runs.of_same hr (s := Instr.fieldAt s (a.eval x') f) (by simp only [execOp, ho]) (s_fieldAt hu hf h3 h4 (hs.opd h2) hv)
      · simp at h1
    · simp at h1
  · simp at h

def okIndexAddr (P : Program) (vt : List (Option Nat)) (ds : List (Option Nat)) (esz : Nat) (x i : Opd) : Op → Bool
  | .indexAddr t x' i' => (match P.underlying t with | some (.slice e) => szOf P e == some esz | _ => false) && okOpd vt ds x x' && okOpd vt ds i i'
  | _ => false
theorem snd_indexAddr {esz : Nat} {x i : Opd} {v : DV} (hs : St vt ds g H w env ts a) (hr : Rel g H w) (h : okIndexAddr P vt ds esz x i o.op = true) (hv : indexDV H esz (opd env ts x) (opd env ts i) = some v) :
    Runs P o a w (Post g H w H v) := by
  unfold okIndexAddr at h
  split at h
  · rename_i t x' i' ho
    simp only [Bool.and_eq_true] at h
    obtain ⟨⟨h1, h2⟩, h3⟩ := h
    split at h1
    · rename_i e hu
      simp only [beq_iff_eq] at h1
      obtain ⟨inf, hi, hn⟩ := szOf_spec h1
      exact Runs.of_same hr (s := Instr.indexAt t (a.eval x') (a.eval i')) (by simp only [execOp, ho]) (s_indexSl hu hi hn hr (hs.opd h2) (hs.opd h3) hv)
    · simp at h1
  · simp at h

def okIndexArr (P : Program) (vt : List (Option Nat)) (ds : List (Option Nat)) (len esz : Nat) (ag : Bool) (x i : Opd) : Op → Bool
  | .indexAddr t x' i' => (match P.underlying t with | some (.array n e) => n == len && okTy P e ag esz | _ => false) && okOpd vt ds x x' && okOpd vt ds i i'
  | _ => false
theorem snd_indexArr {len esz : Nat} {ag : Bool} {x i : Opd} {v : DV} (hs : St vt ds g H w env ts a) (hr : Rel g H w) (h : okIndexArr P vt ds len esz ag x i o.op = true) (hv : indexArrDV len esz ag (opd env ts x) (opd env ts i) = some v) :
    Runs P o a w (Post g H w H v) := by
  unfold okIndexArr at h
  split at h
  · rename_i t x' i' ho
    simp only [Bool.and_eq_true] at h
    obtain ⟨⟨h1, h2⟩, h3⟩ := h
    split at h1
    · rename_i n e hu
      simp only [Bool.and_eq_true, beq_iff_eq] at h1
      obtain ⟨rfl, h4⟩ := h1
      exact Runs.of_same hr (s := Instr.indexAt t (a.eval x') (a.eval i')) (by simp only [execOp, ho]) (s_indexArr hu h4 (hs.opd h2) (hs.opd h3) hv)
    · simp at h1
  · simp at h

def okIndexStr (P : Program) (vt : List (Option Nat)) (ds : List (Option Nat)) (x i : Opd) : Op → Bool
  | .index t x' i' => isStr P t && okOpd vt ds x x' && okOpd vt ds i i'
  | _ => false
theorem snd_indexStr {x i : Opd} {s : List Nat} {j c : Nat} (hs : St vt ds g H w env ts a) (hr : Rel g H w) (h : okIndexStr P vt ds x i o.op = true) (hx : opd env ts x = .p (.str s)) (hj : asNat (opd env ts i) = some j) (hc : s[j]? = some c) :
    Runs P o a w (Post g H w H (.p (.int .u8 c))) := by
  unfold okIndexStr at h
  split at h
  · rename_i t x' i' ho
    simp only [Bool.and_eq_true] at h
    obtain ⟨⟨h1, h2⟩, h3⟩ := h
    have hx' := hs.opd h2
    rw [hx] at hx'
    exact Runs.of_same hr (s := Instr.index t (a.eval x') (a.eval i')) (by simp only [execOp, ho]) ⟨_, s_indexStr (isStr_spec h1) hx' (hs.opd h3) hj hc, .p _ _ (.int _ _)⟩
  · simp at h

def okIndexV (P : Program) (vt : List (Option Nat)) (ds : List (Option Nat)) (len esz : Nat) (ag : Bool) (x i : Opd) : Op → Bool
  | .index t x' i' => (match P.underlying t with | some (.array n e) => n == len && okTy P e ag esz | _ => false) && okOpd vt ds x x' && okOpd vt ds i i'
  | _ => false
theorem snd_indexV {len esz j : Nat} {ag : Bool} {x i : Opd} {v : DV} (hs : St vt ds g H w env ts a) (hr : Rel g H w) (h : okIndexV P vt ds len esz ag x i o.op = true)
    (hx : (∃ cs, opd env ts x = .p (.agg cs)) ∨ ∃ cs, opd env ts x = .agg cs) (hj : asNat (opd env ts i) = some j) (hlt : j < len)
    (hl : (((cellsD (opd env ts x)).drop (j * esz)).take esz).length = esz) (hv : valOf ag (((cellsD (opd env ts x)).drop (j * esz)).take esz) = some v) : Runs P o a w (Post g H w H v) := by
  unfold okIndexV at h
  split at h
  · rename_i t x' i' ho
    simp only [Bool.and_eq_true] at h
    obtain ⟨⟨h1, h2⟩, h3⟩ := h
    split at h1
    · rename_i n e hu
      simp only [Bool.and_eq_true, beq_iff_eq] at h1
      obtain ⟨rfl, h4⟩ := h1
      exact Runs.of_same hr (s := Instr.index t (a.eval x') (a.eval i')) (by simp only [execOp, ho]) (s_indexV hu h4 (hs.opd h2) hx (hs.opd h3) hj hlt hl hv)
    · simp at h1
  · simp at h

def okField (P : Program) (vt : List (Option Nat)) (ds : List (Option Nat)) (off n : Nat) (ag : Bool) (x : Opd) : Op → Bool
  | .field s x' f => (match P.underlying s with
    | some (.struct fields) => (match fields[f]? with | some fd => fd.offset == off && okTy P fd.type ag n | none => false)
    | _ => false) && okOpd vt ds x x'
  | _ => false
theorem snd_field {off n : Nat} {ag : Bool} {x : Opd} {v : DV} (hs : St vt ds g H w env ts a) (hr : Rel g H w) (h : okField P vt ds off n ag x o.op = true)
    (hx : (∃ cs, opd env ts x = .p (.agg cs)) ∨ ∃ cs, opd env ts x = .agg cs)
    (hl : (((cellsD (opd env ts x)).drop off).take n).length = n) (hv : valOf ag (((cellsD (opd env ts x)).drop off).take n) = some v) : Runs P o a w (Post g H w H v) := by
  unfold okField at h
  split at h
  · rename_i s x' f ho
    simp only [Bool.and_eq_true] at h
    obtain ⟨h1, h2⟩ := h
    split at h1
    · rename_i fields hu
      split at h1
      · rename_i fd hf
        simp only [Bool.and_eq_true, beq_iff_eq] at h1
        obtain ⟨rfl, h3⟩ := h1
        exact Runs.of_same hr (s := Instr.field s (a.eval x') f) (by simp only [execOp, ho]) (s_field hu hf h3 (hs.opd h2) hx hl hv)
      · simp at h1
    · simp at h1
  · simp at h

end kinds

end Go.Lv

/- One operation of the small language stands for one of Go's: parts, slices, maps, functions. -/
namespace Go.Lv
set_option linter.unusedVariables false
set_option linter.unusedSimpArgs false

section kinds
variable {P : Program} {vt : List (Option Nat)} {ds : List (Option Nat)} {g : Gh} {H : Heap} {w : World} {env ts : List DV} {a : Act} {o : Oper}

/-! ### aggregates and slices that are written out -/
def okParts (place : Nat → Option (Nat × Nat)) (vt : List (Option Nat)) (ds : List (Option Nat)) (n : Nat) : List (Nat × Nat × Opd) → List (Nat × Operand) → Bool
  | [], [] => true
  | (off, m, x) :: r, (i, y) :: s => place i == some (off, m) && okOpd vt ds x y && decide (off + m ≤ n) && okParts place vt ds n r s
  | _, _ => false

theorem okParts_spec {place : Nat → Option (Nat × Nat)} {n : Nat} (hs : St vt ds g H w env ts a) : ∀ {l : List (Nat × Nat × Opd)} {r : List (Nat × Operand)}, okParts place vt ds n l r = true →
    All2 (PartRel g H w place) (l.map fun p => (p.1, p.2.1, Lv.opd env ts p.2.2)) (r.map fun p => (p.1, a.eval p.2)) ∧ ∀ d ∈ (l.map fun p => (p.1, p.2.1, Lv.opd env ts p.2.2)), d.1 + d.2.1 ≤ n
  | [], [], _ => ⟨.nil, by simp⟩
  | [], _ :: _, h => by simp [okParts] at h
  | _ :: _, [], h => by simp [okParts] at h
  | (off, m, x) :: r, (i, y) :: s, h => by
    simp only [okParts, Bool.and_eq_true, beq_iff_eq, decide_eq_true_eq] at h
    obtain ⟨⟨⟨h1, h2⟩, h3⟩, h4⟩ := h
    obtain ⟨h5, h6⟩ := okParts_spec hs h4
    exact ⟨.cons ⟨h1, hs.opd h2⟩ h5, by intro d hd; simp only [List.map_cons, List.mem_cons] at hd; rcases hd with rfl | hd; exact h3; exact h6 d hd⟩

def okBuild (P : Program) (vt : List (Option Nat)) (ds : List (Option Nat)) (zero : List PV) (parts : List (Nat × Nat × Opd)) : Op → Bool
  | .build t ps => match P.info? t, placesOf P t with
    | some it, some place => (match it.zero with | some zv => relZero (.agg zero) zv | none => false) && okParts place vt ds zero.length parts ps.toList
    | _, _ => false
  | _ => false

theorem snd_build {zero : List PV} {parts : List (Nat × Nat × Opd)} {cs : List DV} (hs : St vt ds g H w env ts a) (hr : Rel g H w) (h : okBuild P vt ds zero parts o.op = true)
    (hv : buildCells env ts parts (zero.map .p) = some cs) : Runs P o a w (Post g H w H (mkAgg cs)) := by
  unfold okBuild at h
  split at h
  · rename_i t ps ho
    split at h
    · rename_i it place hi hp
      simp only [Bool.and_eq_true] at h
      obtain ⟨h1, h2⟩ := h
      split at h1
      · rename_i zv hz
        obtain ⟨h3, h4⟩ := okParts_spec hs h2
        refine Runs.of_same hr (s := Instr.build t (ps.map fun (i, x) => (i, a.eval x))) (by simp only [execOp, ho]) ?_
        exact s_build hi hz h1 hp (by simpa using h3) h4 (by rw [← bc_eq]; exact hv)
      · simp at h1
    · simp at h
  · simp at h

def okIdxs (vt : List (Option Nat)) (ds : List (Option Nat)) : Nat → List Opd → List (Nat × Operand) → Bool
  | _, [], [] => true
  | j, x :: r, (i, y) :: s => i == j && okOpd vt ds x y && okIdxs vt ds (j + 1) r s
  | _, _, _ => false

theorem okIdxs_spec (hs : St vt ds g H w env ts a) : ∀ {j : Nat} {l : List Opd} {r : List (Nat × Operand)}, okIdxs vt ds j l r = true →
    (r.map fun p => (p.1, a.eval p.2)) = idxs j (r.map fun p => a.eval p.2) ∧ l.length = r.length ∧
    ∀ (i : Nat) (x : DV) (v : Value), (Lv.opds env ts l)[i]? = some x → (r.map fun p => a.eval p.2)[i]? = some v → DRel g H w x v
  | j, [], [], _ => ⟨rfl, rfl, fun i x v h => by simp [Lv.opds] at h⟩
  | _, [], _ :: _, h => by simp [okIdxs] at h
  | _, _ :: _, [], h => by simp [okIdxs] at h
  | j, x :: l, (i, y) :: s, h => by
    simp only [okIdxs, Bool.and_eq_true, beq_iff_eq] at h
    obtain ⟨⟨rfl, h2⟩, h3⟩ := h
    obtain ⟨h4, h5, h6⟩ := okIdxs_spec hs h3
    refine ⟨by simp [idxs, h4], by simp [h5], fun k x' v hx hv => ?_⟩
    cases k with
    | zero => simp [Lv.opds] at hx hv; subst hx hv; exact hs.opd h2
    | succ k => exact h6 k x' v (by simpa [Lv.opds] using hx) (by simpa using hv)

def okBuildSl (P : Program) (vt : List (Option Nat)) (ds : List (Option Nat)) (esz : Nat) (parts : List Opd) : Op → Bool
  | .buildSlice t n ps => (match P.underlying t with
    | some (.slice e) => (match P.info? e with | some ie => ie.size == esz && ie.zero.isSome | none => false)
    | _ => false) && okIdxs vt ds 0 parts ps.toList && n == parts.length && decide (parts.length * esz ≤ 16777216)
  | _ => false

theorem snd_buildSl {esz : Nat} {parts : List Opd} {els : List (List DV)} {ag : Bool} (hs : St vt ds g H w env ts a) (hr : Rel g H w) (h : okBuildSl P vt ds esz parts o.op = true)
    (hv : rowsOf esz (opds env ts parts) = some els) :
    (∀ xs, valsOfCells ag els = some xs → Runs P o a w (Post g H w H (.p (.isl xs)))) ∧
    ∀ gr, Runs P o a w (Post g H w (H ++ [.vec gr ag esz els]) (.msl H.length 0 els.length)) := by
  unfold okBuildSl at h
  split at h
  · rename_i t n ps ho
    simp only [Bool.and_eq_true, beq_iff_eq, decide_eq_true_eq] at h
    obtain ⟨⟨⟨h1, h2⟩, rfl⟩, h4⟩ := h
    split at h1
    · rename_i e hu
      split at h1
      · rename_i ie hi
        simp only [Bool.and_eq_true, beq_iff_eq] at h1
        obtain ⟨h5, h6⟩ := h1
        obtain ⟨zv, hz⟩ := Option.isSome_iff_exists.1 h6
        obtain ⟨h7, h8, h9⟩ := okIdxs_spec hs h2
        have hlen : (opds env ts parts).length = parts.length := opds_len parts
        have hsm : (opds env ts parts).length * esz ≤ 2 ^ 24 := by simp only [hlen, Nat.reducePow]; exact h4
        have hln : (opds env ts parts).length = (ps.toList.map fun p => a.eval p.2).length := by rw [hlen, h8, List.length_map]
        have he : execOp a.eval o = (do pure (.value (← Instr.buildSlice t parts.length (ps.map fun (i, x) => (i, a.eval x)))) : Sem Next) := by simp only [execOp, ho]
        have hrs : (ps.map fun (i, x) => (i, a.eval x)).toList = idxs 0 (ps.toList.map fun p => a.eval p.2) := by rw [Array.toList_map]; exact h7
        generalize (ps.map fun (i, x) => (i, a.eval x)) = rs at he hrs
        obtain ⟨rv, w', e1, e2, e3⟩ := s_buildSl (P := P) (t := t) (ag := ag) hr hu hi h5 hz hsm hrs hln h9 hv
        rw [hlen] at e1
        exact ⟨fun xs hx => Runs.of_value he ⟨rv, w', e1, e2 xs hx⟩, fun gr => Runs.of_value he ⟨rv, w', e1, e3 gr⟩⟩
      · simp at h1
    · simp at h1
  · simp at h

/-! ### what is built in -/
/-- a call of what is built in, with two arguments -/
def call2 (vt : List (Option Nat)) (ds : List (Option Nat)) (x y : Opd) (b : Builtin) : Op → Option (TypeId × TypeId)
  | .call { callee := .builtin b', args, argTypes } => if b' == b then match args.toList, argTypes.toList with
    | [x', y'], [t, u] => if okOpd vt ds x x' && okOpd vt ds y y' then some (t, u) else none
    | _, _ => none
    else none
  | _ => none
def call1 (vt : List (Option Nat)) (ds : List (Option Nat)) (x : Opd) (b : Builtin) : Op → Option TypeId
  | .call { callee := .builtin b', args, argTypes } => if b' == b then match args.toList, argTypes.toList with
    | [x'], [t] => if okOpd vt ds x x' then some t else none
    | _, _ => none
    else none
  | _ => none
end kinds
end Go.Lv

/- One operation of the small language stands for one of Go's: what is built in, slices, maps, functions. -/
namespace Go.Lv
set_option linter.unusedVariables false
set_option linter.unusedSimpArgs false

section kinds
variable {P : Program} {vt : List (Option Nat)} {ds : List (Option Nat)} {g : Gh} {H : Heap} {w : World} {env ts : List DV} {a : Act} {o : Oper}

theorem call2_spec {x y : Opd} {b : Builtin} {t u : TypeId} (h : call2 vt ds x y b o.op = some (t, u)) : ∃ x' y', okOpd vt ds x x' = true ∧ okOpd vt ds y y' = true ∧
    ∃ cs, execOp a.eval o = builtin b #[t, u] o.type cs #[a.eval x', a.eval y'] := by
  unfold call2 at h
  split at h
  · rename_i b' args argTypes ho
    split at h
    · rename_i hb
      split at h
      · rename_i x' y' t' u' h1 h2
        split at h
        · rename_i hc
          simp only [Option.some.injEq, Prod.mk.injEq] at h
          obtain ⟨rfl, rfl⟩ := h
          simp only [Bool.and_eq_true] at hc
          have e1 : args = #[x', y'] := by apply Array.toList_inj.1; simpa using h1
          have e2 : argTypes = #[t', u'] := by apply Array.toList_inj.1; simpa using h2
          have e3 : b' = b := by simpa using hb
          subst e1 e2 e3
          exact ⟨x', y', hc.1, hc.2, #[x', y'].map fun | .const _ => true | _ => false, by simp only [execOp, ho, resolve, invoke, pure_bind]; exact congrArg _ (by simp)⟩
        · simp at h
      · simp at h
    · simp at h
  · simp at h
theorem call1_spec {x : Opd} {b : Builtin} {t : TypeId} (h : call1 vt ds x b o.op = some t) : ∃ x', okOpd vt ds x x' = true ∧ ∃ cs, execOp a.eval o = builtin b #[t] o.type cs #[a.eval x'] := by
  unfold call1 at h
  split at h
  · rename_i b' args argTypes ho
    split at h
    · rename_i hb
      split at h
      · rename_i x' t' h1 h2
        split at h
        · rename_i hc
          obtain rfl := Option.some.inj h
          have e1 : args = #[x'] := by apply Array.toList_inj.1; simpa using h1
          have e2 : argTypes = #[t'] := by apply Array.toList_inj.1; simpa using h2
          have e3 : b' = b := by simpa using hb
          subst e1 e2 e3
          exact ⟨x', hc, #[x'].map fun | .const _ => true | _ => false, by simp only [execOp, ho, resolve, invoke, pure_bind]; exact congrArg _ (by simp)⟩
        · simp at h
      · simp at h
    · simp at h
  · simp at h

def okLK (P : Program) (k : LK) (t : TypeId) : Bool :=
  match k, P.underlying t with
  | .str, some .string => true
  | .sl, some (.slice _) => true
  | .mp, some (.map _ _) => true
  | _, _ => false

def okLen (P : Program) (vt : List (Option Nat)) (ds : List (Option Nat)) (k : LK) (x : Opd) (op : Op) : Bool :=
  match call1 vt ds x .len op with
  | some t => okLK P k t
  | none => false

theorem snd_len {k : LK} {x : Opd} {n : Nat} (hs : St vt ds g H w env ts a) (hr : Rel g H w) (h : okLen P vt ds k x o.op = true) (hk : isLK k (opd env ts x) = true) (hv : lenDV H (opd env ts x) = some n) :
    Runs P o a w (Post g H w H (.p (.int .i64 n))) := by
  unfold okLen at h
  split at h
  · rename_i t hc
    obtain ⟨x', h1, cs, h2⟩ := call1_spec (a := a) hc
    have hx := hs.opd h1
    refine Runs.of_same hr (s := Builtin.len_ #[t] o.type #[a.eval x']) h2 ⟨.int .i64 n, s_len hr hx hv ?_ o.type [], .p _ _ (.int _ _)⟩
    unfold okLK at h
    split at h
    · rename_i hu
      refine .inl ⟨hu, ?_⟩
      generalize opd env ts x = v at hk
      unfold isLK at hk; split at hk <;> simp_all
    · rename_i e hu
      refine .inr (.inl ⟨⟨e, hu⟩, ?_⟩)
      generalize opd env ts x = v at hk
      unfold isLK at hk; split at hk <;> simp_all
    · rename_i k' e hu
      refine .inr (.inr ⟨⟨k', e, hu⟩, ?_⟩)
      generalize opd env ts x = v at hk
      unfold isLK at hk; split at hk <;> simp_all
    · simp at h
  · simp at h

def okApp (P : Program) (vt : List (Option Nat)) (ds : List (Option Nat)) (esz : Nat) (s x : Opd) (op : Op) : Bool :=
  match call2 vt ds s x .append op with
  | some (t, u) => (match P.underlying t with
    | some (.slice e) => (match P.info? e with
      | some i => i.size == esz && decide (i.bytes ≤ 65536) && (match i.zero with | some zv => zv.cells.size == esz | none => false)
      | none => false)
    | _ => false) && (match P.underlying u with | some (.int _) => false | some _ => true | none => false)
  | none => false

theorem snd_app {esz lo : Nat} {fix ag : Bool} {s x : Opd} {ys : List (List DV)} {v : DV} {H' : Heap} (hs : St vt ds g H w env ts a) (hr : Rel g H w) (h : okApp P vt ds esz s x o.op = true)
    (he : elems H (opd env ts x) = some ys) (hv : appDV lo H fix ag esz (opd env ts s) ys = some (v, H')) : Runs P o a w (Post g H w H' v) := by
  unfold okApp at h
  split at h
  · rename_i t u hc
    obtain ⟨s', x', h1, h2, cs, h3⟩ := call2_spec (a := a) hc
    simp only [Bool.and_eq_true] at h
    obtain ⟨h4, h5⟩ := h
    split at h4
    · rename_i e hu
      split at h4
      · rename_i i hi
        simp only [Bool.and_eq_true, beq_iff_eq, decide_eq_true_eq] at h4
        obtain ⟨⟨h6, h7⟩, h8⟩ := h4
        split at h8
        · rename_i zv hz
          have T : AppTy P t u e i zv esz := {
            hs := hu, hi := hi, hz := h6, zero := hz, zsize := by simpa using h8, bytes := h7
            hx := by
              split at h5
              · simp at h5
              · rename_i d hne hd
                exact ⟨d, hd, fun k hk => hne k hk⟩
              · simp at h5 }
          exact Runs.of_value (s := Builtin.append_ #[t, u] o.type #[a.eval s', a.eval x']) h3 (s_app T hr (hs.opd h1) (hs.opd h2) he hv)
        · simp at h8
      · simp at h4
    · simp at h4
  · simp at h

def okCopy (P : Program) (vt : List (Option Nat)) (ds : List (Option Nat)) (esz : Nat) (d x : Opd) (op : Op) : Bool :=
  match call2 vt ds d x .copy op with
  | some (t, _) => (match P.underlying t with
    | some (.slice e) => szOf P e == some esz
    | _ => false)
  | none => false

theorem snd_copy {b off len z : Nat} {d x : Opd} {ag : Bool} {els ys : List (List DV)} (hs : St vt ds g H w env ts a) (hr : Rel g H w) (h : okCopy P vt ds z d x o.op = true)
    (hd : opd env ts d = .msl b off len) (he : elems H (opd env ts x) = some ys) (hb : H[b]? = some (.vec false ag z els)) (hh : headLen z ys = true) (hle : off + len ≤ els.length) :
    Runs P o a w (Post g H w (H.set b (.vec false ag z (putAt els off (ys.take len)))) (.p (.int .i64 ((ys.take len).length : Nat)))) := by
  unfold okCopy at h
  split at h
  · rename_i t u hc
    obtain ⟨d', x', h1, h2, cs, h3⟩ := call2_spec (a := a) hc
    split at h
    · rename_i e hu
      simp only [beq_iff_eq] at h
      obtain ⟨i, hi, hn⟩ := szOf_spec h
      have hd' := hs.opd h1
      rw [hd] at hd'
      exact Runs.of_value (s := Builtin.copy_ #[t, u] o.type #[a.eval d', a.eval x']) h3 (s_copy hr hu hi hn hd' (hs.opd h2) he hb hh hle)
    · simp at h
  · simp at h

/-! ### slices -/
def okOOpd (vt : List (Option Nat)) (ds : List (Option Nat)) : Option Opd → Option Operand → Bool
  | none, none => true
  | some x, some y => okOpd vt ds x y
  | _, _ => false

theorem St.oopd (hs : St vt ds g H w env ts a) {x : Option Opd} {y : Option Operand} {l : Option Nat} (h : okOOpd vt ds x y = true) (hv : optNat env ts x = some l) : OptRel g H w l (y.map a.eval) := by
  cases x with
  | none =>
    cases y with
    | none => simp [optNat] at hv; subst hv; exact .inl ⟨rfl, rfl⟩
    | some y => simp [okOOpd] at h
  | some x =>
    cases y with
    | none => simp [okOOpd] at h
    | some y =>
      simp only [optNat] at hv
      split at hv
      · rename_i n hn
        obtain rfl := Option.some.inj hv
        obtain ⟨k, m, h1, h2, h3⟩ := asNat_rel (hs.opd h) hn
        exact .inr ⟨k, m, by simp [h1], h2, by rw [h3]⟩
      · simp at hv

def okSlice (P : Program) (vt : List (Option Nat)) (ds : List (Option Nat)) (str : Bool) (esz : Nat) (x : Opd) (l u : Option Opd) : Op → Bool
  | .slice t x' l' u' none => (if str then isStr P t else match P.underlying t with | some (.slice e) => szOf P e == some esz | _ => false) && okOpd vt ds x x' && okOOpd vt ds l l' && okOOpd vt ds u u'
  | _ => false

theorem isStrD_spec {v : DV} (h : isStrD v = true) : ∃ s, v = .p (.str s) := by
  unfold isStrD at h
  split at h
  · exact ⟨_, rfl⟩
  · simp at h
theorem isStrD_not {v : DV} (h : isStrD v = false) : ∀ s, v ≠ .p (.str s) := fun s e => by subst e; simp [isStrD] at h
theorem isAggD_spec {v : DV} (h : isAggD v = true) : (∃ cs, v = .p (.agg cs)) ∨ ∃ cs, v = .agg cs := by
  unfold isAggD at h
  split at h
  · exact .inl ⟨_, rfl⟩
  · exact .inr ⟨_, rfl⟩
  · simp at h

theorem snd_slice {str : Bool} {esz : Nat} {x : Opd} {l u : Option Opd} {ln un : Option Nat} {v : DV} (hs : St vt ds g H w env ts a) (hr : Rel g H w) (h : okSlice P vt ds str esz x l u o.op = true)
    (hstr : isStrD (opd env ts x) = str) (hl : optNat env ts l = some ln) (hu : optNat env ts u = some un) (hv : sliceDV H esz (opd env ts x) ln un = some v) : Runs P o a w (Post g H w H v) := by
  unfold okSlice at h
  split at h
  · rename_i t x' l' u' ho
    simp only [Bool.and_eq_true] at h
    obtain ⟨⟨⟨h1, h2⟩, h3⟩, h4⟩ := h
    refine Runs.of_same hr (s := Instr.sliceAt t (a.eval x') (l'.map a.eval) (u'.map a.eval) none) (by simp only [execOp, ho]; rfl) (s_slice hr (hs.opd h2) (hs.oopd h3 hl) (hs.oopd h4 hu) ?_ hv)
    cases str with
    | true => exact .inl ⟨isStr_spec (by simpa using h1), isStrD_spec hstr⟩
    | false =>
      simp only [Bool.false_eq_true, if_false] at h1
      split at h1
      · rename_i e hue
        simp only [beq_iff_eq] at h1
        obtain ⟨i, hi, hn⟩ := szOf_spec h1
        exact .inr ⟨⟨e, i, hue, hi, hn⟩, isStrD_not hstr⟩
      · simp at h1
  · simp at h

def sameO : Operand → Operand → Bool
  | .tmp a, .tmp b => a == b
  | .const (.int k n), .const (.int k' n') => decide (k = k') && decide (n = n')
  | _, _ => false
theorem sameO_spec {x y : Operand} (h : sameO x y = true) : x = y := by
  unfold sameO at h
  split at h
  · simp only [beq_iff_eq] at h; rw [h]
  · simp only [Bool.and_eq_true, decide_eq_true_eq] at h; rw [h.1, h.2]
  · simp at h

def okMakeSl (P : Program) (vt : List (Option Nat)) (ds : List (Option Nat)) (zero : List PV) (n : Opd) : Op → Bool
  | .makeSlice t l c => (match P.underlying t with
    | some (.slice e) => (match P.info? e with
      | some i => i.size == zero.length && decide (i.bytes ≤ 65536) && (match i.zero with
        | some zv => zv.cells.size == zero.length && (relZero (.agg zero) zv || (match zero with | [u] => relZ u zv | _ => false))
        | none => false)
      | none => false)
    | _ => false) && sameO l c && okOpd vt ds n l
  | _ => false

theorem snd_makeSl {zero : List PV} {ag : Bool} {n : Opd} {k : Nat} (hs : St vt ds g H w env ts a) (hr : Rel g H w) (h : okMakeSl P vt ds zero n o.op = true) (hn : asNat (opd env ts n) = some k) (hlt : k < maxLen') :
    Runs P o a w (Post g H w (H ++ [.vec false ag zero.length (rep k (zero.map .p))]) (.msl H.length 0 k)) := by
  unfold okMakeSl at h
  split at h
  · rename_i t l c ho
    simp only [Bool.and_eq_true] at h
    obtain ⟨⟨h1, h2⟩, h3⟩ := h
    obtain rfl := sameO_spec h2
    split at h1
    · rename_i e hu
      split at h1
      · rename_i i hi
        simp only [Bool.and_eq_true, beq_iff_eq, decide_eq_true_eq] at h1
        obtain ⟨⟨h4, h5⟩, h6⟩ := h1
        split at h6
        · rename_i zv hz
          simp only [Bool.and_eq_true, beq_iff_eq, Bool.or_eq_true] at h6
          refine Runs.of_value (s := Instr.makeSlice t (a.eval l) (a.eval l)) (by simp only [execOp, ho]) (s_makeSl (y := opd env ts n) (ry := a.eval l) hr hu hi hz ?_ h4 h6.1 h5 (hs.opd h3) hn hlt)
          rcases h6.2 with h7 | h7
          · exact .inl h7
          · split at h7
            · rename_i u; exact .inr ⟨u, rfl, h7⟩
            · simp at h7
        · simp at h6
      · simp at h1
    · simp at h1
  · simp at h

/-! ### maps -/
def okMakeMap : Op → Bool
  | .makeMap _ none => true
  | _ => false
theorem snd_makeMap (hr : Rel g H w) (h : okMakeMap o.op = true) : Runs P o a w (Post g H w (H ++ [.mp []]) (.map H.length)) := by
  unfold okMakeMap at h
  split at h
  · rename_i t ho
    exact Runs.of_value (s := Instr.makeMap t none) (by simp only [execOp, ho]; rfl) (s_makeMap hr)
  · simp at h

def okKey (P : Program) (k : TypeId) (ks : Bool) : Bool :=
  match ks, P.underlying k with
  | true, some .string => true
  | false, some (.int _) => true
  | _, _ => false
theorem okKey_spec {k : TypeId} {ks : Bool} (h : okKey P k ks = true) : KeyTy P k ks := by
  unfold okKey at h
  split at h
  · simpa [KeyTy]
  · rename_i q hq; simp only [KeyTy]; exact ⟨q, hq⟩
  · simp at h

theorem relZs_prel {I : Nat → Nat → Prop} : ∀ {l : List PV} {r : List Value}, relZs l r = true → l.length = r.length ∧ (∀ c ∈ l, isCellP c = true) ∧ ∀ (i : Nat) (c : PV) (v : Value), l[i]? = some c → r[i]? = some v → PRel I w c v
  | [], [], _ => ⟨rfl, by simp, fun i c v h => by simp at h⟩
  | [], _ :: _, h => by simp [relZs] at h
  | _ :: _, [], h => by simp [relZs] at h
  | x :: l, y :: r, h => by
    simp only [relZs, Bool.and_eq_true] at h
    obtain ⟨h1, h2, h3⟩ := relZs_prel (I := I) h.2
    obtain ⟨h4, h5⟩ := relZ_spec (w := w) (I := I) h.1
    refine ⟨by simp [h1], by intro c hc; simp only [List.mem_cons] at hc; rcases hc with rfl | hc; exact h5; exact h2 c hc, fun i c v hc hv => ?_⟩
    cases i with
    | zero => simp at hc hv; subst hc hv; exact h4
    | succ i => exact h3 i c v (by simpa using hc) (by simpa using hv)
theorem relZero_prel {I : Nat → Nat → Prop} {z : PV} {zv : Value} (h : relZero z zv = true) : PRel I w z zv := by
  unfold relZero at h
  split at h
  · rename_i cs vs
    obtain ⟨h1, h2, h3⟩ := relZs_prel (w := w) (I := I) h
    exact .agg cs vs h2 (by simpa using h1) fun i c v hc hv => h3 i c v hc (by simpa using hv)
  · exact (relZ_spec h).1

def okLookup (P : Program) (vt : List (Option Nat)) (ds : List (Option Nat)) (ks : Bool) (zero : PV) (ok : Bool) (m k : Opd) : Op → Bool
  | .lookup t m' k' ok' => ok == ok' && (match P.underlying t with
    | some (.map kt e) => okKey P kt ks && (match P.info? e with
      | some i => (match i.zero with | some zv => relZero zero zv | none => false)
      | none => false)
    | _ => false) && okOpd vt ds m m' && okOpd vt ds k k'
  | _ => false

theorem snd_lookup {ks ok : Bool} {z x : PV} {m k : Opd} {r : Option DV} (hs : St vt ds g H w env ts a) (hr : Rel g H w) (h : okLookup P vt ds ks z ok m k o.op = true) (hx : isKey ks x = true) (hk : opd env ts k = .p x)
    (hm : (opd env ts m = .p .nilm ∧ r = none) ∨ (∃ es r', opd env ts m = .p (.pmap es) ∧ findP es x = some r' ∧ r = r'.map .p) ∨ (∃ b es, opd env ts m = .map b ∧ H[b]? = some (.mp es) ∧ findE es x = some r)) :
    Runs P o a w (Post g H w H (if ok then mkTup [r.getD (.p z), .p (.bool r.isSome)] else r.getD (.p z))) := by
  unfold okLookup at h
  split at h
  · rename_i t m' k' ok' ho
    simp only [Bool.and_eq_true, beq_iff_eq] at h
    obtain ⟨⟨⟨rfl, h1⟩, h2⟩, h3⟩ := h
    split at h1
    · rename_i kt e hu
      simp only [Bool.and_eq_true] at h1
      obtain ⟨h4, h5⟩ := h1
      split at h5
      · rename_i i hi
        split at h5
        · rename_i zv hz
          have hk' := hs.opd h3
          rw [hk] at hk'
          exact Runs.of_same hr (s := Instr.lookup t (a.eval m') (a.eval k') ok) (by simp only [execOp, ho]) (s_lookup hr hu (okKey_spec h4) hx hk'.pure hi hz (relZero_prel h5) (hs.opd h2) hm)
        · simp at h5
      · simp at h5
    · simp at h1
  · simp at h

def okMapUpd (P : Program) (vt : List (Option Nat)) (ds : List (Option Nat)) (ks : Bool) (m k v : Opd) : Op → Bool
  | .mapUpdate t m' k' v' => (match P.underlying t with | some (.map kt _) => okKey P kt ks | _ => false) && okOpd vt ds m m' && okOpd vt ds k k' && okOpd vt ds v v'
  | .insert t m' k' v' => (match P.underlying t with | some (.map kt _) => okKey P kt ks | _ => false) && okOpd vt ds m m' && okOpd vt ds k k' && okOpd vt ds v v'
  | _ => false

theorem snd_mapUpd {ks : Bool} {x : PV} {b : Nat} {m k v : Opd} {es l : List (PV × DV)} (hs : St vt ds g H w env ts a) (hr : Rel g H w) (h : okMapUpd P vt ds ks m k v o.op = true) (hx : isKey ks x = true) (hk : opd env ts k = .p x)
    (hm : opd env ts m = .map b) (hb : H[b]? = some (.mp es)) (hp : putE es x (opd env ts v) = some l) : Runs P o a w (Post g H w (H.set b (.mp l)) (.p .undef)) := by
  have key : ∀ (t : TypeId) (m' k' v' : Operand), execOp a.eval o = (do Instr.mapUpdate t (a.eval m') (a.eval k') (a.eval v'); pure .skip) →
      ((match P.underlying t with | some (.map kt _) => okKey P kt ks | _ => false) && okOpd vt ds m m' && okOpd vt ds k k' && okOpd vt ds v v') = true → Runs P o a w (Post g H w (H.set b (.mp l)) (.p .undef)) := by
    intro t m' k' v' he h
    simp only [Bool.and_eq_true] at h
    obtain ⟨⟨⟨h1, h2⟩, h3⟩, h4⟩ := h
    split at h1
    · rename_i kt e hu
      have hm' := hs.opd h2
      rw [hm] at hm'
      have hk' := hs.opd h3
      rw [hk] at hk'
      obtain ⟨w', e1, g', e2, e3⟩ := s_mapUpd hr hu (okKey_spec h1) hx hk'.pure hm' (hs.opd h4) hb hp
      exact Runs.of_unit he ⟨w', e1, g', e2, e3, .p _ _ .undef⟩
    · simp at h1
  unfold okMapUpd at h
  split at h
  · rename_i t m' k' v' ho; exact key t m' k' v' (by simp only [execOp, ho]) h
  · rename_i t m' k' v' ho; exact key t m' k' v' (by simp only [execOp, ho]) h
  · simp at h

/-! ### the rest -/
def okExtract (vt : List (Option Nat)) (ds : List (Option Nat)) (i : Nat) (x : Opd) : Op → Bool
  | .extract y j => i == j && okOpd vt ds x y
  | _ => false
theorem snd_extract {i : Nat} {x : Opd} {v : DV} (hs : St vt ds g H w env ts a) (hr : Rel g H w) (h : okExtract vt ds i x o.op = true)
    (hv : (∃ vs u, opd env ts x = .p (.tup vs) ∧ vs[i]? = some u ∧ v = .p u) ∨ ∃ vs, opd env ts x = .tup vs ∧ vs[i]? = some v) : Runs P o a w (Post g H w H v) := by
  unfold okExtract at h
  split at h
  · rename_i y j ho
    simp only [Bool.and_eq_true, beq_iff_eq] at h
    obtain ⟨rfl, h1⟩ := h
    have hx := hs.opd h1
    refine Runs.of_same hr (s := Instr.extract (a.eval y) i) (by simp only [execOp, ho]) ?_
    rcases hv with ⟨vs, u, e1, e2, rfl⟩ | ⟨vs, e1, e2⟩
    · rw [e1] at hx
      have hp := hx.pure
      generalize a.eval y = ry at hp
      cases hp with
      | tup cs rs hl hh =>
        have hlt : i < rs.size := by rw [← hl]; exact (List.getElem?_eq_some_iff.1 e2).1
        refine ⟨rs[i], by simp [Instr.extract, Array.getElem?_eq_getElem hlt], .p _ _ (hh i u _ e2 (by simp [Array.getElem?_eq_getElem hlt]))⟩
    · rw [e1] at hx
      generalize a.eval y = ry at hx
      cases hx with
      | tup cs rs hl hh =>
        have hlt : i < rs.size := by rw [← hl]; exact (List.getElem?_eq_some_iff.1 e2).1
        refine ⟨rs[i], by simp [Instr.extract, Array.getElem?_eq_getElem hlt], hh i v _ e2 (by simp [Array.getElem?_eq_getElem hlt])⟩
  · simp at h

def okNilCheck (vt : List (Option Nat)) (ds : List (Option Nat)) (x : Opd) : Op → Bool
  | .nilCheck y => okOpd vt ds x y
  | _ => false
theorem nilCheck_run {y : Operand} {v : DV} (ho : o.op = .nilCheck y) (h : DRel g H w v (a.eval y)) (h1 : v ≠ .p .nilp) (h2 : v ≠ .p .nili) (h3 : v ≠ .p .nilf) : execOp a.eval o = pure (.value (a.eval y)) := by
  simp only [execOp, ho]
  generalize a.eval y = rv at h
  cases h with
  | p pv rv hp => cases hp <;> first | rfl | exact absurd rfl h1 | exact absurd rfl h2 | exact absurd rfl h3
  | _ => rfl
theorem snd_nilCheck {x : Opd} (hs : St vt ds g H w env ts a) (hr : Rel g H w) (h : okNilCheck vt ds x o.op = true) (h1 : opd env ts x ≠ .p .nilp) (h2 : opd env ts x ≠ .p .nili) (h3 : opd env ts x ≠ .p .nilf) :
    Runs P o a w (Post g H w H (opd env ts x)) := by
  unfold okNilCheck at h
  split at h
  · rename_i y ho
    have hx := hs.opd h
    exact ⟨a.eval y, w, .inl (by rw [nilCheck_run ho hx h1 h2 h3]; rfl), Post.same hr hx⟩
  · simp at h

def okMkfn (vt : List (Option Nat)) (ds : List (Option Nat)) (f : Nat) (caps : List Opd) : Op → Bool
  | .makeFunc (.func f') first captured => rid f == f' && first.isEmpty && okOpds vt ds caps captured.toList
  | _ => false
theorem snd_mkfn {f : Nat} {caps : List Opd} (hs : St vt ds g H w env ts a) (hr : Rel g H w) (h : okMkfn vt ds f caps o.op = true) : Runs P o a w (Post g H w H (mkFn f (opds env ts caps))) := by
  unfold okMkfn at h
  split at h
  · rename_i f' first captured ho
    simp only [Bool.and_eq_true, beq_iff_eq] at h
    obtain ⟨⟨h1, h2⟩, h3⟩ := h
    obtain ⟨h4, h5⟩ := hs.opds h3
    have e : first = #[] := by simpa using h2
    subst e h1
    refine Runs.of_same hr (s := Instr.makeFunc (.func (rid f)) #[] (captured.map a.eval)) (by simp only [execOp, ho]; simp) ⟨_, rfl, mkFn_rel (by rw [opds_len]; simpa using h4) fun i c v hc hv => h5 i c v hc (by simpa using hv)⟩
  · simp at h

def okMkif (P : Program) (vt : List (Option Nat)) (ds : List (Option Nat)) (t : Nat) (x : Opd) : Op → Bool
  | .makeInterface t' y => t == t' && (match P.underlying t with | some (.interface _) => false | some _ => true | none => false) && okOpd vt ds x y
  | _ => false
theorem snd_mkif {t : Nat} {x : Opd} {v : PV} (hs : St vt ds g H w env ts a) (hr : Rel g H w) (h : okMkif P vt ds t x o.op = true) (hv : opd env ts x = .p v) : Runs P o a w (Post g H w H (.p (.iface t v))) := by
  unfold okMkif at h
  split at h
  · rename_i t' y ho
    simp only [Bool.and_eq_true, beq_iff_eq] at h
    obtain ⟨⟨rfl, h1⟩, h2⟩ := h
    have hx := hs.opd h2
    rw [hv] at hx
    refine Runs.of_same hr (s := Instr.makeInterface t (a.eval y)) (by simp only [execOp, ho]) ⟨.iface t (a.eval y), ?_, .p _ _ (.iface t v _ hx.pure)⟩
    split at h1
    · simp at h1
    · rename_i d hne hd
      unfold Instr.makeInterface
      simp only [Sem.run_bind, r_under hd, Result.andThen_ok]
      rfl
    · simp at h1
  · simp at h

def okRange (P : Program) (vt : List (Option Nat)) (ds : List (Option Nat)) (x : Opd) : Op → Bool
  | .range t y => isStr P t && okOpd vt ds x y
  | _ => false
theorem snd_range {x : Opd} {s : List Nat} (hs : St vt ds g H w env ts a) (hr : Rel g H w) (h : okRange P vt ds x o.op = true) (hv : opd env ts x = .p (.str s)) : Runs P o a w (Post g H w (H ++ [.iter s 0]) (.it H.length)) := by
  unfold okRange at h
  split at h
  · rename_i t y ho
    simp only [Bool.and_eq_true] at h
    have hx := hs.opd h.2
    rw [hv] at hx
    exact Runs.of_value (s := Instr.range t (a.eval y)) (by simp only [execOp, ho]) (s_range hr (isStr_spec h.1) hx)
  · simp at h

def okNext (vt : List (Option Nat)) (ds : List (Option Nat)) (x : Opd) : Op → Bool
  | .next y true => okOpd vt ds x y
  | _ => false
theorem snd_next {x : Opd} {v : DV} {H' : Heap} {lo : Nat} (hs : St vt ds g H w env ts a) (hr : Rel g H w) (h : okNext vt ds x o.op = true) (hv : nextDV lo H (opd env ts x) = some (v, H')) : Runs P o a w (Post g H w H' v) := by
  unfold okNext at h
  split at h
  · rename_i y ho
    have hx := hs.opd h
    generalize opd env ts x = d at hx hv
    have hd : ∃ b, d = .it b := by
      unfold nextDV at hv
      split at hv
      · exact ⟨_, rfl⟩
      · simp at hv
    obtain ⟨b, rfl⟩ := hd
    have hty : ∃ (b0 pos : Nat) (s : List Nat), True := ⟨0, 0, [], trivial⟩
    exact Runs.of_value (s := Instr.next (a.eval y) true o.type) (by simp only [execOp, ho]) (s_next (pos := 0) (s := []) hr hx hv)
  · simp at h
end kinds
end Go.Lv

/- One operation of the small language, that is no call, stands for one of Go's. -/
namespace Go.Lv
set_option linter.unusedVariables false
set_option linter.unusedSimpArgs false

/-- May an operation stand for one of Go's? (calls, and boxes in two steps, apart) -/
def okOp (P : Program) (vt : List (Option Nat)) (ds : List (Option Nat)) (i : IOp) (op : Op) : Bool :=
  match i with
  | .mov x => okMov P vt ds x op
  | .pick c x y => okPick vt ds c x y op
  | .bin b x y => okBin P vt ds b x y op
  | .eqv k neg x y => okEqv P vt ds k neg x y op
  | .un u x => okUn vt ds u x op
  | .conv k x => okConv P vt ds k x op
  | .s2b _ x => okS2b P vt ds x op
  | .b2s x => okB2s P vt ds x op
  | .b2b x => okB2b P vt ds x op
  | .box _ x => okBox vt ds x op
  | .alloc n z => okAlloc P n z op
  | .load ag n x => okLoad P vt ds ag n x op
  | .store n x v => okStore P vt ds n x v op
  | .fieldAddr off n ag x => okFieldAddr P vt ds off n ag x op
  | .indexAddr esz x i => okIndexAddr P vt ds esz x i op
  | .indexArr len esz ag x i => okIndexArr P vt ds len esz ag x i op
  | .indexStr x i => okIndexStr P vt ds x i op
  | .indexV len esz ag x i => okIndexV P vt ds len esz ag x i op
  | .field off n ag x => okField P vt ds off n ag x op
  | .build z ps => okBuild P vt ds z ps op
  | .buildSl _ _ esz ps => okBuildSl P vt ds esz ps op
  | .len k x => okLen P vt ds k x op
  | .app _ _ esz s x => okApp P vt ds esz s x op
  | .slice str esz x l u => okSlice P vt ds str esz x l u op
  | .makeSl _ z n => okMakeSl P vt ds z n op
  | .copy esz d s => okCopy P vt ds esz d s op
  | .makeMap => okMakeMap op
  | .lookup ks z ok m k => okLookup P vt ds ks z ok m k op
  | .mapUpd ks m k v => okMapUpd P vt ds ks m k v op
  | .extract i x => okExtract vt ds i x op
  | .nilCheck x => okNilCheck vt ds x op
  | .mkfn f caps => okMkfn vt ds f caps op
  | .mkif t x => okMkif P vt ds t x op
  | .range x => okRange P vt ds x op
  | .next x => okNext vt ds x op
  | .boxNew _ _ => false
  | .boxSet _ _ => false
  | .call _ _ => false
  | .callv _ _ => false

section
variable {P : Program} {vt : List (Option Nat)} {ds : List (Option Nat)} {g : Gh} {H : Heap} {w : World} {env ts : List DV} {a : Act} {o : Oper}

theorem ok0_some {h H' : Heap} {r : Option DV} {v : DV} (e : ok0 h r = some (v, H')) : r = some v ∧ H' = h := by
  cases r with
  | none => simp [ok0] at e
  | some x => simp only [ok0, Option.some.injEq, Prod.mk.injEq] at e; exact ⟨by rw [e.1], e.2.symm⟩
theorem okP_some {h H' : Heap} {r : Option PV} {v : DV} (e : okP h r = some (v, H')) : ∃ u, r = some u ∧ v = .p u ∧ H' = h := by
  cases r with
  | none => simp [okP] at e
  | some x => simp only [okP, Option.some.injEq, Prod.mk.injEq] at e; exact ⟨x, rfl, e.1.symm, e.2.symm⟩

theorem valOf_map_p {ag : Bool} {l : List PV} {u : PV} (h : valOfP ag l = some u) : valOf ag (l.map .p) = some (.p u) := by
  unfold valOfP at h
  split at h
  · rename_i hag
    obtain rfl := Option.some.inj h
    simp [valOf, hag, mkAgg, unps_map]
  · rename_i hag
    split at h
    · obtain rfl := Option.some.inj h
      simp [valOf, hag]
    · simp at h

theorem op_sound {call : Caller} {lo : Nat} {i : IOp} {v : DV} {H' : Heap} (hs : St vt ds g H w env ts a) (hr : Rel g H w) (h : okOp P vt ds i o.op = true)
    (he : exOp call lo env ts H i = some (v, H')) : Runs P o a w (Post g H w H' v) := by
  cases i with
  | mov x =>
    simp only [exOp, Option.some.injEq, Prod.mk.injEq] at he
    obtain ⟨rfl, rfl⟩ := he
    exact snd_mov hs hr h
  | pick c x y =>
    simp only [exOp] at he
    split at he
    · rename_i t hc
      simp only [Option.some.injEq, Prod.mk.injEq] at he
      obtain ⟨rfl, rfl⟩ := he
      exact snd_pick hs hr h hc
    · simp at he
  | bin b x y =>
    simp only [exOp] at he
    split at he
    · rename_i p q hx hy
      obtain ⟨u, h1, rfl, rfl⟩ := okP_some he
      exact snd_bin hs hr h hx hy h1
    · simp at he
  | eqv k neg x y =>
    simp only [exOp] at he
    split at he
    · rename_i r hk
      simp only [Option.some.injEq, Prod.mk.injEq] at he
      obtain ⟨rfl, rfl⟩ := he
      exact snd_eqv hs hr h hk
    · simp at he
  | un u x =>
    simp only [exOp] at he
    split at he
    · rename_i p hx
      obtain ⟨u, h1, rfl, rfl⟩ := okP_some he
      exact snd_un hs hr h hx h1
    · simp at he
  | conv k x =>
    simp only [exOp] at he
    split at he
    · rename_i k' n hx
      simp only [Option.some.injEq, Prod.mk.injEq] at he
      obtain ⟨rfl, rfl⟩ := he
      exact snd_conv hs hr h hx
    · simp at he
  | s2b hd x =>
    simp only [exOp] at he
    split at he
    · rename_i s hx
      obtain ⟨h1, h2⟩ := snd_s2b hs hr h hx
      cases hd <;> simp only [Option.some.injEq, Prod.mk.injEq] at he <;> obtain ⟨rfl, rfl⟩ := he
      · exact h1
      · exact h2 true
      · exact h2 false
    · simp at he
  | b2s x =>
    simp only [exOp] at he
    split at he
    · simp at he
    · rename_i hns
      split at he
      · rename_i l hl
        split at he
        · rename_i vs hvs
          split at he
          · rename_i s hb
            simp only [Option.some.injEq, Prod.mk.injEq] at he
            obtain ⟨rfl, rfl⟩ := he
            exact snd_b2s hs hr h (isStrD_not (by simpa using hns)) hl hvs hb
          · simp at he
        · simp at he
      · simp at he
  | b2b x =>
    simp only [exOp, getN_eq] at he
    split at he
    · rename_i b len hx
      split at he
      · rename_i gr ag z els hb
        split at he
        · rename_i hl
          simp only [Option.some.injEq, Prod.mk.injEq] at he
          obtain ⟨rfl, rfl⟩ := he
          exact snd_b2b hs hr h hx hb hl
        · simp at he
      · simp at he
    · simp at he
  | box hd x =>
    simp only [exOp] at he
    split at he
    · rename_i hc
      cases hd with
      | val =>
        simp only at he
        split at he
        · rename_i p hx
          simp only [Option.some.injEq, Prod.mk.injEq] at he
          obtain ⟨rfl, rfl⟩ := he
          exact snd_box_val hs hr h hx (by rw [← hx]; exact hc)
        · simp at he
      | grow =>
        simp only [Option.some.injEq, Prod.mk.injEq] at he
        obtain ⟨rfl, rfl⟩ := he
        exact snd_box_fix hs hr h hc
      | fix =>
        simp only [Option.some.injEq, Prod.mk.injEq] at he
        obtain ⟨rfl, rfl⟩ := he
        exact snd_box_fix hs hr h hc
    · simp at he
  | boxNew n z => simp [okOp] at h
  | boxSet n x => simp [okOp] at h
  | alloc n z =>
    simp only [exOp] at he
    split at he
    · rename_i hn
      simp only [Option.some.injEq, Prod.mk.injEq] at he
      obtain ⟨rfl, rfl⟩ := he
      exact snd_alloc hr h hn
    · simp at he
  | load ag n x =>
    simp only [exOp] at he
    obtain ⟨h1, rfl⟩ := ok0_some he
    exact snd_load hs hr h h1
  | store n x y =>
    simp only [exOp] at he
    split at he
    · rename_i H2 hst
      simp only [Option.some.injEq, Prod.mk.injEq] at he
      obtain ⟨rfl, rfl⟩ := he
      exact snd_store hs hr h hst
    · simp at he
  | fieldAddr off n ag x =>
    simp only [exOp] at he
    obtain ⟨h1, rfl⟩ := ok0_some he
    exact snd_fieldAddr hs hr h h1
  | indexAddr esz x i =>
    simp only [exOp] at he
    obtain ⟨h1, rfl⟩ := ok0_some he
    exact snd_indexAddr hs hr h h1
  | indexArr len esz ag x i =>
    simp only [exOp] at he
    obtain ⟨h1, rfl⟩ := ok0_some he
    exact snd_indexArr hs hr h h1
  | indexStr x i =>
    simp only [exOp, getN_eq] at he
    split at he
    · rename_i s j hx hj
      split at he
      · rename_i c hc
        simp only [Option.some.injEq, Prod.mk.injEq] at he
        obtain ⟨rfl, rfl⟩ := he
        exact snd_indexStr hs hr h hx hj hc
      · simp at he
    · simp at he
  | indexV len esz ag x i =>
    simp only [exOp, takeN_eq, dropN_eq] at he
    split at he
    · rename_i j hj
      split at he
      · rename_i hc
        split at he
        · rename_i hl
          obtain ⟨h1, rfl⟩ := ok0_some he
          exact snd_indexV hs hr h (isAggD_spec hc.2) hj hc.1 hl h1
        · simp at he
      · simp at he
    · simp at he
  | field off n ag x =>
    simp only [exOp, takeN_eq, dropN_eq] at he
    split at he
    · rename_i cs hx
      split at he
      · rename_i hl
        obtain ⟨u, h1, rfl, rfl⟩ := okP_some he
        refine snd_field hs hr h (.inl ⟨cs, hx⟩) (by rw [hx]; simpa [cellsD, List.length_drop] using hl) ?_
        rw [hx]
        simp only [cellsD, ← List.map_drop, ← List.map_take]
        exact valOf_map_p h1
      · simp at he
    · rename_i cs hx
      split at he
      · rename_i hl
        obtain ⟨h1, rfl⟩ := ok0_some he
        exact snd_field hs hr h (.inr ⟨cs, hx⟩) (by rw [hx]; exact hl) (by rw [hx]; exact h1)
      · simp at he
    · simp at he
  | build z ps =>
    simp only [exOp] at he
    split at he
    · rename_i cs hc
      simp only [Option.some.injEq, Prod.mk.injEq] at he
      obtain ⟨rfl, rfl⟩ := he
      exact snd_build hs hr h hc
    · simp at he
  | buildSl hd ag esz ps =>
    simp only [exOp] at he
    split at he
    · rename_i els hc
      obtain ⟨h1, h2⟩ := snd_buildSl (ag := ag) hs hr h hc
      cases hd with
      | val =>
        simp only at he
        split at he
        · rename_i xs hx
          simp only [Option.some.injEq, Prod.mk.injEq] at he
          obtain ⟨rfl, rfl⟩ := he
          exact h1 xs hx
        · simp at he
      | grow =>
        simp only [Option.some.injEq, Prod.mk.injEq] at he
        obtain ⟨rfl, rfl⟩ := he
        exact h2 true
      | fix =>
        simp only [Option.some.injEq, Prod.mk.injEq] at he
        obtain ⟨rfl, rfl⟩ := he
        exact h2 false
    · simp at he
  | len k x =>
    simp only [exOp] at he
    split at he
    · simp at he
    · rename_i hk
      split at he
      · rename_i n hn
        simp only [Option.some.injEq, Prod.mk.injEq] at he
        obtain ⟨rfl, rfl⟩ := he
        exact snd_len hs hr h (by simpa using hk) hn
      · simp at he
  | app fix ag esz s x =>
    simp only [exOp] at he
    split at he
    · rename_i ys hy
      exact snd_app hs hr h hy he
    · simp at he
  | slice str esz x l u =>
    simp only [exOp] at he
    split at he
    · simp at he
    · rename_i hstr
      split at he
      · rename_i l' u' hl hu
        obtain ⟨h1, rfl⟩ := ok0_some he
        exact snd_slice hs hr h (by simpa using hstr) hl hu h1
      · simp at he
  | makeSl ag z n =>
    simp only [exOp] at he
    split at he
    · rename_i k hk
      split at he
      · rename_i hlt
        simp only [Option.some.injEq, Prod.mk.injEq] at he
        obtain ⟨rfl, rfl⟩ := he
        exact snd_makeSl hs hr h hk hlt
      · simp at he
    · simp at he
  | copy esz d s =>
    simp only [exOp, getN_eq, setN_eq, takeN_eq] at he
    split at he
    · rename_i b off len ys hd hy
      split at he
      · rename_i ag z els hb
        split at he
        · rename_i hc
          obtain ⟨rfl, h2, h3, h4⟩ := hc
          simp only [Option.some.injEq, Prod.mk.injEq] at he
          obtain ⟨rfl, rfl⟩ := he
          exact snd_copy hs hr h hd hy hb h2 h3
        · simp at he
      · simp at he
    · simp at he
  | makeMap =>
    simp only [exOp, Option.some.injEq, Prod.mk.injEq] at he
    obtain ⟨rfl, rfl⟩ := he
    exact snd_makeMap hr h
  | lookup ks z ok m k =>
    simp only [exOp, getN_eq] at he
    split at he
    · rename_i x hk
      split at he
      · rename_i hx
        split at he
        · rename_i hm
          simp only [Option.some.injEq, Prod.mk.injEq] at he
          obtain ⟨rfl, rfl⟩ := he
          exact snd_lookup hs hr h hx hk (.inl ⟨hm, rfl⟩)
        · rename_i es hm
          split at he
          · rename_i r hf
            simp only [Option.some.injEq, Prod.mk.injEq] at he
            obtain ⟨rfl, rfl⟩ := he
            exact snd_lookup hs hr h hx hk (.inr (.inl ⟨es, r, hm, hf, rfl⟩))
          · simp at he
        · rename_i b hm
          split at he
          · rename_i es hb
            split at he
            · rename_i r hf
              simp only [Option.some.injEq, Prod.mk.injEq] at he
              obtain ⟨rfl, rfl⟩ := he
              exact snd_lookup hs hr h hx hk (.inr (.inr ⟨b, es, hm, hb, hf⟩))
            · simp at he
          · simp at he
        · simp at he
      · simp at he
    · simp at he
  | mapUpd ks m k y =>
    simp only [exOp, getN_eq, setN_eq] at he
    split at he
    · rename_i b x hm hk
      split at he
      · rename_i es hb
        split at he
        · rename_i hc
          split at he
          · rename_i l hp
            simp only [Option.some.injEq, Prod.mk.injEq] at he
            obtain ⟨rfl, rfl⟩ := he
            exact snd_mapUpd hs hr h hc.2 hk hm hb hp
          · simp at he
        · simp at he
      · simp at he
    · simp at he
  | call f args => simp [okOp] at h
  | callv f args => simp [okOp] at h
  | extract i x =>
    simp only [exOp, getN_eq] at he
    split at he
    · rename_i vs hx
      obtain ⟨u, h1, rfl, rfl⟩ := okP_some he
      exact snd_extract hs hr h (.inl ⟨vs, u, hx, h1, rfl⟩)
    · rename_i vs hx
      obtain ⟨h1, rfl⟩ := ok0_some he
      exact snd_extract hs hr h (.inr ⟨vs, hx, h1⟩)
    · simp at he
  | nilCheck x =>
    simp only [exOp] at he
    split at he
    · simp at he
    · simp at he
    · simp at he
    · rename_i h1 h2 h3
      simp only [Option.some.injEq, Prod.mk.injEq] at he
      obtain ⟨rfl, rfl⟩ := he
      exact snd_nilCheck hs hr h h1 h2 h3
  | mkfn f caps =>
    simp only [exOp, Option.some.injEq, Prod.mk.injEq] at he
    obtain ⟨rfl, rfl⟩ := he
    exact snd_mkfn hs hr h
  | mkif t x =>
    simp only [exOp] at he
    split at he
    · rename_i u hx
      simp only [Option.some.injEq, Prod.mk.injEq] at he
      obtain ⟨rfl, rfl⟩ := he
      exact snd_mkif hs hr h hx
    · simp at he
  | range x =>
    simp only [exOp] at he
    split at he
    · rename_i s hx
      simp only [Option.some.injEq, Prod.mk.injEq] at he
      obtain ⟨rfl, rfl⟩ := he
      exact snd_range hs hr h hx
    · simp at he
  | next x =>
    simp only [exOp] at he
    exact snd_next hs hr h he
end
end Go.Lv

/- Values that are written to no more: what they stand for stands. -/
namespace Go.Lv
set_option linter.unusedVariables false
set_option linter.unusedSimpArgs false

section
variable {g : Gh} {H : Heap} {w : World}

theorem Wrote.refl (w : World) (R : Nat) : Wrote w w R := ⟨rfl, fun _ _ => rfl, Nat.le_refl _, rfl, rfl, rfl⟩

/-- all cells of a block are written to no more -/
def Gh.all (g : Gh) (R : Nat) : Gh := ⟨g.φ, fun R' o => g.I R' o ∨ R' = R⟩

theorem Turns.dead {g' : Gh} {w' : World} {b : Nat} {k : Blk} (ha : k.alive) : Turns g w g' w' b k .dead := by
  cases k with
  | vec gr ag z els => cases gr <;> exact .inr rfl
  | mp es => exact .inr rfl
  | iter s pos => exact .inr rfl
  | dead => rfl

theorem kill {b R : Nat} {k : Blk} (hr : Rel g H w) (hb : H[b]? = some k) (ha : k.alive) (hφ : g.φ b = some R) : Rel (g.all R) (H.set b .dead) w ∧ Ev g H w (g.all R) (H.set b .dead) w := by
  have hv : Ev g H w (g.all R) (H.set b .dead) w := Ev.write hr hb ha hφ (.refl w R) rfl (fun _ _ h => .inl h) (fun R' o hne h => h.resolve_right hne) (fun _ _ => rfl) (fun _ _ _ _ h => h) (.dead ha)
  exact ⟨rel_write hr hb ha hφ (.refl w R) rfl (fun _ _ h => .inl h) (fun R' o hne h => h.resolve_right hne) hv (fun h => h.elim), hv⟩

/-- rows of cells in a place where nothing is written any more -/
theorem isl_of_place {ag : Bool} {z cap : Nat} {l : List (List DV)} {xs : List PV} {A : Addr} (hx : valsOfCells ag l = some xs) (hs : A.spot = none) (hcap : l.length ≤ cap)
    (hz : ∀ (j : Nat) (e : List DV), l[j]? = some e → e.length = z ∧ ∀ d ∈ e, isCell d = true)
    (hc : ∀ (j k : Nat) (e : List DV) (d : DV), l[j]? = some e → e[k]? = some d → g.I A.block (A.off + j * z + k) ∧ ∃ v, w.cell? ⟨A.block, A.off + j * z + k, none⟩ = some v ∧ DRel g H w d v) :
    PRel g.I w (.isl xs) (.slice (some A) l.length cap) := by
  obtain ⟨h1, h2⟩ := valsOfCells_spec ag hx
  have row : ∀ (j : Nat) (x : PV), xs[j]? = some x → ∃ e : List PV, l[j]? = some (e.map .p) ∧ cellsP x = e ∧ e.length = z ∧ ∀ c ∈ e, isCellP c = true := by
    intro j x hj
    have hlt : j < l.length := by rw [h1]; exact (List.getElem?_eq_some_iff.1 hj).1
    have hl : l[j]? = some l[j] := by simp [hlt]
    obtain ⟨e, x', h3, h4, h5⟩ := h2 j _ hl
    rw [hj] at h4; obtain rfl := Option.some.inj h4
    obtain ⟨h6, h7⟩ := hz j _ hl
    have h8 : ∀ c ∈ e, isCellP c = true := fun c hc => h7 (.p c) (by rw [h3]; exact List.mem_map.2 ⟨c, hc, rfl⟩)
    exact ⟨e, by rw [hl, h3], valOfP_cells h5 h8, by rw [h3] at h6; simpa using h6, h8⟩
  refine .isl xs _ A cap z (fun j k => (w.cell? ⟨A.block, A.off + j * z + k, none⟩).getD Go.undef) h1 hs hcap (fun j x hj => ?_) (fun j k hj hk => ?_) (fun j x k c hj hk => ?_)
  · obtain ⟨e, _, h4, h5, h6⟩ := row j x hj
    rw [h4]; exact ⟨h5, h6⟩
  · have hj' : xs[j]? = some xs[j] := by simp [hj]
    obtain ⟨e, h3, h4, h5, h6⟩ := row j _ hj'
    have hk' : e[k]? = some (e[k]'(by omega)) := by simp
    obtain ⟨h7, v, h8, _⟩ := hc j k _ (.p (e[k]'(by omega))) h3 (by simp [hk'])
    exact ⟨h7, by rw [h8]; rfl⟩
  · obtain ⟨e, h3, h4, h5, h6⟩ := row j x hj
    rw [h4] at hk
    obtain ⟨h7, v, h8, h9⟩ := hc j k _ (.p c) h3 (by simp [hk])
    rw [h8]
    exact h9.pure

theorem look_rows {els : List (List DV)} {off len j : Nat} {e : List DV} (h : ((els.drop off).take len)[j]? = some e) : els[off + j]? = some e ∧ j < len := by
  rw [List.getElem?_take] at h
  split at h
  · rename_i hlt; rw [List.getElem?_drop] at h; exact ⟨h, hlt⟩
  · simp at h

theorem snap1_rel {v : DV} {x : PV} {rv : Value} (hr : Rel g H w) (h : DRel g H w v rv) (hv : snap1 H v = some x) : PRel g.I w x rv ∧ (isCell v = true → isCellP x = true) := by
  unfold snap1 at hv
  split at hv
  · obtain rfl := Option.some.inj hv; exact ⟨h.pure, fun h => h⟩
  · rename_i b off len
    rw [getN_eq] at hv
    split at hv
    · rename_i ag z els hb
      simp only [takeN_eq, dropN_eq] at hv
      split at hv
      · rename_i hl
        split at hv
        · rename_i xs hx
          obtain rfl := Option.some.inj hv
          refine ⟨?_, fun _ => rfl⟩
          cases h with
          | dmsl b off len cap A h => rw [hb] at h; simp at h
          | fmsl b off len cap R z' ag' els' hH => rw [hb] at hH; simp at hH
          | gmsl b off len cap R z' A ag' els' hH hφ hs hbd hcap hc hf =>
            rw [hb] at hH
            simp only [Option.some.injEq, Blk.vec.injEq] at hH
            obtain ⟨_, rfl, rfl, rfl⟩ := hH
            obtain ⟨R', hφ', _, _, hels, hcell, _⟩ := hr.blk b _ hb trivial
            rw [hφ] at hφ'; obtain rfl := Option.some.inj hφ'
            rw [← hl]
            refine isl_of_place (H := H) hx hs (by rw [hl]; exact hcap) (fun j e hj => hels _ e (look_rows hj).1) (fun j k e d hj hk => ?_)
            obtain ⟨h1, h2⟩ := look_rows hj
            obtain ⟨v, h3, h4⟩ := hcell _ e k d h1 hk
            have hkz : k < z := by rw [← (hels _ e h1).1]; exact (List.getElem?_eq_some_iff.1 hk).1
            have hm : j * z + k < len * z := by
              have : (j + 1) * z ≤ len * z := Nat.mul_le_mul_right _ h2
              rw [Nat.add_mul, Nat.one_mul] at this; omega
            obtain ⟨h5, h6⟩ := hc (j * z + k) hm
            rw [← Nat.add_assoc] at h5 h6
            refine ⟨h5, v, ?_, h4⟩
            rw [h6, ← h3]
            congr 2
            rw [Nat.add_mul]; omega
        · simp at hv
      · simp at hv
    · simp at hv
  · simp at hv

theorem snaps1_rel (hr : Rel g H w) : ∀ {cs : List DV} {xs : List PV}, snaps1 H cs = some xs → xs.length = cs.length ∧
    (∀ (i : Nat) (x : PV), xs[i]? = some x → ∃ c, cs[i]? = some c ∧ snap1 H c = some x)
  | [], xs, h => by simp [snaps1] at h; subst h; exact ⟨rfl, fun i x hx => by simp at hx⟩
  | c :: r, xs, h => by
    simp only [snaps1] at h
    split at h
    · rename_i v hv
      split at h
      · rename_i l hl
        obtain rfl := Option.some.inj h
        obtain ⟨h1, h2⟩ := snaps1_rel hr hl
        refine ⟨by simp [h1], fun i x hx => ?_⟩
        cases i with
        | zero => simp at hx; subst hx; exact ⟨c, by simp, hv⟩
        | succ i => obtain ⟨c', h3, h4⟩ := h2 i x (by simpa using hx); exact ⟨c', by simpa using h3, h4⟩
      · simp at h
    · simp at h

theorem snap_rel {v : DV} {x : PV} {rv : Value} (hr : Rel g H w) (h : DRel g H w v rv) (hv : snap H v = some x) : PRel g.I w x rv := by
  unfold snap at hv
  split at hv
  · rename_i cs
    split at hv
    · rename_i l hl
      obtain rfl := Option.some.inj hv
      obtain ⟨h1, h2⟩ := snaps1_rel hr hl
      cases h with
      | agg cs vs hk hln hh =>
        refine .agg l vs (fun c hc => ?_) (by rw [h1, hln]) (fun i c v hc hv => ?_)
        · obtain ⟨i, hi⟩ := List.mem_iff_getElem?.1 hc
          obtain ⟨d, h3, h4⟩ := h2 i c hi
          have hlt : i < vs.size := by rw [← hln]; exact (List.getElem?_eq_some_iff.1 h3).1
          exact (snap1_rel hr (hh i d vs[i] h3 (by simp [hlt])) h4).2 (hk d (List.mem_of_getElem? h3))
        · obtain ⟨d, h3, h4⟩ := h2 i c hc
          exact (snap1_rel hr (hh i d v h3 hv) h4).1
    · simp at hv
  · exact (snap1_rel hr h hv).1

theorem snaps_rel (hr : Rel g H w) : ∀ {cs : List DV} {xs : List PV}, snaps H cs = some xs → xs.length = cs.length ∧
    (∀ (i : Nat) (x : PV), xs[i]? = some x → ∃ c, cs[i]? = some c ∧ snap H c = some x)
  | [], xs, h => by simp [snaps] at h; subst h; exact ⟨rfl, fun i x hx => by simp at hx⟩
  | c :: r, xs, h => by
    simp only [snaps] at h
    split at h
    · rename_i v hv
      split at h
      · rename_i l hl
        obtain rfl := Option.some.inj h
        obtain ⟨h1, h2⟩ := snaps_rel hr hl
        refine ⟨by simp [h1], fun i x hx => ?_⟩
        cases i with
        | zero => simp at hx; subst hx; exact ⟨c, by simp, hv⟩
        | succ i => obtain ⟨c', h3, h4⟩ := h2 i x (by simpa using hx); exact ⟨c', by simpa using h3, h4⟩
      · simp at h
    · simp at h

/-! ### freezing -/
def FrzOk (fz : Heap → DV → Option (PV × Heap)) : Prop :=
  ∀ {g : Gh} {H : Heap} {w : World} {v : DV} {rv : Value} {x : PV} {H' : Heap}, Rel g H w → DRel g H w v rv → fz H v = some (x, H') →
    ∃ g', Rel g' H' w ∧ Ev g H w g' H' w ∧ PRel g'.I w x rv ∧ (isCell v = true → isCellP x = true)

theorem frzs_rel {fz : Heap → DV → Option (PV × Heap)} (hf : FrzOk fz) : ∀ {g : Gh} {H : Heap} {w : World} {cs : List DV} {vs : List Value} {l : List PV} {H' : Heap}, Rel g H w → cs.length = vs.length →
    (∀ (i : Nat) (c : DV) (v : Value), cs[i]? = some c → vs[i]? = some v → DRel g H w c v) → frzs fz H cs = some (l, H') →
    ∃ g', Rel g' H' w ∧ Ev g H w g' H' w ∧ l.length = vs.length ∧ (∀ (i : Nat) (c : PV) (v : Value), l[i]? = some c → vs[i]? = some v → PRel g'.I w c v) ∧ ((∀ c ∈ cs, isCell c = true) → ∀ c ∈ l, isCellP c = true) := by
  intro g H w cs
  induction cs generalizing g H with
  | nil =>
    intro vs l H' hr hl h hv
    simp only [frzs, Option.some.injEq, Prod.mk.injEq] at hv
    obtain ⟨rfl, rfl⟩ := hv
    exact ⟨g, hr, Ev.refl hr, hl, fun i c v h => by simp at h, fun _ c hc => by simp at hc⟩
  | cons c r ih =>
    intro vs l H' hr hl h hv
    cases vs with
    | nil => simp at hl
    | cons v vs =>
      simp only [frzs] at hv
      split at hv
      · rename_i x H1 hx
        split at hv
        · rename_i l' H2 hl'
          simp only [Option.some.injEq, Prod.mk.injEq] at hv
          obtain ⟨rfl, rfl⟩ := hv
          obtain ⟨g1, hr1, hv1, hp, hc1⟩ := hf hr (h 0 c v (by simp) (by simp)) hx
          obtain ⟨g2, hr2, hv2, hln, hps, hc2⟩ := ih hr1 (by simpa using hl) (fun i c' v' hc hv => (h (i + 1) c' v' (by simpa using hc) (by simpa using hv)).mono hv1) hl'
          refine ⟨g2, hr2, hv1.trans hv2, by simp [hln], fun i c' v' hc hv => ?_, fun hk c' hc => ?_⟩
          · cases i with
            | zero => simp at hc hv; subst hc hv; exact hp.mono hv2.keeps
            | succ i => exact hps i c' v' (by simpa using hc) (by simpa using hv)
          · simp only [List.mem_cons] at hc
            rcases hc with rfl | hc
            · exact hc1 (hk c (by simp))
            · exact hc2 (fun d hd => hk d (by simp [hd])) c' hc
        · simp at hv
      · simp at hv

theorem pureEntries_spec : ∀ {es : List (PV × DV)} {l : List (PV × PV)}, pureEntries es = some l → l.length = es.length ∧ ∀ (i : Nat) (e : PV × PV), l[i]? = some e → es[i]? = some (e.1, .p e.2)
  | [], l, h => by simp [pureEntries] at h; subst h; exact ⟨rfl, fun i e h => by simp at h⟩
  | (k, v) :: r, l, h => by
    cases v with
    | p v =>
      simp only [pureEntries] at h
      split at h
      · rename_i l' hl
        obtain rfl := Option.some.inj h
        obtain ⟨h1, h2⟩ := pureEntries_spec hl
        refine ⟨by simp [h1], fun i e he => ?_⟩
        cases i with
        | zero => simp at he; subst he; simp
        | succ i => simpa using h2 i e (by simpa using he)
      · simp at h
    | _ => simp [pureEntries] at h

theorem freeze_rel : ∀ n : Nat, FrzOk (freeze n) := by
  intro n
  induction n with
  | zero => intro g H w v rv x H' _ _ h; simp [freeze] at h
  | succ n ih =>
    intro g H w v rv x H' hr h hv
    cases v with
    | p u =>
      simp only [freeze, Option.some.injEq, Prod.mk.injEq] at hv
      obtain ⟨rfl, rfl⟩ := hv
      exact ⟨g, hr, Ev.refl hr, h.pure, fun h => h⟩
    | msl b off len =>
      simp only [freeze, getN_eq] at hv
      split at hv
      · rename_i gr ag z els hb
        cases gr with
        | true =>
          simp only [if_true] at hv
          split at hv
          · rename_i hl
            split at hv
            · rename_i xs hx
              simp only [Option.some.injEq, Prod.mk.injEq] at hv
              obtain ⟨rfl, rfl⟩ := hv
              have hsn : snap1 H (.msl b off len) = some (.isl xs) := by simp only [snap1, getN_eq, hb, hl, hx, if_true]
              exact ⟨g, hr, Ev.refl hr, (snap1_rel hr h hsn).1, fun _ => rfl⟩
            · simp at hv
          · simp at hv
        | false =>
          simp only [Bool.false_eq_true, if_false, takeN_eq, dropN_eq, setN_eq] at hv
          split at hv
          · rename_i hl
            split at hv
            · rename_i xs hx
              simp only [Option.some.injEq, Prod.mk.injEq] at hv
              obtain ⟨rfl, rfl⟩ := hv
              obtain ⟨R, hφ, _, _, hels, hcell, _⟩ := hr.blk b _ hb trivial
              obtain ⟨h1, h2⟩ := kill hr hb trivial hφ
              refine ⟨g.all R, h1, h2, ?_, fun _ => rfl⟩
              cases h with
              | dmsl b off len cap A h => rw [hb] at h; simp at h
              | gmsl b off len cap R' z' A ag' els' hH => rw [hb] at hH; simp at hH
              | fmsl b off len cap R' z' ag' els' hH hφ' hbd hcap hc =>
                rw [hb] at hH
                simp only [Option.some.injEq, Blk.vec.injEq] at hH
                obtain ⟨_, rfl, rfl, rfl⟩ := hH
                rw [hφ] at hφ'; obtain rfl := Option.some.inj hφ'
                rw [← hl]
                refine isl_of_place (g := g.all R) (H := H.set b .dead) hx rfl (by rw [hl]; exact hcap) (fun j e hj => hels _ e (look_rows hj).1) (fun j k e d hj hk => ?_)
                obtain ⟨h3, h4⟩ := look_rows hj
                obtain ⟨v, h5, h6⟩ := hcell _ e k d h3 hk
                refine ⟨.inr rfl, v, ?_, h6.mono h2⟩
                rw [← h5]
                congr 2
                simp only [Nat.add_mul]
            · simp at hv
          · simp at hv
      · simp at hv
    | ptr b i o =>
      rcases i with _ | i
      case succ => simp [freeze] at hv
      rcases o with _ | o
      case succ => simp [freeze] at hv
      simp only [freeze, getN_eq, setN_eq] at hv
      split at hv
      · rename_i ag z cs hb
        split at hv
        · rename_i l H1 hl
          split at hv
          · rename_i u hu
            simp only [Option.some.injEq, Prod.mk.injEq] at hv
            obtain ⟨rfl, rfl⟩ := hv
            obtain ⟨R, hφ, _, _, hels, hcell, _⟩ := hr.blk b _ hb trivial
            obtain ⟨h1, h2⟩ := kill hr hb trivial hφ
            obtain ⟨hz, hk⟩ := hels 0 cs (by simp)
            have hcs : ∀ (k : Nat) (d : DV), cs[k]? = some d → ∃ v, w.cell? ⟨R, k, none⟩ = some v ∧ DRel g H w d v := fun k d hk => by
              obtain ⟨v, h3, h4⟩ := hcell 0 cs k d (by simp) hk
              exact ⟨v, by rw [← h3]; simp, h4⟩
            let vs : List Value := (List.range cs.length).map fun k => (w.cell? ⟨R, k, none⟩).getD Go.undef
            have hvs : ∀ (k : Nat) (v : Value), vs[k]? = some v → k < cs.length ∧ w.cell? ⟨R, k, none⟩ = some v := fun k v h => by
              have hlt : k < cs.length := by have := (List.getElem?_eq_some_iff.1 h).1; simpa [vs] using this
              simp only [vs, List.getElem?_map, List.getElem?_range hlt, Option.map_some, Option.some.injEq] at h
              obtain ⟨v', h3, _⟩ := hcs k cs[k] (by simp [hlt])
              rw [h3] at h
              exact ⟨hlt, by rw [h3, ← h]; rfl⟩
            obtain ⟨g2, hr2, hv2, hln, hps, hck⟩ := frzs_rel ih (vs := vs) h1 (by simp [vs]) (fun k c v hc hv => by
              obtain ⟨v', h3, h4⟩ := hcs k c hc
              have := (hvs k v hv).2
              rw [h3] at this; obtain rfl := Option.some.inj this
              exact h4.mono h2) hl
            have hcp : cellsP u = l := valOfP_cells hu (hck hk)
            refine ⟨g2, hr2, h2.trans hv2, ?_, fun _ => rfl⟩
            have get : ∀ k, k < l.length → ∃ v, vs[k]? = some v ∧ w.cell? ⟨R, k, none⟩ = some v := fun k hk => by
              have hk' : k < vs.length := by omega
              exact ⟨vs[k], by simp, (hvs k _ (by simp)).2⟩
            cases h with
            | dptr b i o A h => rw [hb] at h; simp at h
            | gptr b i o R z' A ag' els' hH => rw [hb] at hH; simp at hH
            | fptr b i o R' z' ag' els' hH hφ' =>
              rw [hφ] at hφ'; obtain rfl := Option.some.inj hφ'
              refine .cptr u _ (fun k => (w.cell? ⟨R, k, none⟩).getD Go.undef) rfl (by rw [hcp]; exact hck hk) (fun k hk => ?_) (fun k c hk => ?_)
              · rw [hcp] at hk
                obtain ⟨v, _, h4⟩ := get k hk
                refine ⟨(hv2.keeps _ _ (.inr rfl : (g.all R).I R _)).1, ?_⟩
                simp only [Nat.zero_mul, Nat.zero_add, h4, Option.getD_some]
              · rw [hcp] at hk
                obtain ⟨v, h3, h4⟩ := get k (List.getElem?_eq_some_iff.1 hk).1
                rw [h4]
                exact hps k c v hk h3
          · simp at hv
        · simp at hv
      · simp at hv
    | map b =>
      simp only [freeze, getN_eq, setN_eq] at hv
      split at hv
      · rename_i es hb
        split at hv
        · rename_i l hl
          simp only [Option.some.injEq, Prod.mk.injEq] at hv
          obtain ⟨rfl, rfl⟩ := hv
          obtain ⟨R, hφ, _, ⟨ents, cl, hw, hln, hh, hbn, hnd⟩, _⟩ := hr.blk b _ hb trivial
          obtain ⟨h1, h2⟩ := kill hr hb trivial hφ
          refine ⟨g.all R, h1, h2, ?_, fun _ => rfl⟩
          cases h with
          | dmap b R h => rw [hb] at h; simp at h
          | map b R' es' hH hφ' =>
            rw [hφ] at hφ'; obtain rfl := Option.some.inj hφ'
            obtain ⟨h3, h4⟩ := pureEntries_spec hl
            exact .pmap l R ents cl (.inr rfl) hw (by rw [h3, hln]) (fun i e m he hm => (hh i _ m (h4 i e he) hm).1.mono h2.keeps) (fun i e m he hm => (hh i _ m (h4 i e he) hm).2.pure.mono h2.keeps) hbn hnd
        · simp at hv
      · simp at hv
    | it b => simp [freeze] at hv
    | agg cs =>
      simp only [freeze] at hv
      split at hv
      · rename_i l H1 hl
        simp only [Option.some.injEq, Prod.mk.injEq] at hv
        obtain ⟨rfl, rfl⟩ := hv
        cases h with
        | agg cs vs hk hln hh =>
          obtain ⟨g1, h1, h2, h3, h4, h5⟩ := frzs_rel ih (vs := vs.toList) hr (by simpa using hln) (fun i c v hc hv => hh i c v hc (by simpa using hv)) hl
          exact ⟨g1, h1, h2, .agg l vs (h5 hk) (by simpa using h3) (fun i c v hc hv => h4 i c v hc (by simpa using hv)), fun h => by simp [isCell] at h⟩
      · simp at hv
    | tup cs =>
      simp only [freeze] at hv
      split at hv
      · rename_i l H1 hl
        simp only [Option.some.injEq, Prod.mk.injEq] at hv
        obtain ⟨rfl, rfl⟩ := hv
        cases h with
        | tup cs vs hln hh =>
          obtain ⟨g1, h1, h2, h3, h4, h5⟩ := frzs_rel ih (vs := vs.toList) hr (by simpa using hln) (fun i c v hc hv => hh i c v hc (by simpa using hv)) hl
          exact ⟨g1, h1, h2, .tup l vs (by simpa using h3) (fun i c v hc hv => h4 i c v hc (by simpa using hv)), fun h => by simp [isCell] at h⟩
      · simp at hv
    | fn f cs =>
      simp only [freeze] at hv
      split at hv
      · rename_i l H1 hl
        simp only [Option.some.injEq, Prod.mk.injEq] at hv
        obtain ⟨rfl, rfl⟩ := hv
        cases h with
        | fn f cs vs hln hh =>
          obtain ⟨g1, h1, h2, h3, h4, h5⟩ := frzs_rel ih (vs := vs.toList) hr (by simpa using hln) (fun i c v hc hv => hh i c v hc (by simpa using hv)) hl
          exact ⟨g1, h1, h2, .fn f l vs (by simpa using h3) (fun i c v hc hv => h4 i c v hc (by simpa using hv)), fun _ => rfl⟩
      · simp at hv
end
end Go.Lv

/- A heap within another: taken up again, let go of, seen from outside. -/
namespace Go.Lv
set_option linter.unusedVariables false
set_option linter.unusedSimpArgs false

section
variable {g : Gh} {H : Heap} {w : World}

/-! ### what lies behind a number is let go of -/
theorem below_all : ∀ {n : Nat} {cs : List DV}, belowAll n cs = true → ∀ (i : Nat) (c : DV), cs[i]? = some c → below n c = true
  | n, [], h, i, c, hi => by simp at hi
  | n, x :: r, h, i, c, hi => by
    simp only [belowAll, Bool.and_eq_true] at h
    cases i with
    | zero => simp at hi; subst hi; exact h.1
    | succ i => exact below_all h.2 i c (by simpa using hi)
theorem belowAll_of : ∀ {n : Nat} {cs : List DV}, (∀ (i : Nat) (c : DV), cs[i]? = some c → below n c = true) → belowAll n cs = true
  | n, [], h => rfl
  | n, x :: r, h => by simp only [belowAll, Bool.and_eq_true]; exact ⟨h 0 x (by simp), belowAll_of fun i c hi => h (i + 1) c (by simpa using hi)⟩

theorem look_take {n b : Nat} (hb : b < n) : (H.take n)[b]? = H[b]? := by rw [List.getElem?_take, if_pos hb]

theorem DRel.take {n : Nat} {v : DV} {rv : Value} (h : DRel g H w v rv) : Lv.below n v = true → DRel g (H.take n) w v rv := by
  induction h with
  | p v rv h => intro _; exact .p v rv h
  | dmsl b off len cap A h => intro hb; exact .dmsl b off len cap A (by rw [look_take (by simpa [Lv.below] using hb)]; exact h)
  | fmsl b off len cap R z ag els hH hφ hb hcap hc => intro hbl; exact .fmsl b off len cap R z ag els (by rw [look_take (by simpa [Lv.below] using hbl)]; exact hH) hφ hb hcap hc
  | gmsl b off len cap R z A ag els hH hφ hs hb hcap hc hf => intro hbl; exact .gmsl b off len cap R z A ag els (by rw [look_take (by simpa [Lv.below] using hbl)]; exact hH) hφ hs hb hcap hc hf
  | dptr b i o A h => intro hb; exact .dptr b i o A (by rw [look_take (by simpa [Lv.below] using hb)]; exact h)
  | fptr b i o R z ag els hH hφ => intro hb; exact .fptr b i o R z ag els (by rw [look_take (by simpa [Lv.below] using hb)]; exact hH) hφ
  | gptr b i o R z A ag els hH hφ hs hi hc => intro hb; exact .gptr b i o R z A ag els (by rw [look_take (by simpa [Lv.below] using hb)]; exact hH) hφ hs hi hc
  | dit b R h => intro hb; exact .dit b R (by rw [look_take (by simpa [Lv.below] using hb)]; exact h)
  | it b R s pos hH hφ => intro hb; exact .it b R s pos (by rw [look_take (by simpa [Lv.below] using hb)]; exact hH) hφ
  | dmap b R h => intro hb; exact .dmap b R (by rw [look_take (by simpa [Lv.below] using hb)]; exact h)
  | map b R es hH hφ => intro hb; exact .map b R es (by rw [look_take (by simpa [Lv.below] using hb)]; exact hH) hφ
  | fn f cs vs hl _ ih => intro hb; exact .fn f cs vs hl fun i c v hc hv => ih i c v hc hv (below_all (by simpa [Lv.below] using hb) i c hc)
  | agg cs vs hk hl _ ih => intro hb; exact .agg cs vs hk hl fun i c v hc hv => ih i c v hc hv (below_all (by simpa [Lv.below] using hb) i c hc)
  | tup cs vs hl _ ih => intro hb; exact .tup cs vs hl fun i c v hc hv => ih i c v hc hv (below_all (by simpa [Lv.below] using hb) i c hc)

/-- what stands in a block -/
def blkCells : Blk → List DV
  | .vec _ _ _ els => els.flatten
  | .mp es => es.map (·.2)
  | _ => []

/-- Do the blocks below a number refer to blocks below a number alone? -/
def LoInv (lo : Nat) (H : Heap) : Prop := ∀ (b : Nat) (k : Blk), b < lo → H[b]? = some k → ∀ c ∈ blkCells k, below lo c = true

theorem BlkRel.take {n R : Nat} {k : Blk} (h : BlkRel g H w R k) (hc : ∀ c ∈ blkCells k, below n c = true) : BlkRel g (H.take n) w R k := by
  cases k with
  | vec gr ag z els =>
    obtain ⟨h0, h1, h2, h3⟩ := h
    refine ⟨h0, h1, fun i e j d hi hj => ?_, h3⟩
    obtain ⟨v, h4, h5⟩ := h2 i e j d hi hj
    exact ⟨v, h4, h5.take (hc d (List.mem_flatten.2 ⟨e, List.mem_of_getElem? hi, List.mem_of_getElem? hj⟩))⟩
  | mp es =>
    obtain ⟨⟨ents, cl, hw, hl, h1, h2, h3⟩, h4⟩ := h
    exact ⟨⟨ents, cl, hw, hl, fun i e m he hm => ⟨(h1 i e m he hm).1, (h1 i e m he hm).2.take (hc e.2 (List.mem_map.2 ⟨e, List.mem_of_getElem? he, rfl⟩))⟩, h2, h3⟩, h4⟩
  | iter s pos => exact h
  | dead => trivial

theorem look_of_take {n b : Nat} {k : Blk} (h : (H.take n)[b]? = some k) : b < n ∧ H[b]? = some k := by
  rw [List.getElem?_take] at h
  split at h
  · rename_i hlt; exact ⟨hlt, h⟩
  · simp at h

theorem Rel.take {n : Nat} (hr : Rel g H w) (hlo : LoInv n H) : Rel g (H.take n) w where
  blk := fun b k hb ha => by
    obtain ⟨h1, h2⟩ := look_of_take hb
    obtain ⟨R, h3, h4, h5⟩ := hr.blk b k h2 ha
    exact ⟨R, h3, h4, h5.take (hlo b k h1 h2)⟩
  inj := fun b b' k k' R hb ha hb' ha' => hr.inj b b' k k' R (look_of_take hb).2 ha (look_of_take hb').2 ha'
  low := hr.low

theorem Ev.take {g0 : Gh} {H0 : Heap} {w0 : World} {n : Nat} (h : Ev g0 H0 w0 g H w) (hn : H0.length ≤ n) : Ev g0 H0 w0 g (H.take n) w where
  keeps := h.keeps
  free := h.free
  size := h.size
  cs := h.cs
  tape := h.tape
  len := by rw [List.length_take]; have := h.len; omega
  blk := fun b k hb => by
    obtain ⟨k', h1, h2⟩ := h.blk b k hb
    exact ⟨k', by rw [look_take (Nat.lt_of_lt_of_le (List.getElem?_eq_some_iff.1 hb).1 hn)]; exact h1, h2⟩
  newI := h.newI
  newφ := fun b k R hb ha hR => h.newφ b k R (look_of_take hb).2 ha hR

/-- what is related refers to what is there alone -/
theorem DRel.inH {v : DV} {rv : Value} (h : DRel g H w v rv) : Lv.below H.length v = true := by
  have lt : ∀ {b : Nat} {k : Blk}, H[b]? = some k → b < H.length := fun h => (List.getElem?_eq_some_iff.1 h).1
  induction h with
  | p v rv h => rfl
  | dmsl b off len cap A h => simpa [Lv.below] using lt h
  | fmsl b off len cap R z ag els hH hφ hb hcap hc => simpa [Lv.below] using lt hH
  | gmsl b off len cap R z A ag els hH hφ hs hb hcap hc hf => simpa [Lv.below] using lt hH
  | dptr b i o A h => simpa [Lv.below] using lt h
  | fptr b i o R z ag els hH hφ => simpa [Lv.below] using lt hH
  | gptr b i o R z A ag els hH hφ hs hi hc => simpa [Lv.below] using lt hH
  | dit b R h => simpa [Lv.below] using lt h
  | it b R s pos hH hφ => simpa [Lv.below] using lt hH
  | dmap b R h => simpa [Lv.below] using lt h
  | map b R es hH hφ => simpa [Lv.below] using lt hH
  | fn f cs vs hl _ ih =>
    simp only [Lv.below]
    exact belowAll_of fun i c hc => ih i c (vs[i]'(by rw [← hl]; exact (List.getElem?_eq_some_iff.1 hc).1)) hc (by simp)
  | agg cs vs hk hl _ ih =>
    simp only [Lv.below]
    exact belowAll_of fun i c hc => ih i c (vs[i]'(by rw [← hl]; exact (List.getElem?_eq_some_iff.1 hc).1)) hc (by simp)
  | tup cs vs hl _ ih =>
    simp only [Lv.below]
    exact belowAll_of fun i c hc => ih i c (vs[i]'(by rw [← hl]; exact (List.getElem?_eq_some_iff.1 hc).1)) hc (by simp)

theorem Rel.lo (hr : Rel g H w) : LoInv H.length H := by
  intro b k hlt hb c hc
  cases k with
  | vec gr ag z els =>
    obtain ⟨R, _, _, _, _, h2, _⟩ := hr.blk b _ hb trivial
    obtain ⟨e, he, hce⟩ := List.mem_flatten.1 hc
    obtain ⟨i, hi⟩ := List.mem_iff_getElem?.1 he
    obtain ⟨j, hj⟩ := List.mem_iff_getElem?.1 hce
    obtain ⟨v, _, h⟩ := h2 i e j c hi hj
    exact h.inH
  | mp es =>
    obtain ⟨R, _, _, ⟨ents, cl, _, hl, h1, _⟩, _⟩ := hr.blk b _ hb trivial
    obtain ⟨e, he, rfl⟩ := List.mem_map.1 hc
    obtain ⟨i, hi⟩ := List.mem_iff_getElem?.1 he
    have hlt : i < ents.size := by rw [← hl]; exact (List.getElem?_eq_some_iff.1 hi).1
    exact (h1 i e ents[i] hi (by simp [hlt])).2.inH
  | iter s pos => simp [blkCells] at hc
  | dead => simp [blkCells] at hc

/-! ### within an empty heap -/
def Gh.none (g : Gh) : Gh := ⟨fun _ => .none, g.I⟩
theorem Rel.none (hr : Rel g H w) : Rel g.none [] w := ⟨fun b k h => by simp at h, fun b b' k k' R h => by simp at h, hr.low⟩

/-- what is done in an empty heap is nothing to the heap outside -/
theorem outer {g' : Gh} {H' : Heap} {w' : World} (hr : Rel g H w) (hv : Ev g.none [] w g' H' w') (hlow : ∀ R o, g'.I R o → R < w'.heap.size) :
    Rel ⟨g.φ, g'.I⟩ H w' ∧ Ev g H w ⟨g.φ, g'.I⟩ H w' := by
  have fr : ∀ R, R < w.heap.size → w'.heap[R]? = w.heap[R]? := fun R h => hv.free R h fun b k hb => by simp at hb
  have nI : ∀ R o, R < w.heap.size → (g'.I R o ↔ g.I R o) := fun R o h => ⟨fun h1 => by
    rcases hv.newI R o h1 with h2 | h2 | h2
    · exact h2
    · omega
    · exact absurd (fun b k hb => by simp at hb) h2, fun h1 => (hv.keeps R o h1).1⟩
  have ev : Ev g H w ⟨g.φ, g'.I⟩ H w' := {
    keeps := hv.keeps, free := fun R h _ => fr R h, size := hv.size, cs := hv.cs, tape := hv.tape, len := Nat.le_refl _
    blk := fun b k hb => ⟨k, hb, Turns.stay hr hb rfl fun R ha hR => by
      obtain ⟨R', h1, h2, _⟩ := hr.blk b k hb ha
      rw [hR] at h1; obtain rfl := Option.some.inj h1
      exact fr R h2⟩
    newI := fun R o h => by
      rcases Nat.lt_or_ge R w.heap.size with h1 | h1
      · exact .inl ((nI R o h1).1 h)
      · exact .inr (.inl h1)
    newφ := fun b k R hb ha hR => .inr fun hf => hf b k hb ha hR }
  refine ⟨⟨fun b k hb ha => ?_, hr.inj, hlow⟩, ev⟩
  obtain ⟨R, h1, h2, h3⟩ := hr.blk b k hb ha
  exact ⟨R, h1, Nat.lt_of_lt_of_le h2 hv.size, h3.mono ev (fr R h2) fun o => nI R o h2⟩

/-! ### a free block is taken up -/
def Gh.own (g : Gh) (b R : Nat) : Gh := ⟨fun b' => if b' = b then some R else g.φ b', g.I⟩

theorem DRel.own {v : DV} {rv : Value} {R : Nat} {k : Blk} (h : DRel g H w v rv) : DRel (g.own H.length R) (H ++ [k]) w v rv := by
  have lk : ∀ {b : Nat} {k' : Blk}, H[b]? = some k' → (H ++ [k])[b]? = some k' := fun h => by rw [List.getElem?_append_left (List.getElem?_eq_some_iff.1 h).1]; exact h
  have ph : ∀ {b R' : Nat} {k' : Blk}, H[b]? = some k' → g.φ b = some R' → (g.own H.length R).φ b = some R' := fun h h' => by
    simp only [Gh.own]; rw [if_neg (by have := (List.getElem?_eq_some_iff.1 h).1; omega)]; exact h'
  induction h with
  | p v rv h => exact .p v rv h
  | dmsl b off len cap A h => exact .dmsl b off len cap A (lk h)
  | fmsl b off len cap R z ag els hH hφ hb hcap hc => exact .fmsl b off len cap R z ag els (lk hH) (ph hH hφ) hb hcap hc
  | gmsl b off len cap R z A ag els hH hφ hs hb hcap hc hf => exact .gmsl b off len cap R z A ag els (lk hH) (ph hH hφ) hs hb hcap hc hf
  | dptr b i o A h => exact .dptr b i o A (lk h)
  | fptr b i o R z ag els hH hφ => exact .fptr b i o R z ag els (lk hH) (ph hH hφ)
  | gptr b i o R z A ag els hH hφ hs hi hc => exact .gptr b i o R z A ag els (lk hH) (ph hH hφ) hs hi hc
  | dit b R h => exact .dit b R (lk h)
  | it b R s pos hH hφ => exact .it b R s pos (lk hH) (ph hH hφ)
  | dmap b R h => exact .dmap b R (lk h)
  | map b R es hH hφ => exact .map b R es (lk hH) (ph hH hφ)
  | fn f cs vs hl _ ih => exact .fn f cs vs hl ih
  | agg cs vs hk hl _ ih => exact .agg cs vs hk hl ih
  | tup cs vs hl _ ih => exact .tup cs vs hl ih

theorem own_blk {R : Nat} {k : Blk} (hr : Rel g H w) (hf : Free g H R) (hR : R < w.heap.size) (hk : BlkRel (g.own H.length R) (H ++ [k]) w R k) : Rel (g.own H.length R) (H ++ [k]) w := by
  have key : ∀ (b : Nat) (k' : Blk) (R' : Nat), (H ++ [k])[b]? = some k' → k'.alive → (g.own H.length R).φ b = some R' → (b < H.length ∧ H[b]? = some k' ∧ g.φ b = some R') ∨ (b = H.length ∧ k' = k ∧ R' = R) := by
    intro b k' R' hb ha h
    rcases Nat.lt_or_ge b H.length with hlt | hge
    · rw [List.getElem?_append_left hlt] at hb
      simp only [Gh.own] at h; rw [if_neg (by omega)] at h
      exact .inl ⟨hlt, hb, h⟩
    · have hb' : b = H.length := by
        have := (List.getElem?_eq_some_iff.1 hb).1
        simp at this; omega
      subst hb'
      simp only [List.getElem?_append_right (Nat.le_refl _), Nat.sub_self, List.getElem?_cons_zero, Option.some.injEq] at hb
      simp only [Gh.own, if_true, Option.some.injEq] at h
      exact .inr ⟨rfl, hb.symm, h.symm⟩
  refine ⟨fun b k' hb ha => ?_, fun b b' k1 k2 R' hb ha hb' ha' h1 h2 => ?_, hr.low⟩
  · rcases Nat.lt_or_ge b H.length with hlt | hge
    · have hb0 := hb
      rw [List.getElem?_append_left hlt] at hb
      obtain ⟨R', h1, h2, h3⟩ := hr.blk b k' hb ha
      refine ⟨R', by simp only [Gh.own]; rw [if_neg (by omega)]; exact h1, h2, ?_⟩
      cases k' with
      | vec gr ag z els =>
        obtain ⟨e0, e1, e2, e3⟩ := h3
        exact ⟨e0, e1, fun i e j d hi hj => by obtain ⟨v, e4, e5⟩ := e2 i e j d hi hj; exact ⟨v, e4, e5.own⟩, e3⟩
      | mp es =>
        obtain ⟨⟨ents, cl, hw, hl, e1, e2, e3⟩, e4⟩ := h3
        exact ⟨⟨ents, cl, hw, hl, fun i e m he hm => ⟨(e1 i e m he hm).1, (e1 i e m he hm).2.own⟩, e2, e3⟩, e4⟩
      | iter s pos => exact h3
      | dead => trivial
    · have hb' : b = H.length := by
        have := (List.getElem?_eq_some_iff.1 hb).1
        simp at this; omega
      subst hb'
      simp only [List.getElem?_append_right (Nat.le_refl _), Nat.sub_self, List.getElem?_cons_zero, Option.some.injEq] at hb
      subst hb
      exact ⟨R, by simp [Gh.own], hR, hk⟩
  · rcases key b k1 R' hb ha h1 with ⟨e1, e2, e3⟩ | ⟨e1, _, e3⟩ <;> rcases key b' k2 R' hb' ha' h2 with ⟨e4, e5, e6⟩ | ⟨e4, _, e6⟩
    · exact hr.inj b b' k1 k2 R' e2 ha e5 ha' e3 e6
    · subst e6; exact absurd e3 (hf b k1 e2 ha)
    · subst e3; exact absurd e6 (hf b' k2 e5 ha')
    · omega

theorem ev_own {g0 : Gh} {H0 : Heap} {w0 : World} {R : Nat} {k : Blk} (h : Ev g0 H0 w0 g H w) (hR : w0.heap.size ≤ R) : Ev g0 H0 w0 (g.own H.length R) (H ++ [k]) w where
  keeps := h.keeps
  free := h.free
  size := h.size
  cs := h.cs
  tape := h.tape
  len := by simp; have := h.len; omega
  blk := fun b k' hb => by
    obtain ⟨k1, h1, h2⟩ := h.blk b k' hb
    have hlt := (List.getElem?_eq_some_iff.1 h1).1
    refine ⟨k1, by rw [List.getElem?_append_left hlt]; exact h1, ?_⟩
    have e : (g.own H.length R).φ b = g.φ b := by simp only [Gh.own]; rw [if_neg (by omega)]
    cases k' with
    | vec gr ag z els => cases gr <;> simp only [Turns, e] at h2 ⊢ <;> exact h2
    | mp es => simp only [Turns, e] at h2 ⊢; exact h2
    | iter s pos => simp only [Turns, e] at h2 ⊢; exact h2
    | dead => exact h2
  newI := h.newI
  newφ := fun b k' R' hb ha hR' => by
    rcases Nat.lt_or_ge b H.length with hlt | hge
    · rw [List.getElem?_append_left hlt] at hb
      simp only [Gh.own] at hR'; rw [if_neg (by omega)] at hR'
      exact h.newφ b k' R' hb ha hR'
    · have hb' : b = H.length := by
        have := (List.getElem?_eq_some_iff.1 hb).1
        simp at this; omega
      subst hb'
      simp only [Gh.own, if_true, Option.some.injEq] at hR'
      exact .inl (by omega)
end
end Go.Lv

/- What lies below a number refers to what lies below it: no operation breaks that. -/
namespace Go.Lv
set_option linter.unusedVariables false
set_option linter.unusedSimpArgs false

def LoStep (lo : Nat) (H H' : Heap) : Prop := H.length ≤ H'.length ∧ (lo ≤ H.length → ∀ lo0, lo0 ≤ lo → LoInv lo0 H → LoInv lo0 H')

theorem LoStep.refl {lo : Nat} {H : Heap} : LoStep lo H H := ⟨Nat.le_refl _, fun _ _ _ h => h⟩
theorem LoStep.trans {lo : Nat} {H H' H'' : Heap} (h : LoStep lo H H') (h' : LoStep lo H' H'') : LoStep lo H H'' :=
  ⟨Nat.le_trans h.1 h'.1, fun hl l0 h0 hi => h'.2 (Nat.le_trans hl h.1) l0 h0 (h.2 hl l0 h0 hi)⟩
theorem LoStep.app {lo : Nat} {H : Heap} {k : Blk} : LoStep lo H (H ++ [k]) :=
  ⟨by simp, fun hl l0 h0 hi b k' hb hk => by
    rw [List.getElem?_append_left (by omega)] at hk
    exact hi b k' hb hk⟩
theorem LoStep.set {lo b : Nat} {H : Heap} {k : Blk} (hc : b < lo → ∀ l0, b < l0 → ∀ k0, H[b]? = some k0 → (∀ c ∈ blkCells k0, below l0 c = true) → ∀ c ∈ blkCells k, below l0 c = true) : LoStep lo H (H.set b k) :=
  ⟨by simp, fun hl l0 h0 hi b' k' hb hk => by
    by_cases e : b' = b
    · subst e
      have hlt : b' < H.length := by omega
      rw [List.getElem?_set_self hlt] at hk
      obtain rfl := Option.some.inj hk
      exact hc (by omega) l0 hb H[b'] (by simp [hlt]) (hi b' _ hb (by simp [hlt]))
    · rw [List.getElem?_set_ne (Ne.symm e)] at hk
      exact hi b' k' hb hk⟩
theorem LoStep.dead {lo b : Nat} {H : Heap} : LoStep lo H (H.set b .dead) := .set fun _ _ _ _ _ _ c hc => by simp [blkCells] at hc

theorem allPure_mem : ∀ {l : List DV}, allPure l = true → ∀ c ∈ l, ∃ x, c = .p x
  | [], _, c, hc => by simp at hc
  | .p x :: r, h, c, hc => by
    simp only [allPure] at h
    simp only [List.mem_cons] at hc
    rcases hc with rfl | hc
    · exact ⟨x, rfl⟩
    · exact allPure_mem h c hc
  | .msl .. :: _, h, _, _ => by simp [allPure] at h
  | .ptr .. :: _, h, _, _ => by simp [allPure] at h
  | .map .. :: _, h, _, _ => by simp [allPure] at h
  | .it .. :: _, h, _, _ => by simp [allPure] at h
  | .fn .. :: _, h, _, _ => by simp [allPure] at h
  | .agg .. :: _, h, _, _ => by simp [allPure] at h
  | .tup .. :: _, h, _, _ => by simp [allPure] at h
theorem allPures_mem : ∀ {l : List (List DV)}, allPures l = true → ∀ e ∈ l, allPure e = true
  | [], _, e, he => by simp at he
  | c :: r, h, e, he => by
    simp only [allPures, Bool.and_eq_true] at h
    simp only [List.mem_cons] at he
    rcases he with rfl | he
    · exact h.1
    · exact allPures_mem h.2 e he

theorem over_mem {α : Type} : ∀ {l v : List α} {c : α}, c ∈ putAt.over l v → c ∈ l ∨ c ∈ v
  | l, [], c, h => by cases l <;> simp [putAt.over] at h <;> simp [h]
  | [], _ :: _, c, h => by simp [putAt.over] at h
  | a :: l, b :: v, c, h => by
    simp only [putAt.over, List.mem_cons] at h ⊢
    rcases h with h | h
    · exact .inr (.inl h)
    · rcases over_mem h with h | h
      · exact .inl (.inr h)
      · exact .inr (.inr h)
theorem putAt_mem {α : Type} : ∀ {l : List α} {o : Nat} {v : List α} {c : α}, c ∈ putAt l o v → c ∈ l ∨ c ∈ v
  | l, 0, v, c, h => by cases l <;> exact over_mem (by simpa [putAt] using h)
  | [], _ + 1, v, c, h => by simp [putAt] at h
  | x :: r, n + 1, v, c, h => by
    simp only [putAt, List.mem_cons] at h ⊢
    rcases h with h | h
    · exact .inl (.inl h)
    · rcases putAt_mem h with h | h
      · exact .inl (.inr h)
      · exact .inr h

theorem putE_mem : ∀ {es l : List (PV × DV)} {x : PV} {v : DV}, putE es x v = some l → ∀ e ∈ l, e.2 = v ∨ ∃ e' ∈ es, e'.2 = e.2
  | [], l, x, v, h, e, he => by simp [putE] at h; subst h; simp at he; subst he; exact .inl rfl
  | (k, u) :: r, l, x, v, h, e, he => by
    simp only [putE] at h
    split at h
    · obtain rfl := Option.some.inj h
      simp only [List.mem_cons] at he
      rcases he with rfl | he
      · exact .inl rfl
      · exact .inr ⟨e, by simp [he], rfl⟩
    · split at h
      · rename_i l' hl
        obtain rfl := Option.some.inj h
        simp only [List.mem_cons] at he
        rcases he with rfl | he
        · exact .inr ⟨(k, u), by simp, rfl⟩
        · rcases putE_mem hl e he with h1 | ⟨e', h1, h2⟩
          · exact .inl h1
          · exact .inr ⟨e', by simp [h1], h2⟩
      · simp at h
    · simp at h

theorem store_lo {lo n : Nat} {H H' : Heap} {x v : DV} (h : storeDV lo H n x v = some H') : LoStep lo H H' := by
  unfold storeDV at h
  split at h
  · rename_i b i o
    rw [getN_eq] at h
    split at h
    · rename_i ag z els hb
      rw [getN_eq] at h
      split at h
      · rename_i cs hj
        dsimp only at h
        split at h
        · rename_i hc
          obtain rfl := Option.some.inj h
          rw [setN_eq, setN_eq]
          refine .set fun hlt l0 h0 k0 hk0 hcs c hcm => ?_
          rw [hb] at hk0; obtain rfl := Option.some.inj hk0
          simp only [blkCells] at hcm hcs
          obtain ⟨e, he, hce⟩ := List.mem_flatten.1 hcm
          rcases List.mem_or_eq_of_mem_set he with he | he
          · exact hcs c (List.mem_flatten.2 ⟨e, he, hce⟩)
          · subst he
            rcases putAt_mem hce with h1 | h1
            · exact hcs c (List.mem_flatten.2 ⟨cs, List.mem_of_getElem? hj, h1⟩)
            · obtain ⟨p, rfl⟩ := allPure_mem (hc.2.2.2.resolve_left (by omega)) c h1
              rfl
        · simp at h
      · simp at h
    · simp at h
  · simp at h

theorem app_lo {lo esz : Nat} {fix ag : Bool} {H H' : Heap} {s v : DV} {ys : List (List DV)} (h : appDV lo H fix ag esz s ys = some (v, H')) : LoStep lo H H' := by
  unfold appDV at h
  split at h
  · split at h
    · split at h
      · simp only [Option.some.injEq, Prod.mk.injEq] at h; obtain ⟨_, rfl⟩ := h; exact .refl
      · split at h
        · simp only [Option.some.injEq, Prod.mk.injEq] at h; obtain ⟨_, rfl⟩ := h; exact .app
        · simp at h
    · rename_i b len
      rw [getN_eq] at h
      split at h
      · rename_i g a z els hb
        split at h
        · rename_i hc
          split at h
          · split at h
            · simp only [Option.some.injEq, Prod.mk.injEq] at h; obtain ⟨_, rfl⟩ := h; exact .refl
            · simp only [Option.some.injEq, Prod.mk.injEq, setN_eq] at h; obtain ⟨_, rfl⟩ := h; exact LoStep.dead.trans .app
          · rename_i hfix
            simp only [Option.some.injEq, Prod.mk.injEq, setN_eq] at h
            obtain ⟨_, rfl⟩ := h
            refine .set fun hlt l0 h0 k0 hk0 hcs c hcm => ?_
            rw [hb] at hk0; obtain rfl := Option.some.inj hk0
            simp only [blkCells, List.flatten_append, List.mem_append] at hcm hcs
            rcases hcm with h1 | h1
            · exact hcs c h1
            · obtain ⟨e, he, hce⟩ := List.mem_flatten.1 h1
              have hp := hc.2.2.2.2.1.resolve_left (by omega)
              simp only [Bool.and_eq_true] at hp
              obtain ⟨p, rfl⟩ := allPure_mem (allPures_mem hp.2 e he) c hce
              rfl
        · simp at h
      · simp at h
    · simp at h
  · simp at h

theorem next_lo {lo : Nat} {H H' : Heap} {x v : DV} (h : nextDV lo H x = some (v, H')) : LoStep lo H H' := by
  unfold nextDV at h
  split at h
  · rename_i b
    rw [getN_eq] at h
    split at h
    · rename_i s pos hb
      split at h
      · split at h
        · split at h
          · simp only [Option.some.injEq, Prod.mk.injEq, setN_eq] at h
            obtain ⟨_, rfl⟩ := h
            exact .set fun _ _ _ _ _ _ c hc => by simp [blkCells] at hc
          · simp at h
        · simp only [Option.some.injEq, Prod.mk.injEq] at h; obtain ⟨_, rfl⟩ := h; exact .refl
      · simp at h
    · simp at h
  · simp at h

theorem exOp_lo {call : Caller} (hcall : ∀ {lo f : Nat} {args : List DV} {H H' : Heap} {v : DV}, call lo f args H = some (v, H') → LoStep lo H H') {lo : Nat} {env ts : List DV} {H H' : Heap} {i : IOp} {v : DV}
    (h : exOp call lo env ts H i = some (v, H')) : LoStep lo H H' := by
  have k0 : ∀ {r : Option DV}, ok0 H r = some (v, H') → LoStep lo H H' := fun h => by obtain ⟨_, rfl⟩ := ok0_some h; exact .refl
  have kP : ∀ {r : Option PV}, okP H r = some (v, H') → LoStep lo H H' := fun h => by obtain ⟨_, _, _, rfl⟩ := okP_some h; exact .refl
  have kS : ∀ {u : DV} {H2 : Heap}, LoStep lo H H2 → some (u, H2) = some (v, H') → LoStep lo H H' := fun hq e => by
    simp only [Option.some.injEq, Prod.mk.injEq] at e; obtain ⟨_, rfl⟩ := e; exact hq
  cases i with
  | mov x => exact kS .refl h
  | pick c x y =>
    simp only [exOp] at h
    split at h
    · exact kS .refl h
    · simp at h
  | bin b x y =>
    simp only [exOp] at h
    split at h
    · exact kP h
    · simp at h
  | eqv k neg x y =>
    simp only [exOp] at h
    split at h
    · exact kS .refl h
    · simp at h
  | un u x =>
    simp only [exOp] at h
    split at h
    · exact kP h
    · simp at h
  | conv k x =>
    simp only [exOp] at h
    split at h
    · exact kS .refl h
    · simp at h
  | s2b hd x =>
    simp only [exOp] at h
    split at h
    · cases hd
      · exact kS .refl h
      · exact kS .app h
      · exact kS .app h
    · simp at h
  | b2s x =>
    simp only [exOp] at h
    split at h
    · simp at h
    · split at h
      · split at h
        · split at h
          · exact kS .refl h
          · simp at h
        · simp at h
      · simp at h
  | b2b x =>
    simp only [exOp] at h
    split at h
    · split at h
      · split at h
        · exact kS .refl h
        · simp at h
      · simp at h
    · simp at h
  | box hd x =>
    simp only [exOp] at h
    split at h
    · cases hd with
      | val =>
        simp only at h
        split at h
        · exact kS .refl h
        · simp at h
      | grow => exact kS .app h
      | fix => exact kS .app h
    · simp at h
  | boxNew n z => exact kS .refl h
  | boxSet n x =>
    simp only [exOp] at h
    split at h
    · split at h
      · exact kS .refl h
      · simp at h
    · simp at h
  | alloc n z =>
    simp only [exOp] at h
    split at h
    · exact kS .app h
    · simp at h
  | load ag n x => exact k0 h
  | store n x y =>
    simp only [exOp] at h
    split at h
    · rename_i H2 hst
      exact kS (store_lo hst) h
    · simp at h
  | fieldAddr off n ag x => exact k0 h
  | indexAddr esz x i => exact k0 h
  | indexArr len esz ag x i => exact k0 h
  | indexStr x i =>
    simp only [exOp] at h
    split at h
    · split at h
      · exact kS .refl h
      · simp at h
    · simp at h
  | indexV len esz ag x i =>
    simp only [exOp] at h
    split at h
    · split at h
      · split at h
        · exact k0 h
        · simp at h
      · simp at h
    · simp at h
  | field off n ag x =>
    simp only [exOp] at h
    split at h
    · split at h
      · exact kP h
      · simp at h
    · split at h
      · exact k0 h
      · simp at h
    · simp at h
  | build z ps =>
    simp only [exOp] at h
    split at h
    · exact kS .refl h
    · simp at h
  | buildSl hd ag esz ps =>
    simp only [exOp] at h
    split at h
    · cases hd with
      | val =>
        simp only at h
        split at h
        · exact kS .refl h
        · simp at h
      | grow => exact kS .app h
      | fix => exact kS .app h
    · simp at h
  | len k x =>
    simp only [exOp] at h
    split at h
    · simp at h
    · split at h
      · exact kS .refl h
      · simp at h
  | app fix ag esz s x =>
    simp only [exOp] at h
    split at h
    · exact app_lo h
    · simp at h
  | slice str esz x l u =>
    simp only [exOp] at h
    split at h
    · simp at h
    · split at h
      · exact k0 h
      · simp at h
  | makeSl ag z n =>
    simp only [exOp] at h
    split at h
    · split at h
      · exact kS .app h
      · simp at h
    · simp at h
  | copy esz d s =>
    simp only [exOp, getN_eq, setN_eq, takeN_eq] at h
    split at h
    · rename_i b off len ys hd hy
      split at h
      · rename_i ag z els hb
        split at h
        · rename_i hc
          refine kS (.set fun hlt l0 h0 k0 hk0 hcs c hcm => ?_) h
          rw [hb] at hk0; obtain rfl := Option.some.inj hk0
          simp only [blkCells] at hcm hcs
          obtain ⟨e, he, hce⟩ := List.mem_flatten.1 hcm
          rcases putAt_mem he with he | he
          · exact hcs c (List.mem_flatten.2 ⟨e, he, hce⟩)
          · obtain ⟨p, rfl⟩ := allPure_mem (allPures_mem (hc.2.2.2.resolve_left (by omega)) e he) c hce
            rfl
        · simp at h
      · simp at h
    · simp at h
  | makeMap => exact kS .app h
  | lookup ks z ok m k =>
    simp only [exOp] at h
    split at h
    · split at h
      · split at h
        · exact kS .refl h
        · split at h
          · exact kS .refl h
          · simp at h
        · split at h
          · split at h
            · exact kS .refl h
            · simp at h
          · simp at h
        · simp at h
      · simp at h
    · simp at h
  | mapUpd ks m k y =>
    simp only [exOp, getN_eq, setN_eq] at h
    split at h
    · rename_i b x hm hk
      split at h
      · rename_i es hb
        split at h
        · rename_i hc
          split at h
          · rename_i l hp
            refine kS (.set fun hlt l0 h0 k0 hk0 hcs c hcm => ?_) h
            rw [hb] at hk0; obtain rfl := Option.some.inj hk0
            simp only [blkCells] at hcm hcs
            obtain ⟨e, he, rfl⟩ := List.mem_map.1 hcm
            rcases putE_mem hp e he with h1 | ⟨e', h1, h2⟩
            · rw [h1]
              obtain ⟨p, h3⟩ := allPure_mem (hc.1.resolve_left (by omega)) (opd env ts y) (by simp)
              rw [h3]; rfl
            · rw [← h2]; exact hcs _ (List.mem_map.2 ⟨e', h1, rfl⟩)
          · simp at h
        · simp at h
      · simp at h
    · simp at h
  | call f args => exact hcall h
  | callv f args =>
    simp only [exOp] at h
    split at h
    · exact hcall h
    · exact hcall h
    · simp at h
  | extract i x =>
    simp only [exOp] at h
    split at h
    · exact kP h
    · exact k0 h
    · simp at h
  | nilCheck x =>
    simp only [exOp] at h
    split at h
    · simp at h
    · simp at h
    · simp at h
    · exact kS .refl h
  | mkfn f caps => exact kS .refl h
  | mkif t x =>
    simp only [exOp] at h
    split at h
    · exact kS .refl h
    · simp at h
  | range x =>
    simp only [exOp] at h
    split at h
    · exact kS .app h
    · simp at h
  | next x => exact next_lo h

/-! ### freezing, regions, code -/
theorem frzs_lo {lo : Nat} {fz : Heap → DV → Option (PV × Heap)} (hf : ∀ {H H' : Heap} {v : DV} {x : PV}, fz H v = some (x, H') → LoStep lo H H') : ∀ {cs : List DV} {H H' : Heap} {l : List PV}, frzs fz H cs = some (l, H') → LoStep lo H H'
  | [], H, H', l, h => by simp only [frzs, Option.some.injEq, Prod.mk.injEq] at h; obtain ⟨_, rfl⟩ := h; exact .refl
  | c :: r, H, H', l, h => by
    simp only [frzs] at h
    split at h
    · rename_i x H1 hx
      split at h
      · rename_i l' H2 hl
        simp only [Option.some.injEq, Prod.mk.injEq] at h
        obtain ⟨_, rfl⟩ := h
        exact (hf hx).trans (frzs_lo hf hl)
      · simp at h
    · simp at h

theorem freeze_lo {lo : Nat} : ∀ (n : Nat) {H H' : Heap} {v : DV} {x : PV}, freeze n H v = some (x, H') → LoStep lo H H' := by
  intro n
  induction n with
  | zero => intro H H' v x h; simp [freeze] at h
  | succ n ih =>
    intro H H' v x h
    have kS : ∀ {u : PV} {H2 : Heap}, LoStep lo H H2 → some (u, H2) = some (x, H') → LoStep lo H H' := fun hq e => by
      simp only [Option.some.injEq, Prod.mk.injEq] at e; obtain ⟨_, rfl⟩ := e; exact hq
    unfold freeze at h
    split at h
    · exact kS .refl h
    · split at h
      · rename_i b off len x' g ag z els hb
        dsimp only at h
        by_cases hl : (takeN len (dropN off els)).length = len
        · rw [if_pos hl] at h
          split at h
          · refine kS ?_ h
            split
            · exact .refl
            · rw [setN_eq]; exact .dead
          · simp at h
        · rw [if_neg hl] at h; simp at h
      · simp at h
    · split at h
      · split at h
        · rename_i l H1 hl
          split at h
          · refine kS (LoStep.trans ?_ (frzs_lo (fun h => ih h) hl)) h
            rw [setN_eq]; exact .dead
          · simp at h
        · simp at h
      · simp at h
    · split at h
      · split at h
        · refine kS ?_ h; rw [setN_eq]; exact .dead
        · simp at h
      · simp at h
    · split at h
      · rename_i l H1 hl; exact kS (frzs_lo (fun h => ih h) hl) h
      · simp at h
    · split at h
      · rename_i l H1 hl; exact kS (frzs_lo (fun h => ih h) hl) h
      · simp at h
    · split at h
      · rename_i l H1 hl; exact kS (frzs_lo (fun h => ih h) hl) h
      · simp at h
    · simp at h

theorem fzDV_lo {lo : Nat} {fz : Bool} {q r : DV × Heap} (h : fzDV fz q = some r) : LoStep lo q.2 r.2 := by
  unfold fzDV at h
  split at h
  · split at h
    · rename_i v H1 hv
      obtain rfl := Option.some.inj h
      exact freeze_lo 6 hv
    · simp at h
  · obtain rfl := Option.some.inj h; exact .refl

theorem steps_lo {call : Caller} (hcall : ∀ {lo f : Nat} {args : List DV} {H H' : Heap} {v : DV}, call lo f args H = some (v, H') → LoStep lo H H') {lo : Nat} {env : List DV} :
    ∀ {ops : List IStep} {ts ts' : List DV} {H H' : Heap} {hs hs' : List Heap}, steps call lo env ops ts H hs = some (ts', H', hs') → LoStep lo H H'
  | [], ts, ts', H, H', hs, hs', h => by
    simp only [steps, Option.some.injEq, Prod.mk.injEq] at h; obtain ⟨_, rfl, _⟩ := h; exact .refl
  | s :: r, ts, ts', H, H', hs, hs', h => by
    simp only [steps] at h
    split at h
    · split at h
      · rename_i q hq
        split at h
        · rename_i v H1 hv
          exact ((exOp_lo hcall (v := q.1) (H' := q.2) hq).trans (fzDV_lo hv)).trans (steps_lo hcall h)
        · simp at h
      · simp at h
    · exact steps_lo hcall h
    · simp at h

theorem runOps_lo {call : Caller} (hcall : ∀ {lo f : Nat} {args : List DV} {H H' : Heap} {v : DV}, call lo f args H = some (v, H') → LoStep lo H H') {lo : Nat} {env ts env' : List DV} {d : Bool} {ops : List IStep} {H H' : Heap}
    (h : runOps call lo d ops env H = some (ts, env', H')) : LoStep lo H H' := by
  unfold runOps at h
  split at h
  · rename_i ts1 H1 hs1 hst
    split at h
    · simp only [Option.some.injEq, Prod.mk.injEq] at h
      obtain ⟨_, _, rfl⟩ := h
      exact steps_lo hcall hst
    · simp at h
  · simp at h

theorem frzList_lo {lo n : Nat} : ∀ {cs l : List DV} {H H' : Heap}, doCall1.frzList n H cs = some (l, H') → LoStep lo H H'
  | [], l, H, H', h => by simp only [doCall1.frzList, Option.some.injEq, Prod.mk.injEq] at h; obtain ⟨_, rfl⟩ := h; exact .refl
  | c :: r, l, H, H', h => by
    simp only [doCall1.frzList] at h
    split at h
    · split at h
      · rename_i l' H1 hl
        simp only [Option.some.injEq, Prod.mk.injEq] at h
        obtain ⟨_, rfl⟩ := h
        exact frzList_lo hl
      · simp at h
    · split at h
      · rename_i x H1 hx
        split at h
        · rename_i l' H2 hl
          simp only [Option.some.injEq, Prod.mk.injEq] at h
          obtain ⟨_, rfl⟩ := h
          exact (freeze_lo n hx).trans (frzList_lo hl)
        · simp at h
      · split at h
        · rename_i l' H1 hl
          simp only [Option.some.injEq, Prod.mk.injEq] at h
          obtain ⟨_, rfl⟩ := h
          exact frzList_lo hl
        · simp at h

def RunLo (run : Run) : Prop := ∀ {lo : Nat} {code : List INode} {env env' : List DV} {H H' : Heap} {e : Ex}, run lo code env H = some (e, env', H') → LoStep lo H H'

theorem runBody_lo {run : Run} (hr : RunLo run) {f : IFunc} {lo : Nat} {args rs : List DV} {H H' : Heap} (h : runBody run f lo args H = some (rs, H')) : LoStep lo H H' := by
  unfold runBody at h
  split at h
  · split at h
    · rename_i env H1 hrun
      split at h
      · simp only [Option.some.injEq, Prod.mk.injEq] at h; obtain ⟨_, rfl⟩ := h; exact hr hrun
      · simp at h
    · rename_i env H1 hrun
      split at h
      · simp only [Option.some.injEq, Prod.mk.injEq] at h; obtain ⟨_, rfl⟩ := h; exact hr hrun
      · simp at h
    · simp at h
  · simp at h

theorem doCall1_lo {T : Tab} {run : Run} (hr : RunLo run) {lo f : Nat} {args : List DV} {H H' : Heap} {v : DV} (h : doCall1 T run lo f args H = some (v, H')) : LoStep lo H H' := by
  have kS : ∀ {u : DV} {H2 : Heap}, LoStep lo H H2 → some (u, H2) = some (v, H') → LoStep lo H H' := fun hq e => by
    simp only [Option.some.injEq, Prod.mk.injEq] at e; obtain ⟨_, rfl⟩ := e; exact hq
  unfold doCall1 at h
  split at h
  · split at h
    · obtain ⟨_, _, _, rfl⟩ := okP_some h; exact .refl
    · simp at h
  · split at h
    · simp at h
    · rename_i fn hfn
      split at h
      · split at h
        · split at h
          · split at h
            · exact kS .refl h
            · simp at h
          · simp at h
        · simp at h
      · split at h
        · split at h
          · split at h
            · split at h
              · exact kS .app h
              · simp at h
            · simp at h
          · exact kS .refl h
          · simp at h
        · simp at h
      · split at h
        · rename_i rs H1 hb
          split at h
          · rename_i vs H2 hfz
            split at h
            · refine kS ?_ h
              rw [takeN_eq]
              have h1 : LoStep H.length H H2 := (runBody_lo hr hb).trans (frzList_lo hfz)
              refine ⟨by rw [List.length_take]; have := h1.1; omega, fun hl l0 h0 hi b k hb hk => ?_⟩
              exact h1.2 (Nat.le_refl _) l0 (by omega) hi b k hb (look_of_take hk).2
            · simp at h
          · simp at h
        · simp at h
      · split at h
        · rename_i rs H1 hb
          exact kS (runBody_lo hr hb) h
        · simp at h

theorem doCall_lo {T : Tab} {run : Run} (hr : RunLo run) {lo f : Nat} {args : List DV} {H H' : Heap} {v : DV} (h : doCall T run lo f args H = some (v, H')) : LoStep lo H H' := by
  unfold doCall at h
  split at h
  · obtain ⟨_, _, _, rfl⟩ := okP_some h; exact .refl
  · exact doCall1_lo hr h

theorem exec_lo (T : Tab) : ∀ n : Nat, RunLo (exec T n) := by
  intro n
  induction n with
  | zero => intro lo code env env' H H' e h; simp [exec] at h
  | succ n ih =>
    intro lo code env env' H H' e h
    have hc : ∀ {lo f : Nat} {args : List DV} {H H' : Heap} {v : DV}, doCall T (exec T n) lo f args H = some (v, H') → LoStep lo H H' := fun h => doCall_lo ih h
    simp only [exec] at h
    unfold exStep at h
    split at h
    · simp only [Option.some.injEq, Prod.mk.injEq] at h; obtain ⟨_, _, rfl⟩ := h; exact .refl
    · split at h
      · split at h
        · rename_i ts env1 H1 ho; exact (runOps_lo hc ho).trans (ih h)
        · simp at h
      · split at h
        · rename_i ts env1 H1 ho
          split at h
          · split at h
            · rename_i env2 H2 hrun
              exact ((runOps_lo hc ho).trans (ih hrun)).trans (ih h)
            · rename_i x hx
              exact (runOps_lo hc ho).trans (ih h)
          · simp at h
        · simp at h
      · split at h
        · rename_i env1 H1 hrun; exact (ih hrun).trans (ih h)
        · rename_i k env1 H1 hrun
          split at h
          · exact (ih hrun).trans (ih h)
          · simp only [Option.some.injEq, Prod.mk.injEq] at h; obtain ⟨_, _, rfl⟩ := h; exact ih hrun
        · exact ih h
      · split at h
        · rename_i env1 H1 hrun; exact (ih hrun).trans (ih h)
        · exact ih h
      · exact ih h
      · split at h
        · rename_i env1 H1 hrun; exact (ih hrun).trans (ih h)
        · rename_i l env1 H1 hrun
          split at h
          · exact (ih hrun).trans (ih h)
          · simp only [Option.some.injEq, Prod.mk.injEq] at h; obtain ⟨_, _, rfl⟩ := h; exact ih hrun
        · exact ih h
      · simp only [Option.some.injEq, Prod.mk.injEq] at h; obtain ⟨_, _, rfl⟩ := h; exact .refl
      · exact ih h
      · simp only [Option.some.injEq, Prod.mk.injEq] at h; obtain ⟨_, _, rfl⟩ := h; exact .refl
      · simp only [Option.some.injEq, Prod.mk.injEq] at h; obtain ⟨_, _, rfl⟩ := h; exact .refl
      · split at h
        · rename_i hf; exact (freeze_lo 6 hf).trans (ih h)
        · simp at h

end Go.Lv
