/- The engine, part 9: single operations with an effect, by what they take and leave. -/
import Derived.Test.YtejffembnkojjaaEng8
namespace Go.Eng
open Go Go.RowKit

/-- A slice of the call's own, by its value. -/
def arrV {α : Type} (e sz : Nat) (f : α → List Value) (n : Nat) (l : List α) (v : Value) : Res where
  foot := fun k => v.ownBlock = some k
  holds := fun w => ∃ ad cap, v = .slice ad n cap ∧ (arr e sz f ad n cap l).holds w
  loc := fun w w' h hb => by
    obtain ⟨ad, cap, rfl, hh⟩ := hb
    exact ⟨ad, cap, rfl, (arr e sz f ad n cap l).loc w w' h hh⟩
  lt := fun w k hb hk => by
    obtain ⟨ad, cap, rfl, hh⟩ := hb
    exact (arr e sz f ad n cap l).lt w k hh hk
/-- A variable of the call's own, by its address. -/
def blkV (t : TypeId) (cs : Array Value) (v : Value) : Res where
  foot := fun k => v = .pointer (some ⟨k, 0, none⟩)
  holds := fun w => ∃ b, v = .pointer (some ⟨b, 0, none⟩) ∧ Blk w b t cs
  loc := fun w w' h hb => by
    obtain ⟨b, rfl, hh⟩ := hb
    exact ⟨b, rfl, (h b rfl).trans hh⟩
  lt := fun w k hb hk => by
    obtain ⟨b, h1, hh⟩ := hb
    rw [h1] at hk
    cases hk
    exact (Array.getElem?_eq_some_iff.1 hh).1
section
variable {P : Program} {r : Option Nat} {ops : Array Oper} {N : Nat} {ds : List Deferred} {M : List (Nat × Value)} {a : Act} {w w0 : World} {F H : List Res} {α : Type} {e sz n : Nat} {f : α → List Value} {l l' : List α} {o : Oper} {c : Nat}
theorem St.openV {i : Nat} {v : Value} (h : St w0 H w) (hi : H[i]? = some (arrV e sz f n l v)) : ∃ ad cap, v = .slice ad n cap ∧ St w0 (H.set i (Go.Eng.arr e sz f ad n cap l)) w := by
  obtain ⟨ad, cap, rfl, hh⟩ := h.holds _ (List.mem_of_getElem? hi)
  exact ⟨ad, cap, rfl, h.upd hi rfl rfl rfl (Nat.le_refl _) (fun _ _ _ => rfl) hh (fun k hk => .inl hk)⟩
theorem St.openB {i : Nat} {t : TypeId} {cs : Array Value} {v : Value} (h : St w0 H w) (hi : H[i]? = some (blkV t cs v)) : ∃ b, v = .pointer (some ⟨b, 0, none⟩) ∧ St w0 (H.set i (Go.Eng.blk b t cs)) w := by
  obtain ⟨b, rfl, hh⟩ := h.holds _ (List.mem_of_getElem? hi)
  exact ⟨b, rfl, h.upd hi rfl rfl rfl (Nat.le_refl _) (fun _ _ _ => rfl) hh (fun k hk => .inl (by rw [show k = b from hk]; rfl))⟩
theorem g_raw {v : Value} {w' : World} {R : Value → World → Prop} (_ho : ops[c]? = some o) (hF : Fr N ds M a) (hp : plainAt ops c M = some o) (hr : (execOp (rhoE (ofM M)) o).run P w = .ok (.value v) w') (hR : R v w') : OpG P r ops o a w R := by
  obtain ⟨_, h2, h3⟩ := plainAt_spec (r := r) hp hF
  unfold OpG OpR
  rw [if_pos h2, h3, hr]
  exact hR
theorem plainAt_o {o' : Oper} (ho : ops[c]? = some o) (hp : plainAt ops c M = some o') : o' = o := by
  have := (plainAt_cases hp).1
  rw [ho] at this
  simpa using this.symm
theorem g_eff {s : Sem Value} {v : Value} {w' : World} {R : Value → World → Prop} (ho : ops[c]? = some o) (hF : Fr N ds M a) (hs : EffAt ops c M s) (hr : s.run P w = .ok v w') (hR : R v w') : OpG P r ops o a w R := by
  have hs := hs.eq
  cases hp : plainAt ops c M with
  | none => rw [hp] at hs; simp at hs
  | some o' =>
    rw [hp] at hs
    have := plainAt_o ho hp
    subst this
    exact g_raw ho hF hp (effSem_run hs hr).2 hR
theorem g_call {fid : FuncId} {args : Array Value} {R : Value → World → Prop} (ho : ops[c]? = some o) (hF : Fr N ds M a) (hs : CallAt P ops c M fid args) (hc : Calls P fid args w (fun e w' => ∃ v, e = .returned v ∧ R v w')) : OpG P r ops o a w R := by
  have hs := hs.eq
  cases hp : plainAt ops c M with
  | none => rw [hp] at hs; simp at hs
  | some o' =>
    rw [hp] at hs
    have := plainAt_o ho hp
    subst this
    simp only [Option.bind_some] at hs
    split at hs
    · rename_i f' args' hpp
      simp at hs
      obtain ⟨rfl, rfl⟩ := hs
      obtain ⟨_, h2, h3⟩ := plainAt_spec (r := r) hp hF
      unfold OpG OpR
      rw [if_pos h2, h3, pureSem_run _ _ hpp w]
      exact hc
    · simp at hs
theorem g_build {t len : Nat} (parts : Array (Nat × Value)) (cs : Array Value) (ho : ops[c]? = some o) (hF : Fr N ds M a) (hs : EffAt ops c M (Instr.buildSlice t len parts)) (hb : buildCells P t len parts = some (e, cs)) (hf : ∀ x, (f x).length = sz)
    (hl : l.length = len) (hc : l.flatMap f = cs.toList) (hn : len ≤ maxLen) (hS : St w0 F w) : OpG P r ops o a w (fun v w' => St w0 (arrV e sz f len l v :: F) w') := by
  refine g_eff ho hF hs (buildSlice_run hb) (hS.push (ext_alloc w _) ⟨_, _, rfl, hl, ?_⟩ (fun b hb => by simp [arrV, Value.ownBlock] at hb; omega))
  have hsz : cs.size = len * sz := by
    have := flat_len hf l
    rw [hc, hl] at this
    simpa using this
  rw [hc]
  exact vec_of_blk (blk_new w e cs) hsz hn
/-- append to a slice of the call's own. -/
theorem g_app {t ty bytes m : Nat} {v src : Value} (ho : ops[c]? = some o) (hF : Fr N ds M a) (hs : EffAt ops c M (Builtin.append_ #[t, t] ty #[v, src])) (hty : sliceTy P t e sz bytes = true) (hS : St w0 (arrV e sz f n l v :: F) w)
    (hsrc : ∃ sad scap, src = .slice sad m scap ∧ Arr w sz f sad m scap l') (h1 : ∀ x, (f x).all Value.oneCell' = true) (hb : (n + m) * bytes ≤ 140737488355328) (h63 : n + m ≤ maxLen) :
    OpG P r ops o a w (fun v' w' => St w0 (arrV e sz f (n + m) (l ++ l') v' :: F) w') := by
  obtain ⟨sad, scap, rfl, hsrc⟩ := hsrc
  obtain ⟨ad, cap, rfl, hh⟩ := hS.holds _ (List.mem_cons_self ..)
  obtain ⟨ad2, cap2, w', hr, hown, hg, hblk⟩ := run_app (ty := ty) hty hh.2 hsrc.2 (fun u hu => by
    obtain ⟨x, hx, hux⟩ := List.mem_flatMap.1 hu
    exact List.all_eq_true.1 (h1 x) u hux) hb h63
  refine g_eff ho hF hs hr ?_
  rw [← List.flatMap_append] at hown
  exact hS.upd (i := 0) rfl hg.os hg.tape hg.output hg.size (fun j hj hnj => hg.block j hj (fun e => hnj e.symm)) ⟨ad2, cap2, rfl, by rw [List.length_append, hh.1, hsrc.1], hown⟩ hblk
/-- append to a slice without room. -/
theorem g_appc {t ty bytes m : Nat} {ad : Option Addr} {src : Value} (ho : ops[c]? = some o) (hF : Fr N ds M a) (hs : EffAt ops c M (Builtin.append_ #[t, t] ty #[.slice ad n n, src])) (hty : sliceTy P t e sz bytes = true) (hS : St w0 F w) (hdst : Arr w sz f ad n n l)
    (hsrc : ∃ sad scap, src = .slice sad m scap ∧ Arr w sz f sad m scap l') (hf : ∀ x, (f x).length = sz) (hm : 0 < m) (hb : (n + m) * bytes ≤ 140737488355328) (h63 : n + m ≤ maxLen) :
    OpG P r ops o a w (fun v' w' => St w0 (arrV e sz f (n + m) (l ++ l') v' :: F) w') := by
  obtain ⟨sad, scap, rfl, hsrc⟩ := hsrc
  obtain ⟨i, z, ht, hi, hz, rfl, rfl, hzs, hsz⟩ := sliceTy_spec hty
  have hsmall : n + m ≤ 9223372036854775807 := by simp only [maxLen] at h63; omega
  obtain ⟨hl', sad', scap', e1, hsl, _, _, hsc⟩ := hsrc
  cases e1
  obtain ⟨sa, rfl, _, hnews⟩ := hsc hm
  obtain ⟨hl, ad', cap', e2, hdl, _, _, hdc⟩ := hdst
  cases e2
  have hlen : (l ++ l').length = n + m := by rw [List.length_append, hl, hl']
  have hfl : (l.flatMap f ++ l'.flatMap f).length = (n + m) * i.size := by rw [List.length_append, hdl, hsl, Nat.add_mul]
  have fin : ∀ (old : Nat), St w0 (arrV e i.size f (n + m) (l ++ l') (.slice (some ⟨w.heap.size, 0, none⟩) (n + m) (grownCap w (n + m) old e)) :: F)
      (w.drew.alloc (.cells ((l.flatMap f).toArray ++ (l'.flatMap f).toArray ++ Builtin.zeroCells z.cells (grownCap w (n + m) old e - (n + m))) e)) := by
    intro old
    have hge := grownCap_ge w (n + m) old e
    have hcm : grownCap w (n + m) old e ≤ maxLen := grownCap_le_maxLen w (n + m) old e h63
    have hx : Ext w (w.drew.alloc (.cells ((l.flatMap f).toArray ++ (l'.flatMap f).toArray ++ Builtin.zeroCells z.cells (grownCap w (n + m) old e - (n + m))) e)) :=
      ⟨rfl, rfl, rfl, by simp, fun k hk => heap_alloc_old w.drew _ k hk⟩
    refine hS.push hx ⟨_, _, rfl, hlen, by rw [List.flatMap_append]; exact hfl, .inr ⟨w.heap.size, _, _, rfl, Nat.zero_le _, heap_alloc_new w.drew _, hge, hcm, ?_, ?_⟩⟩ (fun b hb => by simp [arrV, Value.ownBlock] at hb; omega)
    · simp only [Array.size_append, List.size_toArray, size_zeroCells, hzs, hdl, hsl, ← Nat.add_mul]
      congr 1
      omega
    · simp only [Array.toList_append, List.append_assoc]
      rw [← List.append_assoc, ← hfl, List.flatMap_append]
      exact List.take_left
  by_cases hn0 : n = 0
  · subst hn0
    have hle : l = [] := List.eq_nil_of_length_eq_zero hl
    subst hle
    cases ad with
    | none =>
      have hr := run_append_nil (P := P) w t ty e i z ht hi hz sa m scap (l'.flatMap f) hsl hnews hm (by omega) (by simp only [Nat.zero_add] at hb; omega)
      refine g_eff ho hF hs hr ?_
      have := fin 0
      simpa using this
    | some b0 =>
      have hr := run_append_grow (P := P) w t ty e i z ht hi hz b0 0 0 [] (by simp) (by simp) sa m scap (l'.flatMap f) hsl hnews (by omega) (by omega) (growslice_fits (by omega) hb)
      refine g_eff ho hF hs hr ?_
      have := fin 0
      simpa using this
  · obtain ⟨da, rfl, _, holds⟩ := hdc (by omega)
    have hr := run_append_grow (P := P) w t ty e i z ht hi hz da n n (l.flatMap f) hdl holds sa m scap (l'.flatMap f) hsl hnews (by omega) (by omega) (growslice_fits (by omega) hb)
    exact g_eff ho hF hs hr (fin n)
theorem g_box {t : TypeId} (v : Value) (cs : Array Value) (ho : ops[c]? = some o) (hF : Fr N ds M a) (hs : EffAt ops c M (Instr.box t v)) (hcs : v.cells = cs) (hS : St w0 F w) : OpG P r ops o a w (fun v w' => St w0 (blkV t cs v :: F) w') := by
  refine g_eff ho hF hs (v := .pointer (some ⟨w.heap.size, 0, none⟩)) (w' := { w with heap := w.heap.push (.cells cs t) }) ?_ (hS.push (ext_alloc w _) ⟨w.heap.size, rfl, blk_new w t cs⟩ (fun b hb => by simp [blkV] at hb; omega))
  subst hcs
  simp [Instr.box, newVar, newRow]
theorem g_alloc {t : TypeId} (cs : Array Value) (ho : ops[c]? = some o) (hF : Fr N ds M a) (hs : EffAt ops c M (Instr.alloc t true (.tuple #[]))) (hz : ((P.info? t).bind (·.zero)).map Value.cells = some cs) (hS : St w0 F w) : OpG P r ops o a w (fun v w' => St w0 (blkV t cs v :: F) w') := by
  refine g_eff ho hF hs (v := .pointer (some ⟨w.heap.size, 0, none⟩)) (w' := { w with heap := w.heap.push (.cells cs t) }) ?_ (hS.push (ext_alloc w _) ⟨w.heap.size, rfl, blk_new w t cs⟩ (fun b hb => by simp [blkV] at hb; omega))
  cases hi : P.info? t with
  | none => rw [hi] at hz; simp at hz
  | some i =>
    cases hzz : i.zero with
    | none => rw [hi] at hz; simp [hzz] at hz
    | some z =>
      rw [hi] at hz
      simp [hzz] at hz
      subst hz
      simp [Instr.alloc, zeroValue, typeInfo, hi, hzz, newVar, newRow]
/-- The source of an append that is a token, taken or not. -/
theorem St.srcV {i : Nat} {v : Value} (h : St w0 H w) (hi : H[i]? = some (arrV e sz f n l v)) : ∃ ad cap, v = .slice ad n cap ∧ Arr w sz f ad n cap l := by
  obtain ⟨ad, cap, rfl, hh⟩ := h.holds _ (List.mem_of_getElem? hi)
  exact ⟨ad, cap, rfl, hh.1, Sl.of_own hh.2⟩
/-- Steps one after the other. -/
def StepsT (P : Program) (r : Option Nat) (ops : Array Oper) (N : Nat) (ds : List Deferred) (M : List (Nat × Value)) (obs : List Ob) (ch : List Nat) (ts : List Tok) (w0 : World) (D : World → Prop) : List Nat → Prop
  | [] => True
  | c :: l => (∃ Mc : List Value → List (Nat × Value), (∀ us, us.length = ch.length → FrameC P ops ch M obs c us (Mc us)) ∧ (∀ us, us.length = ch.length → LooksC ops c (Mc us)) ∧
      ∀ o us a w F, ops[c]? = some o → us.length = ch.length → St w0 ((insOf ts c).map (fun k => k.at fun j => ((idxIn ch 0 j).bind (us[·]?)).getD undef) ++ F) w → D w → Fr N ds (Mc us) a → OpG P r ops o a w (fun v w' => St w0 ((outsOf ts c).map (fun k => k.res v) ++ F) w')) ∧
      StepsT P r ops N ds M obs ch ts w0 D l
theorem stepsT_get {M : List (Nat × Value)} {obs : List Ob} {ch : List Nat} {ts : List Tok} {D : World → Prop} : ∀ {l : List Nat}, StepsT P r ops N ds M obs ch ts w0 D l → ∀ (q c : Nat) (o : Oper), l[q]? = some c → ops[c]? = some o →
    ∃ Mc : List Value → List (Nat × Value), (∀ us, us.length = ch.length → FrameC P ops ch M obs c us (Mc us)) ∧ (∀ us, us.length = ch.length → LooksC ops c (Mc us)) ∧
      ∀ us a w F, us.length = ch.length → St w0 ((insOf ts c).map (fun k => k.at fun j => ((idxIn ch 0 j).bind (us[·]?)).getD undef) ++ F) w → D w → Fr N ds (Mc us) a → OpG P r ops o a w (fun v w' => St w0 ((outsOf ts c).map (fun k => k.res v) ++ F) w') := by
  intro l
  induction l with
  | nil => intro _ q c o h; simp at h
  | cons x l ih =>
    intro h q c o hq ho
    cases q with
    | zero =>
      simp at hq
      subst hq
      obtain ⟨Mc, h1, h2, h3⟩ := h.1
      exact ⟨Mc, h1, h2, fun us a w F hu hS hD hF => h3 o us a w F ho hu hS hD hF⟩
    | succ q => exact ih h.2 q c o (by simpa using hq) ho
end
end Go.Eng
namespace Go.Eng
open Go Go.RowKit
section
variable {w w0 : World} {F : List Res} {R S : Res} {α : Type} {e sz n cap : Nat} {f : α → List Value} {l : List α} {ad : Option Addr}
theorem retI {x y : Int} (h : x = y) : Ending.returned (.int .i64 x) = .returned (.int .i64 y) := by rw [h]
theorem retB {x y : Bool} (h : x = y) : Ending.returned (.bool x) = .returned (.bool y) := by rw [h]
theorem St.drop2 (h : St w0 (R :: S :: F) w) : St w0 (R :: F) w := h.sub (List.Sublist.cons_cons R (List.sublist_cons_self S F))
theorem St.toV (h : St w0 (Go.Eng.arr e sz f ad n cap l :: F) w) : St w0 (arrV e sz f n l (.slice ad n cap) :: F) w :=
  h.conv ⟨ad, cap, rfl, h.holds _ (List.mem_cons_self ..)⟩ (fun _ hk => hk)
end
end Go.Eng
