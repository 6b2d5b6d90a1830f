import PyProof.Rows.All
import Wide.All
import OpenK.AllK
import Wide.FinOn
import PySem.Challenge.RW_litfigures_k13_read
import HandS.ForMost
import HandS.ForExc
import HandS.Evl
import HandS.Walk
import HandS.RevRange
import HandS.IsInst
import HandS.Deep
import HandS.ExcIs
import HandS.Flow
import HandS.More
import HandS.Text
import HandS.Comp
import HandS.Exc
set_option Elab.async false
set_option linter.all false
set_option maxRecDepth 100000
set_option maxHeartbeats 4000000
/-! Litfigures: a thin layer over HandS. Data by PyData; what a name holds: nothing known, readable data, fresh data, a list of one's own. -/
namespace Li
open PySem PySem.Spec PyProof.Rows L2
abbrev Ex := Evl.Ex
theorem ex_none {H H' : Hp} {p : Addr} (e : Ex H H') (h : H' p = none) : H p = none := Evl.fresh_back e h
/-! ### data that is fresh -/
mutual
inductive Df (H0 H : Hp) : V → PyData → Prop
  | non : Df H0 H .non .none
  | bl (b : Bool) : Df H0 H (.bl b) (.bool b)
  | int (i : Int) : Df H0 H (.int i) (.int i)
  | str (x : Str) : Df H0 H (.str x) (.str x)
  | lst {a : Addr} {xs : List V} {ds : List PyData} : H0 a = none → H a = some (.lst xs) → DfAll H0 H xs ds → Df H0 H (.ref a) (.list ds)
  | tup {a : Addr} {xs : List V} {ds : List PyData} : H0 a = none → H a = some (.tup xs) → DfAll H0 H xs ds → Df H0 H (.ref a) (.tuple ds)
inductive DfAll (H0 H : Hp) : List V → List PyData → Prop
  | nil : DfAll H0 H [] []
  | cons {v : V} {vs : List V} {d : PyData} {ds : List PyData} : Df H0 H v d → DfAll H0 H vs ds → DfAll H0 H (v :: vs) (d :: ds)
end
section
variable {K : PySem.W.Frag} {H0 H H' H1 : Hp}
mutual
theorem dp_mono (e : Ex H H') : ∀ (d : PyData) (v : V), Dp K H v d → Dp K H' v d
  | .none, _, h => by cases h; exact .non
  | .bool b, _, h => by cases h; exact .bl b
  | .int i, _, h => by cases h; exact .int i
  | .str x, _, h => by cases h; exact .str x
  | .list ds, _, h => by
    cases h with
    | lst hs ha => exact .lst (Evl.ex_l e hs) (dpa_mono e ds _ ha)
  | .tuple ds, _, h => by
    cases h with
    | tup hs ha => exact .tup (Evl.ex_t e hs) (dpa_mono e ds _ ha)
  | .dict _, _, h => by cases h
theorem dpa_mono (e : Ex H H') : ∀ (ds : List PyData) (vs : List V), DpAll K H vs ds → DpAll K H' vs ds
  | [], _, h => by cases h; exact .nil
  | d :: ds, _, h => by
    cases h with
    | cons h1 h2 => exact .cons (dp_mono e d _ h1) (dpa_mono e ds _ h2)
end
mutual
theorem df_mono (e : Ex H H') : ∀ (d : PyData) (v : V), Df H0 H v d → Df H0 H' v d
  | .none, _, h => by cases h; exact .non
  | .bool b, _, h => by cases h; exact .bl b
  | .int i, _, h => by cases h; exact .int i
  | .str x, _, h => by cases h; exact .str x
  | .list ds, _, h => by
    cases h with
    | lst h0 hs ha => exact .lst h0 (e _ _ hs) (dfa_mono e ds _ ha)
  | .tuple ds, _, h => by
    cases h with
    | tup h0 hs ha => exact .tup h0 (e _ _ hs) (dfa_mono e ds _ ha)
  | .dict _, _, h => by cases h
theorem dfa_mono (e : Ex H H') : ∀ (ds : List PyData) (vs : List V), DfAll H0 H vs ds → DfAll H0 H' vs ds
  | [], _, h => by cases h; exact .nil
  | d :: ds, _, h => by
    cases h with
    | cons h1 h2 => exact .cons (df_mono e d _ h1) (dfa_mono e ds _ h2)
end
/-- fresh ahead of more is fresh ahead of less; what O hides may be hidden where H0 has it -/
def hide (O : List Addr) (H : Hp) : Hp := fun b => if b ∈ O then none else H b
theorem hide_le {O : List Addr} : Ex (hide O H) H := fun b o h => by
  unfold hide at h
  split at h
  · cases h
  · exact h
theorem hide_mono {O : List Addr} (e : Ex H H') : Ex (hide O H) (hide O H') := fun b o h => by
  unfold hide at h ⊢
  split at h
  · cases h
  · rename_i n
    rw [if_neg n]
    exact e b o h
theorem hide_not {O : List Addr} {b : Addr} (h : b ∉ O) : hide O H b = H b := if_neg h
theorem hide_in {O : List Addr} {b : Addr} (h : b ∈ O) : hide O H b = none := if_pos h
mutual
theorem df_hide {O : List Addr} (h0 : Ex H1 H0) (ho : ∀ b ∈ O, H0 b ≠ none) : ∀ (d : PyData) (v : V), Df H0 H v d → Df H1 (hide O H) v d
  | .none, _, h => by cases h; exact .non
  | .bool b, _, h => by cases h; exact .bl b
  | .int i, _, h => by cases h; exact .int i
  | .str x, _, h => by cases h; exact .str x
  | .list ds, _, h => by
    cases h with
    | lst hn hs ha => exact .lst (ex_none h0 hn) (by rw [hide_not (fun z => ho _ z hn)]; exact hs) (dfa_hide h0 ho ds _ ha)
  | .tuple ds, _, h => by
    cases h with
    | tup hn hs ha => exact .tup (ex_none h0 hn) (by rw [hide_not (fun z => ho _ z hn)]; exact hs) (dfa_hide h0 ho ds _ ha)
  | .dict _, _, h => by cases h
theorem dfa_hide {O : List Addr} (h0 : Ex H1 H0) (ho : ∀ b ∈ O, H0 b ≠ none) : ∀ (ds : List PyData) (vs : List V), DfAll H0 H vs ds → DfAll H1 (hide O H) vs ds
  | [], _, h => by cases h; exact .nil
  | d :: ds, _, h => by
    cases h with
    | cons h1 h2 => exact .cons (df_hide h0 ho d _ h1) (dfa_hide h0 ho ds _ h2)
end
mutual
theorem df_dp : ∀ (d : PyData) (v : V), Df H0 H v d → Dp K H v d
  | .none, _, h => by cases h; exact .non
  | .bool b, _, h => by cases h; exact .bl b
  | .int i, _, h => by cases h; exact .int i
  | .str x, _, h => by cases h; exact .str x
  | .list ds, _, h => by
    cases h with
    | lst h0 hs ha => exact .lst (SqL.of hs) (dfa_dp ds _ ha)
  | .tuple ds, _, h => by
    cases h with
    | tup h0 hs ha => exact .tup (SqT.of hs) (dfa_dp ds _ ha)
  | .dict _, _, h => by cases h
theorem dfa_dp : ∀ (ds : List PyData) (vs : List V), DfAll H0 H vs ds → DpAll K H vs ds
  | [], _, h => by cases h; exact .nil
  | d :: ds, _, h => by
    cases h with
    | cons h1 h2 => exact .cons (df_dp d _ h1) (dfa_dp ds _ h2)
end
def scalD : PyData → Bool
  | .none => true
  | .bool _ => true
  | .int _ => true
  | .str _ => true
  | _ => false
theorem df_scal {d : PyData} {v : V} (s : scalD d = true) (h : Dp K H v d) : Df H0 H' v d := by
  cases h
  · exact .non
  · exact .bl _
  · exact .int _
  · exact .str _
  · cases s
  · cases s
theorem dpa_get : ∀ {ds : List PyData} {vs : List V} {i : Nat} {d : PyData}, DpAll K H vs ds → ds[i]? = some d → ∃ v, vs[i]? = some v ∧ Dp K H v d
  | [], _, _, _, _, e => by simp at e
  | d :: ds, _, 0, x, h, e => by
    cases h with
    | cons h1 h2 =>
      simp at e
      subst e
      exact ⟨_, rfl, h1⟩
  | d :: ds, _, i + 1, x, h, e => by
    cases h with
    | cons h1 h2 =>
      obtain ⟨v, q1, q2⟩ := dpa_get (i := i) h2 (by simpa using e)
      exact ⟨v, by simpa using q1, q2⟩
theorem dpa_len : ∀ {ds : List PyData} {vs : List V}, DpAll K H vs ds → vs.length = ds.length
  | [], _, h => by cases h; rfl
  | d :: ds, _, h => by
    cases h with
    | cons h1 h2 => simp [dpa_len h2]
theorem dfa_len : ∀ {ds : List PyData} {vs : List V}, DfAll H0 H vs ds → vs.length = ds.length
  | [], _, h => by cases h; rfl
  | d :: ds, _, h => by
    cases h with
    | cons h1 h2 => simp [dfa_len h2]
theorem dfa_get : ∀ {ds : List PyData} {vs : List V} {i : Nat} {d : PyData}, DfAll H0 H vs ds → ds[i]? = some d → ∃ v, vs[i]? = some v ∧ Df H0 H v d
  | [], _, _, _, _, e => by simp at e
  | d :: ds, _, 0, x, h, e => by
    cases h with
    | cons h1 h2 =>
      simp at e
      subst e
      exact ⟨_, rfl, h1⟩
  | d :: ds, _, i + 1, x, h, e => by
    cases h with
    | cons h1 h2 =>
      obtain ⟨v, q1, q2⟩ := dfa_get (i := i) h2 (by simpa using e)
      exact ⟨v, by simpa using q1, q2⟩
theorem dfa_app : ∀ {ds es : List PyData} {vs us : List V}, DfAll H0 H vs ds → DfAll H0 H us es → DfAll H0 H (vs ++ us) (ds ++ es)
  | [], _, _, _, h, k => by cases h; exact k
  | d :: ds, _, _, _, h, k => by
    cases h with
    | cons h1 h2 => exact .cons h1 (dfa_app h2 k)
theorem dfa_set : ∀ {ds : List PyData} {vs : List V} {i : Nat} {v : V} {d : PyData}, DfAll H0 H vs ds → Df H0 H v d → DfAll H0 H (vs.set i v) (ds.set i d)
  | [], _, _, _, _, h, k => by cases h; exact .nil
  | _ :: _, _, 0, _, _, h, k => by
    cases h with
    | cons h1 h2 => exact .cons k h2
  | _ :: _, _, i + 1, _, _, h, k => by
    cases h with
    | cons h1 h2 => exact .cons h1 (dfa_set h2 k)
/-- ints, texts, bools -/
theorem dpa_ints : ∀ {ns : List Int} {vs : List V}, DpAll K H vs (ns.map .int) → vs = ns.map .int
  | [], _, h => by cases h; rfl
  | n :: ns, _, h => by
    cases h with
    | cons h1 h2 =>
      cases h1
      rw [dpa_ints h2]
      rfl
theorem dpa_bools : ∀ {ns : List Bool} {vs : List V}, DpAll K H vs (ns.map .bool) → vs = ns.map .bl
  | [], _, h => by cases h; rfl
  | n :: ns, _, h => by
    cases h with
    | cons h1 h2 =>
      cases h1
      rw [dpa_bools h2]
      rfl
theorem dpa_strs : ∀ {ns : List Str} {vs : List V}, DpAll K H vs (ns.map .str) → vs = ns.map .str
  | [], _, h => by cases h; rfl
  | n :: ns, _, h => by
    cases h with
    | cons h1 h2 =>
      cases h1
      rw [dpa_strs h2]
      rfl
theorem ints_dpa : ∀ {ns : List Int}, DpAll K H (ns.map .int) (ns.map .int)
  | [] => .nil
  | n :: ns => .cons (.int n) ints_dpa
theorem ints_dfa : ∀ {ns : List Int}, DfAll H0 H (ns.map .int) (ns.map .int)
  | [] => .nil
  | n :: ns => .cons (.int n) ints_dfa
end
/-! ### what the names hold -/
/-- what one name's value and the objects A behind it, nobody else's, keep -/
structure GP where
  P : Hp → Hp → Hp → V → List Addr → Prop
  mono : ∀ {H0 G G' H H' : Hp} {v : V} {A : List Addr}, Ex G G' → (∀ b ∈ A, H' b = H b) → P H0 G H v A → P H0 G' H' v A
inductive Sl where
  | no
  | rd (d : PyData)
  | fr (d : PyData)
  | ow (ds : List PyData)
  | gn (g : GP)
inductive Slots (K : PySem.W.Frag) (H0 G H : Hp) : L2.St → List Sl → List Addr → Prop
  | nil : Slots K H0 G H [] [] []
  | no {x : Option V} {σ : L2.St} {ss : List Sl} {O : List Addr} : Slots K H0 G H σ ss O → Slots K H0 G H (x :: σ) (.no :: ss) O
  | rd {v : V} {d : PyData} {σ : L2.St} {ss : List Sl} {O : List Addr} : Dp K G v d → Slots K H0 G H σ ss O → Slots K H0 G H (some v :: σ) (.rd d :: ss) O
  | fr {v : V} {d : PyData} {σ : L2.St} {ss : List Sl} {O : List Addr} : Df H0 G v d → Slots K H0 G H σ ss O → Slots K H0 G H (some v :: σ) (.fr d :: ss) O
  | ow {p : Addr} {vs : List V} {ds : List PyData} {σ : L2.St} {ss : List Sl} {O : List Addr} : p ∉ O → H p = some (.lst vs) → DfAll H0 G vs ds → Slots K H0 G H σ ss O → Slots K H0 G H (some (.ref p) :: σ) (.ow ds :: ss) (p :: O)
  | gn {v : V} {g : GP} {A : List Addr} {σ : L2.St} {ss : List Sl} {O : List Addr} : (∀ a ∈ A, a ∉ O) → g.P H0 G H v A → Slots K H0 G H σ ss O → Slots K H0 G H (some v :: σ) (.gn g :: ss) (A ++ O)
section
variable {K : PySem.W.Frag} {H0 G G' H H' : Hp}
theorem Slots.mono (eG : Ex G G') : ∀ {σ : L2.St} {ss : List Sl} {O : List Addr}, Slots K H0 G H σ ss O → (∀ b ∈ O, H' b = H b) → Slots K H0 G' H' σ ss O
  | _, _, _, .nil, _ => .nil
  | _, _, _, .no h, k => .no (h.mono eG k)
  | _, _, _, .rd d h, k => .rd (dp_mono eG _ _ d) (h.mono eG k)
  | _, _, _, .fr d h, k => .fr (df_mono eG _ _ d) (h.mono eG k)
  | _, _, _, .ow hp hl hd h, k => .ow hp ((k _ List.mem_cons_self).trans hl) (dfa_mono eG _ _ hd) (h.mono eG fun b hb => k b (List.mem_cons_of_mem _ hb))
  | _, _, _, .gn (g := g) n q h, k => .gn n (g.mono eG (fun b hb => k b (List.mem_append_left _ hb)) q) (h.mono eG fun b hb => k b (List.mem_append_right _ hb))
theorem Slots.length : ∀ {σ : L2.St} {ss : List Sl} {O : List Addr}, Slots K H0 G H σ ss O → σ.length = ss.length
  | _, _, _, .nil => rfl
  | _, _, _, .no h => by simp [h.length]
  | _, _, _, .rd _ h => by simp [h.length]
  | _, _, _, .fr _ h => by simp [h.length]
  | _, _, _, .ow _ _ _ h => by simp [h.length]
  | _, _, _, .gn _ _ h => by simp [h.length]
theorem Slots.get_rd : ∀ {σ : L2.St} {ss : List Sl} {O : List Addr} {i : Nat} {d : PyData}, Slots K H0 G H σ ss O → ss[i]? = some (.rd d) → ∃ v, σ[i]? = some (some v) ∧ Dp K G v d
  | _, _, _, _, _, .nil, e => by simp at e
  | _, _, _, 0, _, .no _, e => by simp at e
  | _, _, _, 0, _, .rd d _, e => by
    simp at e
    subst e
    exact ⟨_, rfl, d⟩
  | _, _, _, 0, _, .fr _ _, e => by simp at e
  | _, _, _, 0, _, .ow _ _ _ _, e => by simp at e
  | _, _, _, 0, _, .gn _ _ _, e => by simp at e
  | _, _, _, i + 1, _, .no h, e => by simpa using h.get_rd (i := i) (by simpa using e)
  | _, _, _, i + 1, _, .rd _ h, e => by simpa using h.get_rd (i := i) (by simpa using e)
  | _, _, _, i + 1, _, .fr _ h, e => by simpa using h.get_rd (i := i) (by simpa using e)
  | _, _, _, i + 1, _, .ow _ _ _ h, e => by simpa using h.get_rd (i := i) (by simpa using e)
  | _, _, _, i + 1, _, .gn _ _ h, e => by simpa using h.get_rd (i := i) (by simpa using e)
theorem Slots.get_fr : ∀ {σ : L2.St} {ss : List Sl} {O : List Addr} {i : Nat} {d : PyData}, Slots K H0 G H σ ss O → ss[i]? = some (.fr d) → ∃ v, σ[i]? = some (some v) ∧ Df H0 G v d
  | _, _, _, _, _, .nil, e => by simp at e
  | _, _, _, 0, _, .no _, e => by simp at e
  | _, _, _, 0, _, .fr d _, e => by
    simp at e
    subst e
    exact ⟨_, rfl, d⟩
  | _, _, _, 0, _, .rd _ _, e => by simp at e
  | _, _, _, 0, _, .ow _ _ _ _, e => by simp at e
  | _, _, _, 0, _, .gn _ _ _, e => by simp at e
  | _, _, _, i + 1, _, .no h, e => by simpa using h.get_fr (i := i) (by simpa using e)
  | _, _, _, i + 1, _, .rd _ h, e => by simpa using h.get_fr (i := i) (by simpa using e)
  | _, _, _, i + 1, _, .fr _ h, e => by simpa using h.get_fr (i := i) (by simpa using e)
  | _, _, _, i + 1, _, .ow _ _ _ h, e => by simpa using h.get_fr (i := i) (by simpa using e)
  | _, _, _, i + 1, _, .gn _ _ h, e => by simpa using h.get_fr (i := i) (by simpa using e)
theorem Slots.get_ow : ∀ {σ : L2.St} {ss : List Sl} {O : List Addr} {i : Nat} {ds : List PyData}, Slots K H0 G H σ ss O → ss[i]? = some (.ow ds) →
    ∃ p vs, σ[i]? = some (some (.ref p)) ∧ p ∈ O ∧ H p = some (.lst vs) ∧ DfAll H0 G vs ds
  | _, _, _, _, _, .nil, e => by simp at e
  | _, _, _, 0, _, .no _, e => by simp at e
  | _, _, _, 0, _, .fr _ _, e => by simp at e
  | _, _, _, 0, _, .rd _ _, e => by simp at e
  | _, _, _, 0, _, .gn _ _ _, e => by simp at e
  | _, _, _, 0, _, .ow _ hl hd _, e => by
    simp at e
    subst e
    exact ⟨_, _, rfl, List.mem_cons_self, hl, hd⟩
  | _, _, _, i + 1, _, .no h, e => by simpa using h.get_ow (i := i) (by simpa using e)
  | _, _, _, i + 1, _, .rd _ h, e => by simpa using h.get_ow (i := i) (by simpa using e)
  | _, _, _, i + 1, _, .fr _ h, e => by simpa using h.get_ow (i := i) (by simpa using e)
  | _, _, _, i + 1, _, .gn _ _ h, e => by
    obtain ⟨p, vs, q1, q2, q3, q4⟩ := h.get_ow (i := i) (by simpa using e)
    exact ⟨p, vs, by simpa using q1, List.mem_append_right _ q2, q3, q4⟩
  | _, _, _, i + 1, _, .ow _ _ _ h, e => by
    obtain ⟨p, vs, q1, q2, q3, q4⟩ := h.get_ow (i := i) (by simpa using e)
    exact ⟨p, vs, by simpa using q1, List.mem_cons_of_mem _ q2, q3, q4⟩
/-- a slot is set to what is not one's own list: the owned ones grow less -/
theorem Slots.set {v : V} {s : Sl} (hs : ∀ {σ : L2.St} {ss : List Sl} {O : List Addr}, Slots K H0 G H σ ss O → Slots K H0 G H (some v :: σ) (s :: ss) O) :
    ∀ {σ : L2.St} {ss : List Sl} {O : List Addr} {i : Nat}, Slots K H0 G H σ ss O → ∃ O', Slots K H0 G H (σ.set i (some v)) (ss.set i s) O' ∧ ∀ b ∈ O', b ∈ O
  | _, _, _, _, .nil => ⟨[], by simp; exact .nil, fun _ h => h⟩
  | _, _, _, 0, .no h => ⟨_, hs h, fun _ h => h⟩
  | _, _, _, 0, .rd _ h => ⟨_, hs h, fun _ h => h⟩
  | _, _, _, 0, .fr _ h => ⟨_, hs h, fun _ h => h⟩
  | _, _, _, 0, .ow _ _ _ h => ⟨_, hs h, fun _ h => List.mem_cons_of_mem _ h⟩
  | _, _, _, 0, .gn _ _ h => ⟨_, hs h, fun _ h => List.mem_append_right _ h⟩
  | _, _, _, i + 1, .no h => by
    obtain ⟨O', h', k⟩ := Slots.set hs (i := i) h
    exact ⟨O', .no h', k⟩
  | _, _, _, i + 1, .rd d h => by
    obtain ⟨O', h', k⟩ := Slots.set hs (i := i) h
    exact ⟨O', .rd d h', k⟩
  | _, _, _, i + 1, .fr d h => by
    obtain ⟨O', h', k⟩ := Slots.set hs (i := i) h
    exact ⟨O', .fr d h', k⟩
  | _, _, _, i + 1, .gn n q h => by
    obtain ⟨O', h', k⟩ := Slots.set hs (i := i) h
    exact ⟨_, .gn (fun a ha z => n a ha (k _ z)) q h', fun b hb => by
      rcases List.mem_append.mp hb with e | e
      · exact List.mem_append_left _ e
      · exact List.mem_append_right _ (k _ e)⟩
  | _, _, _, i + 1, .ow hp hl hd h => by
    obtain ⟨O', h', k⟩ := Slots.set hs (i := i) h
    exact ⟨_, .ow (fun z => hp (k _ z)) hl hd h', fun b hb => by
      rcases List.mem_cons.mp hb with e | e
      · subst e
        exact List.mem_cons_self
      · exact List.mem_cons_of_mem _ (k _ e)⟩
/-- .. to a list of one's own, p, that nobody holds -/
theorem Slots.setOw {p : Addr} {vs : List V} {ds : List PyData} (hl : H p = some (.lst vs)) (hd : DfAll H0 G vs ds) :
    ∀ {σ : L2.St} {ss : List Sl} {O : List Addr} {i : Nat}, p ∉ O → Slots K H0 G H σ ss O → ∃ O', Slots K H0 G H (σ.set i (some (.ref p))) (ss.set i (.ow ds)) O' ∧ ∀ b ∈ O', b ∈ p :: O
  | _, _, _, _, _, .nil => ⟨[], by simp; exact .nil, fun _ h => by simp at h⟩
  | _, _, _, 0, n, .no h => ⟨_, .ow n hl hd h, fun _ h => h⟩
  | _, _, _, 0, n, .rd _ h => ⟨_, .ow n hl hd h, fun _ h => h⟩
  | _, _, _, 0, n, .fr _ h => ⟨_, .ow n hl hd h, fun _ h => h⟩
  | _, _, _, 0, n, .ow _ _ _ h => ⟨_, .ow (fun z => n (List.mem_cons_of_mem _ z)) hl hd h, fun b hb => by
      rcases List.mem_cons.mp hb with e | e
      · subst e
        exact List.mem_cons_self
      · exact List.mem_cons_of_mem _ (List.mem_cons_of_mem _ e)⟩
  | _, _, _, 0, n, .gn _ _ h => ⟨_, .ow (fun z => n (List.mem_append_right _ z)) hl hd h, fun b hb => by
      rcases List.mem_cons.mp hb with e | e
      · subst e
        exact List.mem_cons_self
      · exact List.mem_cons_of_mem _ (List.mem_append_right _ e)⟩
  | _, _, _, i + 1, n, .no h => by
    obtain ⟨O', h', k⟩ := Slots.setOw hl hd (i := i) n h
    exact ⟨O', .no h', k⟩
  | _, _, _, i + 1, n, .rd d h => by
    obtain ⟨O', h', k⟩ := Slots.setOw hl hd (i := i) n h
    exact ⟨O', .rd d h', k⟩
  | _, _, _, i + 1, n, .fr d h => by
    obtain ⟨O', h', k⟩ := Slots.setOw hl hd (i := i) n h
    exact ⟨O', .fr d h', k⟩
  | _, _, _, i + 1, n, .gn na q h => by
    obtain ⟨O', h', k⟩ := Slots.setOw hl hd (i := i) (fun z => n (List.mem_append_right _ z)) h
    refine ⟨_, .gn (fun a ha z => ?_) q h', fun b hb => ?_⟩
    · rcases List.mem_cons.mp (k _ z) with e | e
      · subst e
        exact n (List.mem_append_left _ ha)
      · exact na a ha e
    · rcases List.mem_append.mp hb with e | e
      · exact List.mem_cons_of_mem _ (List.mem_append_left _ e)
      · rcases List.mem_cons.mp (k _ e) with e | e
        · subst e
          exact List.mem_cons_self
        · exact List.mem_cons_of_mem _ (List.mem_append_right _ e)
  | _, _, _, i + 1, n, .ow hp hl2 hd2 h => by
    obtain ⟨O', h', k⟩ := Slots.setOw hl hd (i := i) (fun z => n (List.mem_cons_of_mem _ z)) h
    refine ⟨_, .ow (fun z => ?_) hl2 hd2 h', fun b hb => ?_⟩
    · rcases List.mem_cons.mp (k _ z) with e | e
      · subst e
        exact n List.mem_cons_self
      · exact hp e
    · rcases List.mem_cons.mp hb with e | e
      · subst e
        exact List.mem_cons_of_mem _ List.mem_cons_self
      · rcases List.mem_cons.mp (k _ e) with e | e
        · subst e
          exact List.mem_cons_self
        · exact List.mem_cons_of_mem _ (List.mem_cons_of_mem _ e)
/-- a list of one's own is rewritten in place -/
theorem Slots.upOw {p : Addr} {ws : List V} {es : List PyData} (hd : DfAll H0 G ws es) :
    ∀ {σ : L2.St} {ss : List Sl} {O : List Addr} {i : Nat} {ds : List PyData}, Slots K H0 G H σ ss O → ss[i]? = some (.ow ds) → σ[i]? = some (some (.ref p)) →
      Slots K H0 G (upd H p (.lst ws)) σ (ss.set i (.ow es)) O
  | _, _, _, _, _, .nil, e, _ => by simp at e
  | _, _, _, 0, _, .no _, e, _ => by simp at e
  | _, _, _, 0, _, .rd _ _, e, _ => by simp at e
  | _, _, _, 0, _, .fr _ _, e, _ => by simp at e
  | _, _, _, 0, _, .gn _ _ _, e, _ => by simp at e
  | _, _, _, 0, _, .ow hp hl _ h, e, q => by
    simp at q
    subst q
    exact .ow hp upd_same hd (h.mono (Evl.Ex.refl G) fun b hb => upd_ne fun z => hp (z ▸ hb))
  | _, _, _, i + 1, _, .no h, e, q => .no (Slots.upOw hd (i := i) h (by simpa using e) (by simpa using q))
  | _, _, _, i + 1, _, .rd d h, e, q => .rd d (Slots.upOw hd (i := i) h (by simpa using e) (by simpa using q))
  | _, _, _, i + 1, _, .fr d h, e, q => .fr d (Slots.upOw hd (i := i) h (by simpa using e) (by simpa using q))
  | _, _, _, i + 1, _, .gn (g := g) (O := O1) na q0 h, e, q => by
    have h' := Slots.upOw (p := p) hd (i := i) h (by simpa using e) (by simpa using q)
    have hin : p ∈ O1 := by
      obtain ⟨p', vs, q1, q2, _⟩ := h.get_ow (i := i) (by simpa using e)
      have : p' = p := by
        have z := (q1.symm.trans (by simpa using q))
        simpa using z
      exact this ▸ q2
    exact .gn na (g.mono (Evl.Ex.refl G) (fun b hb => upd_ne fun z => na b hb (by rw [z]; exact hin)) q0) h'
  | _, _, _, i + 1, _, .ow (O := O1) hp hl hd2 h, e, q => by
    have h' := Slots.upOw (p := p) hd (i := i) h (by simpa using e) (by simpa using q)
    have hin : p ∈ O1 := by
      obtain ⟨p', vs, q1, q2, _⟩ := h.get_ow (i := i) (by simpa using e)
      have : p' = p := by
        have z := (q1.symm.trans (by simpa using q))
        simpa using z
      exact this ▸ q2
    exact .ow hp ((upd_ne (fun z => hp (by rw [z]; exact hin))).trans hl) hd2 h'
theorem Slots.get_gn : ∀ {σ : L2.St} {ss : List Sl} {O : List Addr} {i : Nat} {g : GP}, Slots K H0 G H σ ss O → ss[i]? = some (.gn g) →
    ∃ v A, σ[i]? = some (some v) ∧ (∀ a ∈ A, a ∈ O) ∧ g.P H0 G H v A ∧ ∀ (g' : GP) (H' : Hp), (∀ b, b ∉ A → H' b = H b) → g'.P H0 G H' v A → Slots K H0 G H' σ (ss.set i (.gn g')) O
  | _, _, _, _, _, .nil, e => by simp at e
  | _, _, _, 0, _, .no _, e => by simp at e
  | _, _, _, 0, _, .rd _ _, e => by simp at e
  | _, _, _, 0, _, .fr _ _, e => by simp at e
  | _, _, _, 0, _, .ow _ _ _ _, e => by simp at e
  | _, _, _, 0, _, .gn (A := A) na q h, e => by
    simp at e
    subst e
    exact ⟨_, A, rfl, fun a ha => List.mem_append_left _ ha, q, fun g' H' hH q' => .gn na q' (h.mono (Evl.Ex.refl G) fun b hb => hH b fun z => na b z hb)⟩
  | _, _, _, i + 1, _, .no h, e => by
    obtain ⟨v, A, q1, q2, q3, q4⟩ := h.get_gn (i := i) (by simpa using e)
    exact ⟨v, A, by simpa using q1, q2, q3, fun g' H' hH q' => .no (q4 g' H' hH q')⟩
  | _, _, _, i + 1, _, .rd d h, e => by
    obtain ⟨v, A, q1, q2, q3, q4⟩ := h.get_gn (i := i) (by simpa using e)
    exact ⟨v, A, by simpa using q1, q2, q3, fun g' H' hH q' => .rd d (q4 g' H' hH q')⟩
  | _, _, _, i + 1, _, .fr d h, e => by
    obtain ⟨v, A, q1, q2, q3, q4⟩ := h.get_gn (i := i) (by simpa using e)
    exact ⟨v, A, by simpa using q1, q2, q3, fun g' H' hH q' => .fr d (q4 g' H' hH q')⟩
  | _, _, _, i + 1, _, .ow hp hl hd h, e => by
    obtain ⟨v, A, q1, q2, q3, q4⟩ := h.get_gn (i := i) (by simpa using e)
    exact ⟨v, A, by simpa using q1, fun a ha => List.mem_cons_of_mem _ (q2 a ha), q3, fun g' H' hH q' => .ow hp ((hH _ fun z => hp (q2 _ z)).trans hl) hd (q4 g' H' hH q')⟩
  | _, _, _, i + 1, _, .gn (g := g2) na q0 h, e => by
    obtain ⟨v, A, q1, q2, q3, q4⟩ := h.get_gn (i := i) (by simpa using e)
    exact ⟨v, A, by simpa using q1, fun a ha => List.mem_append_right _ (q2 a ha), q3, fun g' H' hH q' => .gn na (g2.mono (Evl.Ex.refl G) (fun b hb => hH b fun z => na b hb (q2 b z)) q0) (q4 g' H' hH q')⟩
/-- a slot is set to a value with objects of one's own -/
theorem Slots.setGn {v : V} {g : GP} {A : List Addr} (q : g.P H0 G H v A) :
    ∀ {σ : L2.St} {ss : List Sl} {O : List Addr} {i : Nat}, (∀ a ∈ A, a ∉ O) → Slots K H0 G H σ ss O → ∃ O', Slots K H0 G H (σ.set i (some v)) (ss.set i (.gn g)) O' ∧ ∀ b ∈ O', b ∈ A ++ O
  | _, _, _, _, _, .nil => ⟨[], by simp; exact .nil, fun _ h => by simp at h⟩
  | _, _, _, 0, n, .no h => ⟨_, .gn n q h, fun _ h => h⟩
  | _, _, _, 0, n, .rd _ h => ⟨_, .gn n q h, fun _ h => h⟩
  | _, _, _, 0, n, .fr _ h => ⟨_, .gn n q h, fun _ h => h⟩
  | _, _, _, 0, n, .ow _ _ _ h => ⟨_, .gn (fun a ha z => n a ha (List.mem_cons_of_mem _ z)) q h, fun b hb => by
      rcases List.mem_append.mp hb with e | e
      · exact List.mem_append_left _ e
      · exact List.mem_append_right _ (List.mem_cons_of_mem _ e)⟩
  | _, _, _, 0, n, .gn _ _ h => ⟨_, .gn (fun a ha z => n a ha (List.mem_append_right _ z)) q h, fun b hb => by
      rcases List.mem_append.mp hb with e | e
      · exact List.mem_append_left _ e
      · exact List.mem_append_right _ (List.mem_append_right _ e)⟩
  | _, _, _, i + 1, n, .no h => by
    obtain ⟨O', h', k⟩ := Slots.setGn q (i := i) n h
    exact ⟨O', .no h', k⟩
  | _, _, _, i + 1, n, .rd d h => by
    obtain ⟨O', h', k⟩ := Slots.setGn q (i := i) n h
    exact ⟨O', .rd d h', k⟩
  | _, _, _, i + 1, n, .fr d h => by
    obtain ⟨O', h', k⟩ := Slots.setGn q (i := i) n h
    exact ⟨O', .fr d h', k⟩
  | _, _, _, i + 1, n, .ow hp hl2 hd2 h => by
    obtain ⟨O', h', k⟩ := Slots.setGn q (i := i) (fun a ha z => n a ha (List.mem_cons_of_mem _ z)) h
    refine ⟨_, .ow (fun z => ?_) hl2 hd2 h', fun b hb => ?_⟩
    · rcases List.mem_append.mp (k _ z) with e | e
      · exact n _ e List.mem_cons_self
      · exact hp e
    · rcases List.mem_cons.mp hb with e | e
      · subst e
        exact List.mem_append_right _ List.mem_cons_self
      · rcases List.mem_append.mp (k _ e) with e | e
        · exact List.mem_append_left _ e
        · exact List.mem_append_right _ (List.mem_cons_of_mem _ e)
  | _, _, _, i + 1, n, .gn na q0 h => by
    obtain ⟨O', h', k⟩ := Slots.setGn q (i := i) (fun a ha z => n a ha (List.mem_append_right _ z)) h
    refine ⟨_, .gn (fun a ha z => ?_) q0 h', fun b hb => ?_⟩
    · rcases List.mem_append.mp (k _ z) with e | e
      · exact n a e (List.mem_append_left _ ha)
      · exact na a ha e
    · rcases List.mem_append.mp hb with e | e
      · exact List.mem_append_right _ (List.mem_append_left _ e)
      · rcases List.mem_append.mp (k _ e) with e | e
        · exact List.mem_append_left _ e
        · exact List.mem_append_right _ (List.mem_append_right _ e)
end
/-- what holds between two steps, O the lists of one's own -/
structure StO (K : PySem.W.Frag) (H0 : Hp) (O : List Addr) (ss : List Sl) (σ : L2.St) (H : Hp) : Prop where
  sl : ∃ O', Slots K H0 (hide O H) H σ ss O' ∧ ∀ b ∈ O', b ∈ O
  ex : Ex H0 (hide O H)
  tr : ∀ b ∈ O, H b ≠ none
section
variable {K : PySem.W.Frag} {H0 H H' : Hp} {O : List Addr} {ss : List Sl} {σ : L2.St}
theorem ex_at {b : Addr} (e : Ex H H') (h : H b ≠ none) : H' b = H b := by
  cases q : H b with
  | none => exact absurd q h
  | some o => exact e b o q
theorem StO.mono (e : Ex H H') (s : StO K H0 O ss σ H) : StO K H0 O ss σ H' := by
  obtain ⟨⟨O', h, k⟩, ex, tr⟩ := s
  exact ⟨⟨O', h.mono (hide_mono e) fun b hb => ex_at e (tr b (k b hb)), k⟩, Evl.Ex.trans ex (hide_mono e), fun b hb => by rw [ex_at e (tr b hb)]; exact tr b hb⟩
theorem StO.ex1 (s : StO K H0 O ss σ H) : Ex H0 H := Evl.Ex.trans s.ex hide_le
end
inductive Md where
  | f | g | r
def Res (K : PySem.W.Frag) (H0 : Hp) : Md → List Addr → Hp → V → PyData → Prop
  | .f, O, H, v, d => Df H0 (hide O H) v d
  | .g, O, H, v, d => Dp K (hide O H) v d
  | .r, _, H, v, d => Dp K H v d
def ResA (K : PySem.W.Frag) (H0 : Hp) : Md → List Addr → Hp → List V → List PyData → Prop
  | .f, O, H, v, d => DfAll H0 (hide O H) v d
  | .g, O, H, v, d => DpAll K (hide O H) v d
  | .r, _, H, v, d => DpAll K H v d
section
variable {K : PySem.W.Frag} {H0 H H' : Hp} {O : List Addr} {ss : List Sl} {σ : L2.St} {m : Md} {v : V} {d : PyData} {vs : List V} {ds : List PyData}
theorem Res.mono (e : Ex H H') (h : Res K H0 m O H v d) : Res K H0 m O H' v d := by
  cases m
  · exact df_mono (hide_mono e) _ _ h
  · exact dp_mono (hide_mono e) _ _ h
  · exact dp_mono e _ _ h
theorem ResA.mono (e : Ex H H') (h : ResA K H0 m O H vs ds) : ResA K H0 m O H' vs ds := by
  cases m
  · exact dfa_mono (hide_mono e) _ _ h
  · exact dpa_mono (hide_mono e) _ _ h
  · exact dpa_mono e _ _ h
theorem Res.cons (h : Res K H0 m O H v d) (k : ResA K H0 m O H vs ds) : ResA K H0 m O H (v :: vs) (d :: ds) := by
  cases m
  · exact .cons h k
  · exact .cons h k
  · exact .cons h k
theorem ResA.nil : ResA K H0 m O H [] [] := by
  cases m
  · exact .nil
  · exact .nil
  · exact .nil
theorem Res.ofF (h : Df H0 (hide O H) v d) : Res K H0 m O H v d := by
  cases m
  · exact h
  · exact df_dp _ _ h
  · exact df_dp _ _ (df_mono hide_le _ _ h)
theorem ResA.ofF (h : DfAll H0 (hide O H) vs ds) : ResA K H0 m O H vs ds := by
  cases m
  · exact h
  · exact dfa_dp _ _ h
  · exact dfa_dp _ _ (dfa_mono hide_le _ _ h)
theorem Res.toR (h : Res K H0 m O H v d) : Dp K H v d := by
  cases m
  · exact df_dp _ _ (df_mono hide_le _ _ h)
  · exact dp_mono hide_le _ _ h
  · exact h
theorem ResA.toR (h : ResA K H0 m O H vs ds) : DpAll K H vs ds := by
  cases m
  · exact dfa_dp _ _ (dfa_mono hide_le _ _ h)
  · exact dpa_mono hide_le _ _ h
  · exact h
def okm : Md → PyData → Bool
  | .f, d => scalD d
  | _, _ => true
theorem Res.ofG (k : okm m d = true) (h : Dp K (hide O H) v d) : Res K H0 m O H v d := by
  cases m
  · exact df_scal k h
  · exact h
  · exact dp_mono hide_le _ _ h
theorem Res.ofScal (k : scalD d = true) (h : Dp K H v d) : Res K H0 m O H v d := Res.ofF (df_scal k h)
/-- a callee's fresh answer -/
theorem Res.ofCall (s : StO K H0 O ss σ H) (e : Ex H H') (h : Df H H' v d) : Res K H0 m O H' v d :=
  Res.ofF (df_hide s.ex1 s.tr _ _ h)
theorem ResA.ofCall (s : StO K H0 O ss σ H) (e : Ex H H') (h : DfAll H H' vs ds) : ResA K H0 m O H' vs ds :=
  ResA.ofF (dfa_hide s.ex1 s.tr _ _ h)
end
/-! ### what an expression evaluates to -/
section
variable (K : PySem.W.Frag) (H0 : Hp)
def Ev (m : Md) (te : TE) (ss : List Sl) (d : PyData) : Prop := ∀ (σ : L2.St) (H : Hp) (O : List Addr) (Q : VK), StO K H0 O ss σ H → (∀ v H2, Ex H H2 → Res K H0 m O H2 v d → Q v H2) → te σ H Q
def EvT (tt : TT) (ss : List Sl) (b : Bool) : Prop := ∀ (σ : L2.St) (H : Hp) (O : List Addr) (Q : Bool → Hp → Prop), StO K H0 O ss σ H → (∀ H2, Ex H H2 → Q b H2) → tt σ H Q
def EvA (m : Md) (ta : TA) (ss : List Sl) (ds : List PyData) : Prop := ∀ (σ : L2.St) (H : Hp) (O : List Addr) (Q : List V → Hp → Prop), StO K H0 O ss σ H → (∀ vs H2, Ex H H2 → ResA K H0 m O H2 vs ds → Q vs H2) → ta σ H Q
def EvO (to : TO) (ss : List Sl) (o : Option Int) : Prop := ∀ (σ : L2.St) (H : Hp) (O : List Addr) (Q : Option Int → Hp → Prop), StO K H0 O ss σ H → (∀ H2, Ex H H2 → Q o H2) → to σ H Q
/-- what a loop walks: n items of data ds -/
def EvI (m : Md) (wi : TI) (ss : List Sl) (ds : List PyData) : Prop := ∀ (σ : L2.St) (H : Hp) (O : List Addr) (R : It → Hp → Prop), StO K H0 O ss σ H →
  (∀ (J : It) (H2 : Hp) (Φ : Hp → Prop) (Y : Nat → Hp → V → Hp → Prop), Ex H H2 → (∀ G G', Ex G G' → Φ G → Φ G') → Φ (hide O H2) → Walk J ds.length Φ Y →
    (∀ i H x H' d, Y i H x H' → Ex H0 H → ds[i]? = some d → Ex H H' ∧ ∀ O, (∀ b ∈ O, H b ≠ none) → Φ (hide O H) → Res K H0 m O H' x d) → R J H2) → wi σ H R
/-- a target takes an item -/
def Tg (m : Md) (g : TG) (d : PyData) (ss ss' : List Sl) : Prop := ∀ (σ : L2.St) (H : Hp) (O : List Addr) (v : V) (Q : L2.St → Hp → Prop), StO K H0 O ss σ H → Res K H0 m O H v d → (∀ σ', StO K H0 O ss' σ' H → Q σ' H) → g v σ H Q
end
section
variable {K : PySem.W.Frag} {H0 : Hp} {m m' : Md} {ss : List Sl} {ta tb tc te : TE} {d e : PyData} {ds es : List PyData}
theorem Ev.to {d' : PyData} (h : Ev K H0 m te ss d) (e : d = d') : Ev K H0 m te ss d' := e ▸ h
theorem EvT.to {tt : TT} {b b' : Bool} (h : EvT K H0 tt ss b) (e : b = b') : EvT K H0 tt ss b' := e ▸ h
theorem EvA.to {ta : TA} {ds' : List PyData} (h : EvA K H0 m ta ss ds) (e : ds = ds') : EvA K H0 m ta ss ds' := e ▸ h
theorem Ev.r (h : Ev K H0 m te ss d) : Ev K H0 .r te ss d := fun σ H O Q s q => h σ H O Q s fun v H2 e r => q v H2 e r.toR
theorem ev_rd {i : Nat} (h : ss[i]? = some (.rd d)) (k : okm m d = true := by rfl) : Ev K H0 m (tVar i) ss d := fun σ H O Q s q => by
  obtain ⟨O', hs, _⟩ := s.sl
  obtain ⟨v, h1, h2⟩ := hs.get_rd h
  exact ⟨v, h1, q v H (Evl.Ex.refl H) (Res.ofG k h2)⟩
theorem ev_fr {i : Nat} (h : ss[i]? = some (.fr d)) : Ev K H0 m (tVar i) ss d := fun σ H O Q s q => by
  obtain ⟨O', hs, _⟩ := s.sl
  obtain ⟨v, h1, h2⟩ := hs.get_fr h
  exact ⟨v, h1, q v H (Evl.Ex.refl H) (Res.ofF h2)⟩
theorem ev_ow {i : Nat} (h : ss[i]? = some (.ow ds)) : Ev K H0 .r (tVar i) ss (.list ds) := fun σ H O Q s q => by
  obtain ⟨O', hs, _⟩ := s.sl
  obtain ⟨p, vs, h1, h2, h3, h4⟩ := hs.get_ow h
  exact ⟨.ref p, h1, q _ H (Evl.Ex.refl H) (Dp.lst (SqL.of h3) (dfa_dp _ _ (dfa_mono hide_le _ _ h4)))⟩
theorem ev_int {i : Int} : Ev K H0 m (tC (.int i)) ss (.int i) := fun _ H _ _ _ q => q _ H (Evl.Ex.refl H) (Res.ofF (.int i))
theorem ev_str {x : Str} : Ev K H0 m (tC (.str x)) ss (.str x) := fun _ H _ _ _ q => q _ H (Evl.Ex.refl H) (Res.ofF (.str x))
theorem ev_bl {b : Bool} : Ev K H0 m (tC (.bl b)) ss (.bool b) := fun _ H _ _ _ q => q _ H (Evl.Ex.refl H) (Res.ofF (.bl b))
theorem ev_non : Ev K H0 m (tC .non) ss .none := fun _ H _ _ _ q => q _ H (Evl.Ex.refl H) (Res.ofF .non)
/-- a two-place rule on two readable operands -/
theorem ev_op {m1 m2 : Md} {r : R2} {da db : PyData} (ha : Ev K H0 m1 ta ss da) (hb : Ev K H0 m2 tb ss db)
    (hr : ∀ (σ : L2.St) (H : Hp) (O : List Addr) (x y : V) (Q : VK), StO K H0 O ss σ H → Res K H0 m1 O H x da → Res K H0 m2 O H y db → (∀ v H2, Ex H H2 → Res K H0 m O H2 v d → Q v H2) → r x y H Q) : Ev K H0 m (tOp r ta tb) ss d := fun σ H O Q s q =>
  ha σ H O _ s fun x H1 e1 r1 => hb σ H1 O _ (s.mono e1) fun y H2 e2 r2 => hr σ H2 O x y Q ((s.mono e1).mono e2) (r1.mono e2) r2 fun v H3 e3 r3 => q v H3 (Evl.Ex.trans e1 (Evl.Ex.trans e2 e3)) r3
theorem ev_I0 {g : Int → Int → V} {i j : Int} {d : PyData} (ha : Ev K H0 .r ta ss (.int i)) (hb : Ev K H0 .r tb ss (.int j)) (hg : ∀ H0 H, Df H0 H (g i j) d) : Ev K H0 m (tOp (rI0 g) ta tb) ss d :=
  ev_op ha hb fun σ H O x y Q s hx hy q => by
    cases hx
    cases hy
    exact ⟨i, j, rfl, rfl, q _ H (Evl.Ex.refl H) (Res.ofF (hg _ _))⟩
theorem ev_I {C : Int → Int → Prop} {g : Int → Int → V} {i j : Int} {d : PyData} (ha : Ev K H0 .r ta ss (.int i)) (hb : Ev K H0 .r tb ss (.int j)) (hc : C i j) (hg : ∀ H0 H, Df H0 H (g i j) d) : Ev K H0 m (tOp (rI C g) ta tb) ss d :=
  ev_op ha hb fun σ H O x y Q s hx hy q => by
    cases hx
    cases hy
    exact ⟨i, j, rfl, rfl, hc, q _ H (Evl.Ex.refl H) (Res.ofF (hg _ _))⟩
section
variable {i j : Int}
theorem ev_add (ha : Ev K H0 .r ta ss (.int i)) (hb : Ev K H0 .r tb ss (.int j)) : Ev K H0 m (tOp (rI0 fun i j => .int (i + j)) ta tb) ss (.int (i + j)) := ev_I0 ha hb fun _ _ => .int _
theorem ev_sub (ha : Ev K H0 .r ta ss (.int i)) (hb : Ev K H0 .r tb ss (.int j)) : Ev K H0 m (tOp (rI0 fun i j => .int (i - j)) ta tb) ss (.int (i - j)) := ev_I0 ha hb fun _ _ => .int _
theorem ev_mul (ha : Ev K H0 .r ta ss (.int i)) (hb : Ev K H0 .r tb ss (.int j)) (hc : CMul i j) : Ev K H0 m (tOp (rI CMul fun i j => .int (i * j)) ta tb) ss (.int (i * j)) := ev_I ha hb hc fun _ _ => .int _
theorem ev_fdiv (ha : Ev K H0 .r ta ss (.int i)) (hb : Ev K H0 .r tb ss (.int j)) (hc : CDiv i j := by exact ⟨by decide, by decide⟩) : Ev K H0 m (tOp (rI CDiv fun i j => .int (i / j)) ta tb) ss (.int (i / j)) := ev_I ha hb hc fun _ _ => .int _
theorem ev_mod (ha : Ev K H0 .r ta ss (.int i)) (hb : Ev K H0 .r tb ss (.int j)) (hc : 0 < j := by decide) : Ev K H0 m (tOp (rI (fun _ j => 0 < j) fun i j => .int (i % j)) ta tb) ss (.int (i % j)) := ev_I ha hb hc fun _ _ => .int _
theorem ev_pow (ha : Ev K H0 .r ta ss (.int i)) (hb : Ev K H0 .r tb ss (.int j)) (hc : CPow i j := by exact ⟨by decide, by decide, by decide⟩) : Ev K H0 m (tOp (rI CPow fun i j => .int (i ^ j.toNat)) ta tb) ss (.int (i ^ j.toNat)) := ev_I ha hb hc fun _ _ => .int _
theorem ev_shl (ha : Ev K H0 .r ta ss (.int i)) (hb : Ev K H0 .r tb ss (.int j)) (hc : CPow i j) : Ev K H0 m (tOp (rI CPow fun i j => .int (i * 2 ^ j.toNat)) ta tb) ss (.int (i * 2 ^ j.toNat)) := ev_I ha hb hc fun _ _ => .int _
theorem ev_shr (ha : Ev K H0 .r ta ss (.int i)) (hb : Ev K H0 .r tb ss (.int j)) (hc : 0 ≤ j) : Ev K H0 m (tOp (rI (fun _ j => 0 ≤ j) fun i j => .int (i / 2 ^ j.toNat)) ta tb) ss (.int (i / 2 ^ j.toNat)) := ev_I ha hb hc fun _ _ => .int _
theorem ev_lt (ha : Ev K H0 .r ta ss (.int i)) (hb : Ev K H0 .r tb ss (.int j)) : Ev K H0 m (tOp (rI0 fun i j => .bl (decide (i < j))) ta tb) ss (.bool (decide (i < j))) := ev_I0 ha hb fun _ _ => .bl _
theorem ev_le (ha : Ev K H0 .r ta ss (.int i)) (hb : Ev K H0 .r tb ss (.int j)) : Ev K H0 m (tOp (rI0 fun i j => .bl (decide (i ≤ j))) ta tb) ss (.bool (decide (i ≤ j))) := ev_I0 ha hb fun _ _ => .bl _
theorem ev_gt (ha : Ev K H0 .r ta ss (.int i)) (hb : Ev K H0 .r tb ss (.int j)) : Ev K H0 m (tOp (rI0 fun i j => .bl (decide (j < i))) ta tb) ss (.bool (decide (j < i))) := ev_I0 ha hb fun _ _ => .bl _
theorem ev_ge (ha : Ev K H0 .r ta ss (.int i)) (hb : Ev K H0 .r tb ss (.int j)) : Ev K H0 m (tOp (rI0 fun i j => .bl (decide (j ≤ i))) ta tb) ss (.bool (decide (j ≤ i))) := ev_I0 ha hb fun _ _ => .bl _
theorem ev_neg (ha : Ev K H0 .r ta ss (.int i)) : Ev K H0 m (tUn (rU fun i => .int (-i)) ta) ss (.int (-i)) := fun σ H O Q s q =>
  ha σ H O _ s fun x H1 e1 r1 => by
    cases r1
    exact ⟨i, rfl, q _ H1 e1 (Res.ofF (.int _))⟩
/-- == != of ints, bools, texts -/
theorem ev_eqI (ha : Ev K H0 .r ta ss (.int i)) (hb : Ev K H0 .r tb ss (.int j)) : Ev K H0 m (tOp rEq ta tb) ss (.bool (decide (i = j))) :=
  ev_op ha hb fun σ H O x y Q s hx hy q => by
    cases hx
    cases hy
    refine ⟨rfl, ?_⟩
    have e : decide (V.int i = V.int j) = decide (i = j) := by by_cases h : i = j <;> simp [h]
    rw [e]
    exact q _ H (Evl.Ex.refl H) (Res.ofF (.bl _))
theorem ev_neI (ha : Ev K H0 .r ta ss (.int i)) (hb : Ev K H0 .r tb ss (.int j)) : Ev K H0 m (tOp rNe ta tb) ss (.bool (!decide (i = j))) :=
  ev_op ha hb fun σ H O x y Q s hx hy q => by
    cases hx
    cases hy
    refine ⟨rfl, ?_⟩
    have e : decide (V.int i = V.int j) = decide (i = j) := by by_cases h : i = j <;> simp [h]
    rw [e]
    exact q _ H (Evl.Ex.refl H) (Res.ofF (.bl _))
theorem ev_eqS {x y : Str} (ha : Ev K H0 .r ta ss (.str x)) (hb : Ev K H0 .r tb ss (.str y)) : Ev K H0 m (tOp rEq ta tb) ss (.bool (decide (x = y))) :=
  ev_op ha hb fun σ H O x' y' Q s hx hy q => by
    cases hx
    cases hy
    refine ⟨rfl, ?_⟩
    have e : decide (V.str x = V.str y) = decide (x = y) := by by_cases h : x = y <;> simp [h]
    rw [e]
    exact q _ H (Evl.Ex.refl H) (Res.ofF (.bl _))
theorem ev_neS {x y : Str} (ha : Ev K H0 .r ta ss (.str x)) (hb : Ev K H0 .r tb ss (.str y)) : Ev K H0 m (tOp rNe ta tb) ss (.bool (!decide (x = y))) :=
  ev_op ha hb fun σ H O x' y' Q s hx hy q => by
    cases hx
    cases hy
    refine ⟨rfl, ?_⟩
    have e : decide (V.str x = V.str y) = decide (x = y) := by by_cases h : x = y <;> simp [h]
    rw [e]
    exact q _ H (Evl.Ex.refl H) (Res.ofF (.bl _))
theorem ev_eqB {x y : Bool} (ha : Ev K H0 .r ta ss (.bool x)) (hb : Ev K H0 .r tb ss (.bool y)) : Ev K H0 m (tOp rEq ta tb) ss (.bool (decide (x = y))) :=
  ev_op ha hb fun σ H O x' y' Q s hx hy q => by
    cases hx
    cases hy
    refine ⟨rfl, ?_⟩
    have e : decide (V.bl x = V.bl y) = decide (x = y) := by by_cases h : x = y <;> simp [h]
    rw [e]
    exact q _ H (Evl.Ex.refl H) (Res.ofF (.bl _))
theorem ev_neB {x y : Bool} (ha : Ev K H0 .r ta ss (.bool x)) (hb : Ev K H0 .r tb ss (.bool y)) : Ev K H0 m (tOp rNe ta tb) ss (.bool (!decide (x = y))) :=
  ev_op ha hb fun σ H O x' y' Q s hx hy q => by
    cases hx
    cases hy
    refine ⟨rfl, ?_⟩
    have e : decide (V.bl x = V.bl y) = decide (x = y) := by by_cases h : x = y <;> simp [h]
    rw [e]
    exact q _ H (Evl.Ex.refl H) (Res.ofF (.bl _))
end
/-- == != of data -/
theorem ev_eqD (ha : Ev K H0 .r ta ss d) (hb : Ev K H0 .r tb ss e) (h1 : SeqAt.shaped d = true) (h2 : SeqAt.shaped e = true) : Ev K H0 m (tOp (rEqD K) ta tb) ss (.bool (PyData.eqv d e)) :=
  ev_op ha hb fun σ H O x y Q s hx hy q => ⟨d, e, hx, hy, h1, h2, q _ H (Evl.Ex.refl H) (Res.ofF (.bl _))⟩
theorem ev_neD (ha : Ev K H0 .r ta ss d) (hb : Ev K H0 .r tb ss e) (h1 : SeqAt.shaped d = true) (h2 : SeqAt.shaped e = true) : Ev K H0 m (tOp (rNeD K) ta tb) ss (.bool (!PyData.eqv d e)) :=
  ev_op ha hb fun σ H O x y Q s hx hy q => ⟨d, e, hx, hy, h1, h2, q _ H (Evl.Ex.refl H) (Res.ofF (.bl _))⟩
theorem ev_inD (ha : Ev K H0 .r ta ss d) (hb : Ev K H0 .r tb ss (.list ds)) (h1 : SeqAt.shaped d = true) (h2 : SeqAt.shaped (.list ds) = true) : Ev K H0 m (tOp (rInD K) ta tb) ss (.bool (ds.any fun z => PyData.eqv z d)) :=
  ev_op ha hb fun σ H O x y Q s hx hy q => ⟨d, ds, hx, hy, h1, h2, q _ H (Evl.Ex.refl H) (Res.ofF (.bl _))⟩
theorem ev_ninD (ha : Ev K H0 .r ta ss d) (hb : Ev K H0 .r tb ss (.list ds)) (h1 : SeqAt.shaped d = true) (h2 : SeqAt.shaped (.list ds) = true) : Ev K H0 m (tOp (rNotInD K) ta tb) ss (.bool (!ds.any fun z => PyData.eqv z d)) :=
  ev_op ha hb fun σ H O x y Q s hx hy q => ⟨d, ds, hx, hy, h1, h2, q _ H (Evl.Ex.refl H) (Res.ofF (.bl _))⟩
/-- is None -/
theorem ev_isN (ha : Ev K H0 .r ta ss d) (b : Bool) (hb : ∀ H v, Dp K H v d → decide (v = .non) = b) : Ev K H0 m (tIsN ta) ss (.bool b) := fun σ H O Q s q =>
  ha σ H O _ s fun x H1 e1 r1 => by
    rw [hb H1 x r1]
    exact q _ H1 e1 (Res.ofF (.bl _))
theorem ev_notN (ha : Ev K H0 .r ta ss d) (b : Bool) (hb : ∀ H v, Dp K H v d → (!decide (v = .non)) = b) : Ev K H0 m (tNotN ta) ss (.bool b) := fun σ H O Q s q =>
  ha σ H O _ s fun x H1 e1 r1 => by
    rw [hb H1 x r1]
    exact q _ H1 e1 (Res.ofF (.bl _))
/-! items -/
def ixm : Md → Md → PyData → Bool
  | _, _, .none => true
  | _, _, .bool _ => true
  | _, _, .int _ => true
  | _, _, .str _ => true
  | .g, .g, _ => true
  | _, .r, _ => true
  | .f, _, _ => true
  | _, _, _ => false
theorem res_item {vs : List V} {O : List Addr} {H : Hp} {j : Nat} {a : Addr} (hk : ixm m m' d = true) (h : Res K H0 m O H (.ref a) (.list ds)) (hj : ds[j]? = some d) :
    ∃ xs v, SqL K H a xs ∧ xs[j]? = some v ∧ xs.length = ds.length ∧ Res K H0 m' O H v d := by
  cases m with
  | f =>
    cases h with
    | lst h0 hs ha =>
      obtain ⟨v, h1, h2⟩ := dfa_get ha hj
      exact ⟨_, v, SqL.of (hide_le _ _ hs), h1, dfa_len ha, Res.ofF h2⟩
  | g =>
    cases h with
    | lst hs ha =>
      obtain ⟨v, h1, h2⟩ := dpa_get ha hj
      refine ⟨_, v, Evl.ex_l hide_le hs, h1, dpa_len ha, ?_⟩
      cases h2 with
      | non => exact Res.ofF .non
      | bl b => exact Res.ofF (.bl b)
      | int b => exact Res.ofF (.int b)
      | str b => exact Res.ofF (.str b)
      | lst q1 q2 =>
        cases m' with
        | f => cases hk
        | g => exact Dp.lst q1 q2
        | r => exact dp_mono hide_le _ _ (Dp.lst q1 q2)
      | tup q1 q2 =>
        cases m' with
        | f => cases hk
        | g => exact Dp.tup q1 q2
        | r => exact dp_mono hide_le _ _ (Dp.tup q1 q2)
  | r =>
    cases h with
    | lst hs ha =>
      obtain ⟨v, h1, h2⟩ := dpa_get ha hj
      refine ⟨_, v, hs, h1, dpa_len ha, ?_⟩
      cases h2 with
      | non => exact Res.ofF .non
      | bl b => exact Res.ofF (.bl b)
      | int b => exact Res.ofF (.int b)
      | str b => exact Res.ofF (.str b)
      | lst q1 q2 =>
        cases m' with
        | f => cases hk
        | g => cases hk
        | r => exact Dp.lst q1 q2
      | tup q1 q2 =>
        cases m' with
        | f => cases hk
        | g => cases hk
        | r => exact Dp.tup q1 q2
theorem res_itemT {O : List Addr} {H : Hp} {j : Nat} {a : Addr} (hk : ixm m m' d = true) (h : Res K H0 m O H (.ref a) (.tuple ds)) (hj : ds[j]? = some d) :
    ∃ xs v, SqT K H a xs ∧ xs[j]? = some v ∧ xs.length = ds.length ∧ Res K H0 m' O H v d := by
  cases m with
  | f =>
    cases h with
    | tup h0 hs ha =>
      obtain ⟨v, h1, h2⟩ := dfa_get ha hj
      exact ⟨_, v, SqT.of (hide_le _ _ hs), h1, dfa_len ha, Res.ofF h2⟩
  | g =>
    cases h with
    | tup hs ha =>
      obtain ⟨v, h1, h2⟩ := dpa_get ha hj
      refine ⟨_, v, Evl.ex_t hide_le hs, h1, dpa_len ha, ?_⟩
      cases h2 with
      | non => exact Res.ofF .non
      | bl b => exact Res.ofF (.bl b)
      | int b => exact Res.ofF (.int b)
      | str b => exact Res.ofF (.str b)
      | lst q1 q2 =>
        cases m' with
        | f => cases hk
        | g => exact Dp.lst q1 q2
        | r => exact dp_mono hide_le _ _ (Dp.lst q1 q2)
      | tup q1 q2 =>
        cases m' with
        | f => cases hk
        | g => exact Dp.tup q1 q2
        | r => exact dp_mono hide_le _ _ (Dp.tup q1 q2)
  | r =>
    cases h with
    | tup hs ha =>
      obtain ⟨v, h1, h2⟩ := dpa_get ha hj
      refine ⟨_, v, hs, h1, dpa_len ha, ?_⟩
      cases h2 with
      | non => exact Res.ofF .non
      | bl b => exact Res.ofF (.bl b)
      | int b => exact Res.ofF (.int b)
      | str b => exact Res.ofF (.str b)
      | lst q1 q2 =>
        cases m' with
        | f => cases hk
        | g => cases hk
        | r => exact Dp.lst q1 q2
      | tup q1 q2 =>
        cases m' with
        | f => cases hk
        | g => cases hk
        | r => exact Dp.tup q1 q2
theorem atI_of {α : Type} {xs : List α} {ds : List PyData} {i : Int} {j : Nat} {v : α} (hl : xs.length = ds.length) (hi : ixN ds.length i = some j) (hv : xs[j]? = some v) : atI xs i = some v := by
  unfold atI
  rw [hl, hi]
  exact hv
theorem Res.listRef {O : List Addr} {H : Hp} {x : V} (h : Res K H0 m O H x (.list ds)) : ∃ a, x = .ref a := by
  have z := h.toR
  cases z
  exact ⟨_, rfl⟩
theorem Res.tupRef {O : List Addr} {H : Hp} {x : V} (h : Res K H0 m O H x (.tuple ds)) : ∃ a, x = .ref a := by
  have z := h.toR
  cases z
  exact ⟨_, rfl⟩
/-- xs[i], t[i] : j the place -/
theorem ev_ixLm {i : Int} (j : Nat) (ha : Ev K H0 m ta ss (.list ds)) (hb : Ev K H0 .r tb ss (.int i)) (hi : ixN ds.length i = some j) (hd : ds[j]? = some d) (hk : ixm m m' d = true := by rfl) : Ev K H0 m' (tOp (rIxL K) ta tb) ss d :=
  ev_op ha hb fun σ H O x y Q s hx hy q => by
    cases hy
    obtain ⟨a, rfl⟩ := hx.listRef
    obtain ⟨xs, v, h1, h2, h3, h4⟩ := res_item (vs := []) hk hx hd
    exact ⟨a, xs, i, v, rfl, rfl, h1, atI_of h3 hi h2, q v H (Evl.Ex.refl H) h4⟩
theorem ev_ixTm {i : Int} (j : Nat) (ha : Ev K H0 m ta ss (.tuple ds)) (hb : Ev K H0 .r tb ss (.int i)) (hi : ixN ds.length i = some j) (hd : ds[j]? = some d) (hk : ixm m m' d = true := by rfl) : Ev K H0 m' (tOp (rIxT K) ta tb) ss d :=
  ev_op ha hb fun σ H O x y Q s hx hy q => by
    cases hy
    obtain ⟨a, rfl⟩ := hx.tupRef
    obtain ⟨xs, v, h1, h2, h3, h4⟩ := res_itemT hk hx hd
    exact ⟨a, xs, i, v, rfl, rfl, h1, atI_of h3 hi h2, q v H (Evl.Ex.refl H) h4⟩
theorem ev_ixS {i : Int} {z : Str} {c : Nat} (j : Nat) (ha : Ev K H0 .r ta ss (.str z)) (hb : Ev K H0 .r tb ss (.int i)) (hl : z.length ≤ sizeLine) (hi : ixN z.cps.toList.length i = some j) (hd : z.cps.toList[j]? = some c) : Ev K H0 m (tOp rIxS ta tb) ss (.str ⟨#[c]⟩) :=
  ev_op ha hb fun σ H O x y Q s hx hy q => by
    cases hx
    cases hy
    refine ⟨z, i, c, rfl, rfl, hl, ?_, q _ H (Evl.Ex.refl H) (Res.ofF (.str _))⟩
    unfold atI
    rw [hi]
    exact hd
theorem ixm_scal (k : scalD d = true) : ixm m m' d = true := by
  cases d <;> cases m <;> cases m' <;> first | rfl | cases k
/-- an item that is no object; a readable one of a readable list; a fresh one of a fresh list -/
theorem ev_ixL {i : Int} (j : Nat) (ha : Ev K H0 .r ta ss (.list ds)) (hb : Ev K H0 .r tb ss (.int i)) (hi : ixN ds.length i = some j) (hd : ds[j]? = some d) (hk : scalD d = true := by rfl) : Ev K H0 m' (tOp (rIxL K) ta tb) ss d := ev_ixLm j ha hb hi hd (ixm_scal hk)
theorem ev_ixT {i : Int} (j : Nat) (ha : Ev K H0 .r ta ss (.tuple ds)) (hb : Ev K H0 .r tb ss (.int i)) (hi : ixN ds.length i = some j) (hd : ds[j]? = some d) (hk : scalD d = true := by rfl) : Ev K H0 m' (tOp (rIxT K) ta tb) ss d := ev_ixTm j ha hb hi hd (ixm_scal hk)
theorem ixm_gg : ixm .g .g d = true := by cases d <;> rfl
theorem ixm_rr : ixm .r .r d = true := by cases d <;> rfl
theorem ixm_f : ixm .f m' d = true := by cases d <;> cases m' <;> rfl
theorem ev_ixLr {i : Int} (j : Nat) (ha : Ev K H0 .r ta ss (.list ds)) (hb : Ev K H0 .r tb ss (.int i)) (hi : ixN ds.length i = some j) (hd : ds[j]? = some d) : Ev K H0 .r (tOp (rIxL K) ta tb) ss d := ev_ixLm j ha hb hi hd ixm_rr
theorem ev_ixLg {i : Int} (j : Nat) (ha : Ev K H0 .g ta ss (.list ds)) (hb : Ev K H0 .r tb ss (.int i)) (hi : ixN ds.length i = some j) (hd : ds[j]? = some d) : Ev K H0 .g (tOp (rIxL K) ta tb) ss d := ev_ixLm j ha hb hi hd ixm_gg
theorem ev_ixLf {i : Int} (j : Nat) (ha : Ev K H0 .f ta ss (.list ds)) (hb : Ev K H0 .r tb ss (.int i)) (hi : ixN ds.length i = some j) (hd : ds[j]? = some d) : Ev K H0 m' (tOp (rIxL K) ta tb) ss d := ev_ixLm j ha hb hi hd ixm_f
theorem ev_ixTr {i : Int} (j : Nat) (ha : Ev K H0 .r ta ss (.tuple ds)) (hb : Ev K H0 .r tb ss (.int i)) (hi : ixN ds.length i = some j) (hd : ds[j]? = some d) : Ev K H0 .r (tOp (rIxT K) ta tb) ss d := ev_ixTm j ha hb hi hd ixm_rr
theorem ev_ixTg {i : Int} (j : Nat) (ha : Ev K H0 .g ta ss (.tuple ds)) (hb : Ev K H0 .r tb ss (.int i)) (hi : ixN ds.length i = some j) (hd : ds[j]? = some d) : Ev K H0 .g (tOp (rIxT K) ta tb) ss d := ev_ixTm j ha hb hi hd ixm_gg
theorem ev_ixTf {i : Int} (j : Nat) (ha : Ev K H0 .f ta ss (.tuple ds)) (hb : Ev K H0 .r tb ss (.int i)) (hi : ixN ds.length i = some j) (hd : ds[j]? = some d) : Ev K H0 m' (tOp (rIxT K) ta tb) ss d := ev_ixTm j ha hb hi hd ixm_f
theorem ixN_lit {n j : Nat} (hj : j < n) : ixN n (j : Int) = some j := Evl.ixN_nat hj
/-! tests -/
theorem et_test {b : Bool} (h : Ev K H0 .r te ss (.bool b)) : EvT K H0 (tTest te) ss b := fun σ H O Q s q =>
  h σ H O _ s fun v H2 e r => by
    cases r
    exact ⟨b, rfl, q H2 e⟩
theorem et_B {b : Bool} (h : Ev K H0 .r te ss (.bool b)) : EvT K H0 (tB te) ss b := fun σ H O Q s q =>
  h σ H O _ s fun v H2 e r => by
    cases r
    exact ⟨b, rfl, q H2 e⟩
theorem et_and {t u : TT} {a b : Bool} (h1 : EvT K H0 t ss a) (h2 : a = true → EvT K H0 u ss b) : EvT K H0 (tAnd t u) ss (a && b) := fun σ H O Q s q =>
  h1 σ H O _ s fun H1 e1 => by
    cases a with
    | true => exact h2 rfl σ H1 O _ (s.mono e1) fun H2 e2 => q H2 (Evl.Ex.trans e1 e2)
    | false => exact q H1 e1
theorem et_or {t u : TT} {a b : Bool} (h1 : EvT K H0 t ss a) (h2 : a = false → EvT K H0 u ss b) : EvT K H0 (tOr t u) ss (a || b) := fun σ H O Q s q =>
  h1 σ H O _ s fun H1 e1 => by
    cases a with
    | false => exact h2 rfl σ H1 O _ (s.mono e1) fun H2 e2 => q H2 (Evl.Ex.trans e1 e2)
    | true => exact q H1 e1
theorem et_not {t : TT} {a : Bool} (h1 : EvT K H0 t ss a) : EvT K H0 (tNot t) ss (!a) := fun σ H O Q s q => h1 σ H O _ s q
theorem ev_andV {a b : Bool} (h1 : Ev K H0 .r ta ss (.bool a)) (h2 : a = true → Ev K H0 .r tb ss (.bool b)) : Ev K H0 m (tAndV ta tb) ss (.bool (a && b)) := fun σ H O Q s q =>
  h1 σ H O _ s fun v H1 e1 r1 => by
    cases r1
    refine ⟨a, rfl, ?_⟩
    cases a with
    | true => exact h2 rfl σ H1 O _ (s.mono e1) fun v H2 e2 r2 => q v H2 (Evl.Ex.trans e1 e2) (Res.ofScal rfl r2)
    | false => exact q _ H1 e1 (Res.ofF (.bl _))
theorem ev_orV {a b : Bool} (h1 : Ev K H0 .r ta ss (.bool a)) (h2 : a = false → Ev K H0 .r tb ss (.bool b)) : Ev K H0 m (tOrV ta tb) ss (.bool (a || b)) := fun σ H O Q s q =>
  h1 σ H O _ s fun v H1 e1 r1 => by
    cases r1
    refine ⟨a, rfl, ?_⟩
    cases a with
    | false => exact h2 rfl σ H1 O _ (s.mono e1) fun v H2 e2 r2 => q v H2 (Evl.Ex.trans e1 e2) (Res.ofScal rfl r2)
    | true => exact q _ H1 e1 (Res.ofF (.bl _))
theorem ev_notV {a : Bool} (h1 : Ev K H0 .r ta ss (.bool a)) : Ev K H0 m (tNotV ta) ss (.bool (!a)) := fun σ H O Q s q =>
  h1 σ H O _ s fun v H1 e1 r1 => by
    cases r1
    exact ⟨a, rfl, q _ H1 e1 (Res.ofF (.bl _))⟩
/-- a <= b <= c -/
theorem ev_chain {g g' : Int → Int → Bool} {i j k : Int} (ha : Ev K H0 .r ta ss (.int i)) (hb : Ev K H0 .r tb ss (.int j)) (hc : Ev K H0 .r tc ss (.int k)) :
    Ev K H0 m (tChain (rI0 fun i j => .bl (g i j)) (rI0 fun i j => .bl (g' i j)) ta tb tc) ss (.bool (g i j && g' j k)) := fun σ H O Q s q =>
  ha σ H O _ s fun x H1 e1 r1 => hb σ H1 O _ (s.mono e1) fun y H2 e2 r2 => by
    cases r1
    cases r2
    refine ⟨i, j, rfl, rfl, g i j, rfl, ?_⟩
    cases h : g i j with
    | true => 
      refine hc σ H2 O _ ((s.mono e1).mono e2) fun z H3 e3 r3 => ?_
      cases r3
      rw [h, Bool.true_and] at q
      exact ⟨j, k, rfl, rfl, q _ H3 (Evl.Ex.trans e1 (Evl.Ex.trans e2 e3)) (Res.ofF (.bl _))⟩
    | false =>
      rw [h, Bool.false_and] at q
      exact q _ H2 (Evl.Ex.trans e1 e2) (Res.ofF (.bl _))
theorem ev_if {t : TT} {b : Bool} (h : EvT K H0 t ss b) (h1 : b = true → Ev K H0 m ta ss d) (h2 : b = false → Ev K H0 m tb ss d) : Ev K H0 m (tIf t ta tb) ss d := fun σ H O Q s q =>
  h σ H O _ s fun H1 e1 => by
    cases b with
    | true => exact h1 rfl σ H1 O _ (s.mono e1) fun v H2 e2 r2 => q v H2 (Evl.Ex.trans e1 e2) r2
    | false => exact h2 rfl σ H1 O _ (s.mono e1) fun v H2 e2 r2 => q v H2 (Evl.Ex.trans e1 e2) r2
/-! arguments, displays -/
theorem ea_nil : EvA K H0 m tNil ss [] := fun _ H _ _ _ q => q _ H (Evl.Ex.refl H) ResA.nil
theorem ea_cons {tr : TA} (h : Ev K H0 m te ss d) (hr : EvA K H0 m tr ss ds) : EvA K H0 m (tCons te tr) ss (d :: ds) := fun σ H O Q s q =>
  h σ H O _ s fun v H1 e1 r1 => hr σ H1 O _ (s.mono e1) fun vs H2 e2 r2 => q _ H2 (Evl.Ex.trans e1 e2) ((r1.mono e2).cons r2)
theorem ev_lst {t : TA} (h : EvA K H0 .f t ss ds) (hl : ds.length ≤ 100000 := by exact Nat.le_of_ble_eq_true rfl) : Ev K H0 m (tLst t) ss (.list ds) := fun σ H O Q s q =>
  h σ H O _ s fun vs H1 e1 r1 => ⟨Evl.sz_of (by rw [dfa_len r1]; exact hl), fun p hp => q _ _ (Evl.Ex.trans e1 (Evl.Ex.new hp)) (Res.ofF (.lst (ex_none (s.mono e1).ex1 hp) (by
    rw [hide_not fun z => (s.mono e1).tr p z hp]
    exact upd_same) (dfa_mono (hide_mono (Evl.Ex.new hp)) _ _ r1)))⟩
theorem ev_tup {t : TA} (h : EvA K H0 .f t ss ds) (hl : ds.length ≤ 100000 := by exact Nat.le_of_ble_eq_true rfl) : Ev K H0 m (tTup t) ss (.tuple ds) := fun σ H O Q s q =>
  h σ H O _ s fun vs H1 e1 r1 => ⟨Evl.sz_of (by rw [dfa_len r1]; exact hl), fun p hp => q _ _ (Evl.Ex.trans e1 (Evl.Ex.new hp)) (Res.ofF (.tup (ex_none (s.mono e1).ex1 hp) (by
    rw [hide_not fun z => (s.mono e1).tr p z hp]
    exact upd_same) (dfa_mono (hide_mono (Evl.Ex.new hp)) _ _ r1)))⟩
/-- a display whose parts are only readable, read at once -/
theorem ev_lstR {t : TA} (h : EvA K H0 .r t ss ds) (hl : ds.length ≤ 100000 := by exact Nat.le_of_ble_eq_true rfl) : Ev K H0 .r (tLst t) ss (.list ds) := fun σ H O Q s q =>
  h σ H O _ s fun vs H1 e1 r1 => ⟨Evl.sz_of (by rw [dpa_len r1]; exact hl), fun p hp => q _ _ (Evl.Ex.trans e1 (Evl.Ex.new hp)) (Dp.lst (SqL.of upd_same) (dpa_mono (Evl.Ex.new hp) _ _ r1))⟩
theorem ev_tupR {t : TA} (h : EvA K H0 .r t ss ds) (hl : ds.length ≤ 100000 := by exact Nat.le_of_ble_eq_true rfl) : Ev K H0 .r (tTup t) ss (.tuple ds) := fun σ H O Q s q =>
  h σ H O _ s fun vs H1 e1 r1 => ⟨Evl.sz_of (by rw [dpa_len r1]; exact hl), fun p hp => q _ _ (Evl.Ex.trans e1 (Evl.Ex.new hp)) (Dp.tup (SqT.of upd_same) (dpa_mono (Evl.Ex.new hp) _ _ r1))⟩
end
end Li

namespace Li
open PySem PySem.Spec PyProof.Rows L2
/-! ### statements -/
structure Fm where
  P : Hp → Prop
  mono : ∀ {G G' : Hp}, Ex G G' → P G → P G'
def Fm.top : Fm := ⟨fun _ => True, fun _ h => h⟩
def Fm.and (Φ Ψ : Fm) : Fm := ⟨fun H => Φ.P H ∧ Ψ.P H, fun e h => ⟨Φ.mono e h.1, Ψ.mono e h.2⟩⟩
def Sta (K : PySem.W.Frag) (H0 : Hp) (Φ : Fm) (ss : List Sl) (σ : L2.St) (H : Hp) : Prop := ∃ O, StO K H0 O ss σ H ∧ Φ.P (hide O H)
def Wp (K : PySem.W.Frag) (H0 : Hp) (Φ : Fm) (t : TS) (ss : List Sl) (D : Ends) : Prop := ∀ σ H, Sta K H0 Φ ss σ H → t D σ H
def RetOk (H0 : Hp) (d : PyData) (Q : VK) : Prop := ∀ v H2, Ex H0 H2 → Df H0 H2 v d → Q v H2
def slm : Md → PyData → Sl
  | .f, d => .fr d
  | .g, d => .rd d
  | .r, _ => .no
/-- a new list, nobody else's -/
def EvN (K : PySem.W.Frag) (H0 : Hp) (te : TE) (ss : List Sl) (ds : List PyData) : Prop := ∀ (σ : L2.St) (H : Hp) (O : List Addr) (Q : VK), StO K H0 O ss σ H →
  (∀ p vs H2, Ex H H2 → H p = none → H2 p = some (.lst vs) → DfAll H0 (hide (p :: O) H2) vs ds → Q (.ref p) H2) → te σ H Q
/-- it never comes to an end -/
def Nev (K : PySem.W.Frag) (H0 : Hp) (te : TE) (ss : List Sl) : Prop := ∀ (σ : L2.St) (H : Hp) (O : List Addr) (Q : VK), StO K H0 O ss σ H → te σ H Q
theorem hide_more {O O' : List Addr} {H : Hp} (h : ∀ b ∈ O, b ∈ O') : Ex (hide O' H) (hide O H) := fun b o e => by
  unfold hide at e ⊢
  split at e
  · cases e
  · rename_i n
    rw [if_neg fun z => n (h b z)]
    exact e
theorem hide_upd {O : List Addr} {H : Hp} {p : Addr} {o : HO} (h : p ∈ O) : hide O (upd H p o) = hide O H := by
  funext b
  unfold hide
  split
  · rfl
  · rename_i n
    exact upd_ne fun z => n (z ▸ h)
theorem hide_nil {H : Hp} : hide [] H = H := by
  funext b
  unfold hide
  rw [if_neg (List.not_mem_nil)]
section
variable {K : PySem.W.Frag} {H0 : Hp} {Φ : Fm} {m : Md} {ss ss' : List Sl} {te ta tb : TE} {d : PyData} {ds es : List PyData} {D : Ends} {t u tu tw : TS} {H H2 : Hp} {O : List Addr} {σ : L2.St} {v : V} {i : Nat} {p : Addr} {vs : List V}
theorem hide_new (e : Ex H H2) (hn : H p = none) : Ex (hide O H) (hide (p :: O) H2) := fun b o q => by
  have hb : b ∉ O := fun z => by rw [hide_in z] at q; cases q
  rw [hide_not hb] at q
  rw [hide_not (fun z => by
    rcases List.mem_cons.mp z with z | z
    · rw [z, hn] at q; cases q
    · exact hb z)]
  exact e b o q
theorem Sta.go (s : StO K H0 O ss σ H) (p : Φ.P (hide O H)) (e : Ex H H2) : Sta K H0 Φ ss σ H2 := ⟨O, s.mono e, Φ.mono (hide_mono e) p⟩
theorem StO.grow (s : StO K H0 O ss σ H) (e : Ex H H2) (hn : H p = none) (hp : H2 p ≠ none) : StO K H0 (p :: O) ss σ H2 := by
  obtain ⟨⟨O', h, k⟩, ex, tr⟩ := s
  refine ⟨⟨O', h.mono (hide_new e hn) fun b hb => ex_at e (tr b (k b hb)), fun b hb => List.mem_cons_of_mem _ (k b hb)⟩, Evl.Ex.trans ex (hide_new e hn), fun b hb => ?_⟩
  rcases List.mem_cons.mp hb with z | z
  · subst z
    exact hp
  · rw [ex_at e (tr b z)]
    exact tr b z
theorem StO.put (s : StO K H0 O ss σ H) (r : Res K H0 m O H v d) : StO K H0 O (ss.set i (slm m d)) (σ.set i (some v)) H := by
  obtain ⟨⟨O', h, k⟩, ex, tr⟩ := s
  cases m with
  | f =>
    obtain ⟨O2, h2, k2⟩ := Slots.set (s := .fr d) (v := v) (fun h => .fr r h) (i := i) h
    exact ⟨⟨O2, h2, fun b hb => k _ (k2 _ hb)⟩, ex, tr⟩
  | g =>
    obtain ⟨O2, h2, k2⟩ := Slots.set (s := .rd d) (v := v) (fun h => .rd r h) (i := i) h
    exact ⟨⟨O2, h2, fun b hb => k _ (k2 _ hb)⟩, ex, tr⟩
  | r =>
    obtain ⟨O2, h2, k2⟩ := Slots.set (s := .no) (v := v) (fun h => .no h) (i := i) h
    exact ⟨⟨O2, h2, fun b hb => k _ (k2 _ hb)⟩, ex, tr⟩
theorem StO.putOw (s : StO K H0 O ss σ H) (e : Ex H H2) (hn : H p = none) (hl : H2 p = some (.lst vs)) (hd : DfAll H0 (hide (p :: O) H2) vs ds) :
    StO K H0 (p :: O) (ss.set i (.ow ds)) (σ.set i (some (.ref p))) H2 := by
  have s' := s.grow e hn (by rw [hl]; exact fun z => by cases z)
  obtain ⟨⟨O1, h1, k1⟩, _, _⟩ := s
  have s1 : Slots K H0 (hide (p :: O) H2) H2 σ ss O1 := h1.mono (hide_new e hn) fun b hb => ex_at e (by
    intro z
    rename_i ex tr
    exact tr b (k1 b hb) z)
  obtain ⟨O2, h2, k2⟩ := Slots.setOw hl hd (i := i) (by
    intro z
    rename_i ex tr
    exact tr p (k1 p z) hn) s1
  refine ⟨⟨O2, h2, fun b hb => ?_⟩, s'.ex, s'.tr⟩
  rcases List.mem_cons.mp (k2 b hb) with z | z
  · subst z
    exact List.mem_cons_self
  · exact List.mem_cons_of_mem _ (k1 b z)
theorem tg_name : Tg K H0 m (gName i) d ss (ss.set i (slm m d)) := fun σ H O v Q s r q => q _ (s.put r)
theorem q_asg (h : Ev K H0 m te ss d) (k : Wp K H0 Φ u (ss.set i (slm m d)) D) : Wp K H0 Φ (tSeq (tAsg te (gName i)) u) ss D := fun σ H ⟨O, s, p⟩ =>
  h σ H O _ s fun v H2 e r => k _ _ ⟨O, (s.mono e).put r, Φ.mono (hide_mono e) p⟩
theorem q_asgG {g : TG} (h : Ev K H0 m te ss d) (hg : Tg K H0 m g d ss ss') (k : Wp K H0 Φ u ss' D) : Wp K H0 Φ (tSeq (tAsg te g) u) ss D := fun σ H ⟨O, s, p⟩ =>
  h σ H O _ s fun v H2 e r => hg σ H2 O v _ (s.mono e) r fun σ' s' => k _ _ ⟨O, s', Φ.mono (hide_mono e) p⟩
theorem q_nev {g : TG} (h : Nev K H0 te ss) : Wp K H0 Φ (tSeq (tAsg te g) u) ss D := fun σ H ⟨O, s, p⟩ => h σ H O _ s
theorem q_nevD (h : Nev K H0 te ss) : Wp K H0 Φ (tSeq (tDrop te) u) ss D := fun σ H ⟨O, s, p⟩ => h σ H O _ s
theorem q_nevR (h : Nev K H0 te ss) : Wp K H0 Φ (tSeq (tRet te) u) ss D := fun σ H ⟨O, s, p⟩ => h σ H O _ s
theorem q_own (h : EvN K H0 te ss ds) (k : Wp K H0 Φ u (ss.set i (.ow ds)) D) : Wp K H0 Φ (tSeq (tAsg te (gName i)) u) ss D := fun σ H ⟨O, s, p⟩ =>
  h σ H O _ s fun a vs H2 e hn hl hd => k _ _ ⟨a :: O, s.putOw e hn hl hd, Φ.mono (hide_new e hn) p⟩
theorem q_drop (h : Ev K H0 m te ss d) (k : Wp K H0 Φ u ss D) : Wp K H0 Φ (tSeq (tDrop te) u) ss D := fun σ H ⟨O, s, p⟩ =>
  h σ H O _ s fun v H2 e r => k _ _ (Sta.go s p e)
theorem q_ret (h : Ev K H0 .f te ss d) {d' : PyData} (k : RetOk H0 d' D.rt) (e : d = d' := by rfl) : Wp K H0 Φ (tSeq (tRet te) u) ss D := fun σ H ⟨O, s, p⟩ =>
  h σ H O _ s fun v H2 ex r => k v H2 (Evl.Ex.trans s.ex1 ex) (e ▸ df_mono hide_le _ _ r)
theorem q_reto (h : ss[i]? = some (.ow ds)) {d' : PyData} (k : RetOk H0 d' D.rt) (e : .list ds = d' := by rfl) : Wp K H0 Φ (tSeq (tRet (tVar i)) u) ss D := fun σ H ⟨O, s, p⟩ => by
  obtain ⟨⟨O', hs, kk⟩, ex, tr⟩ := s
  obtain ⟨a, vs, h1, h2, h3, h4⟩ := hs.get_ow h
  subst e
  refine ⟨.ref a, h1, k _ H (Evl.Ex.trans ex hide_le) (.lst ?_ h3 (dfa_mono hide_le _ _ h4))⟩
  have z : hide O H a = none := hide_in (kk a h2)
  exact ex_none ex z
/-- x.append(e) -/
theorem StO.up {vs ws : List V} (s : StO K H0 O ss σ H) (hi : ss[i]? = some (.ow ds)) (hp : σ[i]? = some (some (.ref p))) (hd : DfAll H0 (hide O H) ws es) : StO K H0 O (ss.set i (.ow es)) σ (upd H p (.lst ws)) ∧ hide O (upd H p (.lst ws)) = hide O H := by
  obtain ⟨⟨O', h, k⟩, ex, tr⟩ := s
  obtain ⟨p', vs, q1, q2, q3, q4⟩ := h.get_ow hi
  have : p' = p := by
    have z := q1.symm.trans hp
    simpa using z
  subst this
  have he : hide O (upd H p' (.lst ws)) = hide O H := hide_upd (k _ q2)
  refine ⟨⟨⟨O', ?_, k⟩, by rw [he]; exact ex, fun b hb => ?_⟩, he⟩
  · rw [he]
    exact Slots.upOw hd h hi q1
  · by_cases z : b = p'
    · subst z
      rw [upd_same]
      exact fun z => by cases z
    · rw [upd_ne z]
      exact tr b hb
theorem q_app (hi : ss[i]? = some (.ow ds)) (h : Ev K H0 .f te ss d) (k : Wp K H0 Φ u (ss.set i (.ow (ds ++ [d]))) D) (hz : ds.length < 100000 := by exact Nat.le_of_ble_eq_true rfl) :
    Wp K H0 Φ (tSeq (tDrop (tBM K "list" rAppend (tVar i) (tCons te tNil))) u) ss D := fun σ H ⟨O, s, p⟩ => by
  obtain ⟨O', hs, kk⟩ := s.sl
  obtain ⟨a, vs, h1, h2, h3, h4⟩ := hs.get_ow hi
  refine ⟨.ref a, h1, .inl ⟨rfl, vs, SqL.of h3⟩, h σ H O _ s fun v H2 e r => ?_⟩
  have l2 : H2 a = some (.lst vs) := e _ _ h3
  refine ⟨a, vs, v, rfl, rfl, l2, Evl.sz_lt (by rw [dfa_len h4]; exact hz), ?_⟩
  obtain ⟨s3, e3⟩ := (s.mono e).up (vs := vs) (ws := vs ++ [v]) hi h1 (dfa_app (dfa_mono (hide_mono e) _ _ h4) (.cons r .nil))
  exact k _ _ ⟨O, s3, by rw [e3]; exact Φ.mono (hide_mono e) p⟩
theorem q_ext (hi : ss[i]? = some (.ow ds)) (h : Ev K H0 .f te ss (.list es)) (k : Wp K H0 Φ u (ss.set i (.ow (ds ++ es))) D) (hz : ds.length + es.length ≤ 100000) :
    Wp K H0 Φ (tSeq (tDrop (tBM K "list" rExtend (tVar i) (tCons te tNil))) u) ss D := fun σ H ⟨O, s, p⟩ => by
  obtain ⟨O', hs, kk⟩ := s.sl
  obtain ⟨a, vs, h1, h2, h3, h4⟩ := hs.get_ow hi
  refine ⟨.ref a, h1, .inl ⟨rfl, vs, SqL.of h3⟩, h σ H O _ s fun v H2 e r => ?_⟩
  have l2 : H2 a = some (.lst vs) := e _ _ h3
  obtain ⟨b, rfl⟩ := Res.listRef (K := K) (H0 := H0) (m := .f) (O := O) (H := H2) r
  cases r with
  | lst r0 r1 r2 =>
    refine ⟨a, b, vs, _, rfl, rfl, l2, hide_le _ _ r1, Evl.sz_of (by rw [dfa_len h4, dfa_len r2]; exact hz), ?_⟩
    obtain ⟨s3, e3⟩ := (s.mono e).up (vs := vs) (ws := vs ++ _) hi h1 (dfa_app (dfa_mono (hide_mono e) _ _ h4) r2)
    exact k _ _ ⟨O, s3, by rw [e3]; exact Φ.mono (hide_mono e) p⟩
/-- x[k] = e -/
theorem q_setix {z : Int} (j : Nat) (hi : ss[i]? = some (.ow ds)) (h : Ev K H0 .f te ss d) (hx : Ev K H0 .r tb ss (.int z)) (hj : ixN ds.length z = some j) (k : Wp K H0 Φ u (ss.set i (.ow (ds.set j d))) D) :
    Wp K H0 Φ (tSeq (tAsg te (gSub (tVar i) tb rSetL)) u) ss D := fun σ H ⟨O, s, p⟩ => by
  refine h σ H O _ s fun v H2 e r => ?_
  obtain ⟨O', hs, kk⟩ := (s.mono e).sl
  obtain ⟨a, vs, h1, h2, h3, h4⟩ := hs.get_ow hi
  refine ⟨.ref a, h1, hx σ H2 O _ (s.mono e) fun y H3 e3 r3 => ?_⟩
  cases r3
  refine ⟨a, vs, z, j, rfl, rfl, e3 _ _ h3, by rw [dfa_len h4]; exact hj, ?_⟩
  obtain ⟨s4, e4⟩ := ((s.mono e).mono e3).up (vs := vs) (ws := vs.set j v) hi h1 (dfa_set (dfa_mono (hide_mono e3) _ _ h4) (df_mono (hide_mono e3) _ _ r))
  exact k _ _ ⟨O, s4, by rw [e4]; exact Φ.mono (hide_mono (Evl.Ex.trans e e3)) p⟩
theorem q_if {c : TT} {b : Bool} (h : EvT K H0 c ss b) (h1 : b = true → Wp K H0 Φ tu ss { D with nx := u D }) (h2 : b = false → Wp K H0 Φ tw ss { D with nx := u D }) : Wp K H0 Φ (tSeq (tIfS c tu tw) u) ss D := fun σ H ⟨O, s, p⟩ =>
  h σ H O _ s fun H2 e => by
    cases b with
    | true => exact h1 rfl _ _ (Sta.go s p e)
    | false => exact h2 rfl _ _ (Sta.go s p e)
theorem q_when {c : TT} {b : Bool} (h : EvT K H0 c ss b) (h1 : b = true → Wp K H0 Φ tu ss { D with nx := u D }) (h2 : b = false → Wp K H0 Φ u ss D) : Wp K H0 Φ (tSeq (tIfS c tu tNext) u) ss D := fun σ H ⟨O, s, p⟩ =>
  h σ H O _ s fun H2 e => by
    cases b with
    | true => exact h1 rfl _ _ (Sta.go s p e)
    | false => exact h2 rfl _ _ (Sta.go s p e)
theorem q_nx (k : Wp K H0 Φ u ss D) : Wp K H0 Φ tNext ss { D with nx := u D } := k
theorem q_cut (P : Prop) (h : P) (k : P → Wp K H0 Φ u ss D) : Wp K H0 Φ u ss D := k h
/-! less known -/
inductive Le : List Sl → List Sl → Prop
  | nil : Le [] []
  | no {s : Sl} {ss ss' : List Sl} : Le ss ss' → Le (s :: ss) (.no :: ss')
  | eq {s s' : Sl} {ss ss' : List Sl} : s = s' → Le ss ss' → Le (s :: ss) (s' :: ss')
  | fr {d d' : PyData} {ss ss' : List Sl} : d = d' → Le ss ss' → Le (.fr d :: ss) (.rd d' :: ss')
  | sh {ds : List PyData} {d' : PyData} {ss ss' : List Sl} : .list ds = d' → Le ss ss' → Le (.ow ds :: ss) (.fr d' :: ss')
theorem Le.refl : ∀ {ss : List Sl}, Le ss ss
  | [] => .nil
  | _ :: _ => .eq rfl Le.refl
theorem slots_le {G : Hp} (hG0 : Ex H0 G) : ∀ {σ : L2.St} {ss ss' : List Sl} {O' : List Addr}, Slots K H0 G H σ ss O' → Le ss ss' → (∀ b ∈ O', G b = none) →
    ∃ O2, (∀ b ∈ O2, b ∈ O') ∧ ∀ G', Ex G G' → (∀ b ∈ O', b ∉ O2 → G' b = H b) → Slots K H0 G' H σ ss' O2
  | _, _, _, _, .nil, .nil, _ => ⟨[], fun _ h => h, fun _ _ _ => .nil⟩
  | _, _, _, _, .no h, .no l, n => by
    obtain ⟨O2, k1, k2⟩ := slots_le hG0 h l n
    exact ⟨O2, k1, fun G' hG q => .no (k2 G' hG q)⟩
  | _, _, _, _, .no h, .eq e l, n => by
    obtain ⟨O2, k1, k2⟩ := slots_le hG0 h l n
    subst e
    exact ⟨O2, k1, fun G' hG q => .no (k2 G' hG q)⟩
  | _, _, _, _, .rd _ h, .no l, n => by
    obtain ⟨O2, k1, k2⟩ := slots_le hG0 h l n
    exact ⟨O2, k1, fun G' hG q => .no (k2 G' hG q)⟩
  | _, _, _, _, .rd d h, .eq e l, n => by
    obtain ⟨O2, k1, k2⟩ := slots_le hG0 h l n
    subst e
    exact ⟨O2, k1, fun G' hG q => .rd (dp_mono hG _ _ d) (k2 G' hG q)⟩
  | _, _, _, _, .fr _ h, .no l, n => by
    obtain ⟨O2, k1, k2⟩ := slots_le hG0 h l n
    exact ⟨O2, k1, fun G' hG q => .no (k2 G' hG q)⟩
  | _, _, _, _, .fr d h, .eq e l, n => by
    obtain ⟨O2, k1, k2⟩ := slots_le hG0 h l n
    subst e
    exact ⟨O2, k1, fun G' hG q => .fr (df_mono hG _ _ d) (k2 G' hG q)⟩
  | _, _, _, _, .fr d h, .fr e l, n => by
    obtain ⟨O2, k1, k2⟩ := slots_le hG0 h l n
    subst e
    exact ⟨O2, k1, fun G' hG q => .rd (df_dp _ _ (df_mono hG _ _ d)) (k2 G' hG q)⟩
  | _, _, _, _, .ow hp hl hd h, .no l, n => by
    obtain ⟨O2, k1, k2⟩ := slots_le hG0 h l (fun b hb => n b (List.mem_cons_of_mem _ hb))
    exact ⟨O2, fun b hb => List.mem_cons_of_mem _ (k1 b hb), fun G' hG q => .no (k2 G' hG fun b hb hn => q b (List.mem_cons_of_mem _ hb) hn)⟩
  | _, _, _, _, .ow hp hl hd h, .eq e l, n => by
    obtain ⟨O2, k1, k2⟩ := slots_le hG0 h l (fun b hb => n b (List.mem_cons_of_mem _ hb))
    subst e
    refine ⟨_ :: O2, fun b hb => ?_, fun G' hG q => .ow (fun z => hp (k1 _ z)) hl (dfa_mono hG _ _ hd) (k2 G' hG fun b hb hn => q b (List.mem_cons_of_mem _ hb) fun z => ?_)⟩
    · rcases List.mem_cons.mp hb with z | z
      · subst z
        exact List.mem_cons_self
      · exact List.mem_cons_of_mem _ (k1 b z)
    · rcases List.mem_cons.mp z with z | z
      · subst z
        exact hp hb
      · exact hn z
  | _, _, _, _, .ow hp hl hd h, .sh e l, n => by
    obtain ⟨O2, k1, k2⟩ := slots_le hG0 h l (fun b hb => n b (List.mem_cons_of_mem _ hb))
    subst e
    refine ⟨O2, fun b hb => List.mem_cons_of_mem _ (k1 b hb), fun G' hG q => .fr (.lst ?_ ?_ (dfa_mono hG _ _ hd)) (k2 G' hG fun b hb hn => q b (List.mem_cons_of_mem _ hb) hn)⟩
    · exact ex_none hG0 (n _ List.mem_cons_self)
    · rw [q _ List.mem_cons_self fun z => hp (k1 _ z)]
      exact hl
  | _, _, _, _, .gn n q h, .no l, nn => by
    obtain ⟨O2, k1, k2⟩ := slots_le hG0 h l (fun b hb => nn b (List.mem_append_right _ hb))
    exact ⟨O2, fun b hb => List.mem_append_right _ (k1 b hb), fun G' hG q => .no (k2 G' hG fun b hb hn => q b (List.mem_append_right _ hb) hn)⟩
  | _, _, _, _, .gn (g := g) (A := A) n q0 h, .eq e l, nn => by
    obtain ⟨O2, k1, k2⟩ := slots_le hG0 h l (fun b hb => nn b (List.mem_append_right _ hb))
    subst e
    refine ⟨A ++ O2, fun b hb => ?_, fun G' hG q => .gn (fun a ha z => n a ha (k1 _ z)) (g.mono hG (fun _ _ => rfl) q0) (k2 G' hG fun b hb hn => q b (List.mem_append_right _ hb) fun z => ?_)⟩
    · rcases List.mem_append.mp hb with z | z
      · exact List.mem_append_left _ z
      · exact List.mem_append_right _ (k1 b z)
    · rcases List.mem_append.mp z with z | z
      · exact n b z hb
      · exact hn z
theorem StO.weak (s : StO K H0 O ss σ H) (l : Le ss ss') : ∃ O2, StO K H0 O2 ss' σ H ∧ Ex (hide O H) (hide O2 H) := by
  obtain ⟨⟨O', h, k⟩, ex, tr⟩ := s
  obtain ⟨O2, k1, k2⟩ := slots_le ex h l (fun b hb => hide_in (k b hb))
  have hm : Ex (hide O H) (hide (O.filter fun b => decide (b ∈ O2) || !decide (b ∈ O')) H) := hide_more fun b hb => (List.mem_filter.mp hb).1
  refine ⟨O.filter (fun b => decide (b ∈ O2) || !decide (b ∈ O')), ⟨⟨O2, k2 _ hm fun b hb hn => hide_not fun z => ?_, fun b hb => ?_⟩, Evl.Ex.trans ex hm, fun b hb => tr b (List.mem_filter.mp hb).1⟩, hm⟩
  · have q := (List.mem_filter.mp z).2
    simp [hn, hb] at q
  · exact List.mem_filter.mpr ⟨k b (k1 b hb), by simp [hb]⟩
theorem Sta.weak (s : Sta K H0 Φ ss σ H) (l : Le ss ss') : Sta K H0 Φ ss' σ H := by
  obtain ⟨O, s, p⟩ := s
  obtain ⟨O2, s2, e⟩ := s.weak l
  exact ⟨O2, s2, Φ.mono e p⟩
theorem q_weak (l : Le ss ss') (h : Wp K H0 Φ t ss' D) : Wp K H0 Φ t ss D := fun σ H s => h σ H (s.weak l)
/-- a turn's end -/
theorem q_end {P : Prop} {bk ct : L2.St → Hp → Prop} {rt : VK} (hp : P) (l : Le ss ss') : Wp K H0 Φ tNext ss { nx := fun σ H => P ∧ Sta K H0 Φ ss' σ H, rt := rt, bk := bk, ct := ct } := fun σ H s => ⟨hp, s.weak l⟩
/-! ### loops -/
/-- the items' data, an own pure word Pr of the turn -/
theorem q_for {α : Type} {wi : TI} {g : TG} {tb : TS} {l : List α} {en : α → PyData} (Iv : List α → List Sl) (Pr : List α → Prop) (sb : List α → α → List Sl) (hi : EvI K H0 m wi ss (l.map en)) (l0 : Le ss (Iv [])) (p0 : Pr [])
    (hg : ∀ pre x post, l = pre ++ x :: post → Tg K H0 m g (en x) (Iv pre) (sb pre x))
    (hb : ∀ (Φ' : Fm) pre x post, l = pre ++ x :: post → Pr pre → Wp K H0 Φ' tb (sb pre x) { D with nx := fun σ H => Pr (pre ++ [x]) ∧ Sta K H0 Φ' (Iv (pre ++ [x])) σ H, ct := fun σ H => Pr (pre ++ [x]) ∧ Sta K H0 Φ' (Iv (pre ++ [x])) σ H, bk := u D })
    (hd : Pr l → Wp K H0 Φ u (Iv l) D) : Wp K H0 Φ (tSeq (tFor wi g tb) u) ss D := fun σ H ⟨O, s, p⟩ => by
  refine hi σ H O _ s fun J H2 Ψ Y e mono hΨ w hY => ?_
  let Φ' : Fm := Φ.and ⟨Ψ, fun {G G'} e h => mono G G' e h⟩
  have s0 : Sta K H0 Φ' ss σ H2 := ⟨O, s.mono e, Φ.mono (hide_mono e) p, hΨ⟩
  have hlen : (l.map en).length = l.length := List.length_map _
  rw [hlen] at w
  refine for_it w (D := { D with nx := u D }) (fun i σ H => Pr (l.take i) ∧ Sta K H0 Φ' (Iv (l.take i)) σ H) ⟨by simpa using p0, by simpa using s0.weak l0⟩ (fun i σ' H' _ h => ?_) (fun i x σ' H' H'' hi h y => ?_) (fun σ' H' h => ?_)
  · obtain ⟨_, O', s', p'⟩ := h
    exact mono _ _ hide_le p'.2
  · obtain ⟨pr, O', s', p'⟩ := h
    have hx : l[i]? = some l[i] := List.getElem?_eq_getElem hi
    have sp : l = l.take i ++ l[i] :: l.drop (i + 1) := by
      rw [List.getElem_cons_drop, List.take_append_drop]
    have st : l.take (i + 1) = l.take i ++ [l[i]] := by
      rw [List.take_add_one, hx]
      rfl
    obtain ⟨e2, hr⟩ := hY i H' x H'' (en l[i]) y s'.ex1 (by rw [List.getElem?_map, hx]; rfl)
    have r := hr O' s'.tr p'.2
    refine hg _ _ _ sp σ' H'' O' x _ (s'.mono e2) r fun σ2 s2 => ?_
    have := hb Φ' _ _ _ sp pr σ2 H'' ⟨O', s2, Φ.mono (hide_mono e2) p'.1, mono _ _ (hide_mono e2) p'.2⟩
    rw [st]
    exact this
  · obtain ⟨pr, O', s', p'⟩ := h
    rw [List.take_length] at pr s'
    exact hd pr σ' H' ⟨O', s', p'.1⟩
/-- the same without a pure word -/
theorem q_for0 {α : Type} {wi : TI} {g : TG} {tb : TS} {l : List α} {en : α → PyData} (Iv : List α → List Sl) (sb : List α → α → List Sl) (hi : EvI K H0 m wi ss (l.map en)) (l0 : Le ss (Iv []))
    (hg : ∀ pre x post, l = pre ++ x :: post → Tg K H0 m g (en x) (Iv pre) (sb pre x))
    (hb : ∀ (Φ' : Fm) pre x post, l = pre ++ x :: post → Wp K H0 Φ' tb (sb pre x) { D with nx := fun σ H => True ∧ Sta K H0 Φ' (Iv (pre ++ [x])) σ H, ct := fun σ H => True ∧ Sta K H0 Φ' (Iv (pre ++ [x])) σ H, bk := u D })
    (hd : Wp K H0 Φ u (Iv l) D) : Wp K H0 Φ (tSeq (tFor wi g tb) u) ss D :=
  q_for Iv (fun _ => True) sb hi l0 trivial hg (fun Φ' pre x post h _ => hb Φ' pre x post h) fun _ => hd
/-- the loop's own name is a name -/
theorem q_forN {α : Type} {wi : TI} {tb : TS} {j : Nat} {l : List α} {en : α → PyData} (Iv : List α → List Sl) (hi : EvI K H0 m wi ss (l.map en)) (l0 : Le ss (Iv []))
    (hb : ∀ (Φ' : Fm) pre x post, l = pre ++ x :: post → Wp K H0 Φ' tb ((Iv pre).set j (slm m (en x))) { D with nx := fun σ H => True ∧ Sta K H0 Φ' (Iv (pre ++ [x])) σ H, ct := fun σ H => True ∧ Sta K H0 Φ' (Iv (pre ++ [x])) σ H, bk := u D })
    (hd : Wp K H0 Φ u (Iv l) D) : Wp K H0 Φ (tSeq (tFor wi (gName j) tb) u) ss D :=
  q_for0 Iv (fun pre x => (Iv pre).set j (slm m (en x))) hi l0 (fun _ _ _ _ => tg_name) hb hd
theorem q_forP {α : Type} {wi : TI} {tb : TS} {j : Nat} {l : List α} {en : α → PyData} (Iv : List α → List Sl) (Pr : List α → Prop) (hi : EvI K H0 m wi ss (l.map en)) (l0 : Le ss (Iv [])) (p0 : Pr [])
    (hb : ∀ (Φ' : Fm) pre x post, l = pre ++ x :: post → Pr pre → Wp K H0 Φ' tb ((Iv pre).set j (slm m (en x))) { D with nx := fun σ H => Pr (pre ++ [x]) ∧ Sta K H0 Φ' (Iv (pre ++ [x])) σ H, ct := fun σ H => Pr (pre ++ [x]) ∧ Sta K H0 Φ' (Iv (pre ++ [x])) σ H, bk := u D })
    (hd : Pr l → Wp K H0 Φ u (Iv l) D) : Wp K H0 Φ (tSeq (tFor wi (gName j) tb) u) ss D :=
  q_for Iv Pr (fun pre x => (Iv pre).set j (slm m (en x))) hi l0 p0 (fun _ _ _ _ => tg_name) hb hd
/-- if c: x = e; the rest shown once for either value -/
theorem q_ifset {α : Type} {en : α → PyData} {x0 : α} (x1 : α) {c : TT} {b : Bool} (h : EvT K H0 c ss b) (h1 : b = true → Ev K H0 .f te ss (en x1)) (h0 : ss[i]? = some (.fr (en x0)))
    (k : ∀ x, (b = true ∧ x = x1 ∨ b = false ∧ x = x0) → Wp K H0 Φ u (ss.set i (.fr (en x))) D) : Wp K H0 Φ (tSeq (tIfS c (tSeq (tAsg te (gName i)) tNext) tNext) u) ss D := by
  refine q_when h (fun hb => q_asg (m := .f) (h1 hb) (q_nx (k x1 (.inl ⟨hb, rfl⟩)))) (fun hb => ?_)
  have := k x0 (.inr ⟨hb, rfl⟩)
  have e : ss.set i (.fr (en x0)) = ss := by
    obtain ⟨hi, e⟩ := List.getElem?_eq_some_iff.mp h0
    rw [← e]
    exact List.set_getElem_self hi
  rw [e] at this
  exact this
end
end Li

namespace Li
open PySem PySem.Spec PyProof.Rows L2
section
variable {K : PySem.W.Frag} {H0 : Hp} {Φ : Fm} {m m' : Md} {ss ss' : List Sl} {te ta tb tl : TE} {d : PyData} {ds es : List PyData} {D : Ends} {t u tu tw : TS} {H H2 : Hp} {O : List Addr} {σ : L2.St} {v : V} {i : Nat} {p : Addr} {vs : List V}
/-! ### what is walked -/
theorem ei_listF (h : Ev K H0 .f tl ss (.list ds)) : EvI K H0 .f (iList K tl) ss ds := fun σ H O R s q =>
  h σ H O _ s fun v H2 e r => by
    cases r with
    | @lst a xs _ h0 h1 h2 =>
      have hl : xs.length = ds.length := dfa_len h2
      refine ⟨a, rfl, ⟨xs, SqL.of (hide_le _ _ h1)⟩, q (Itl K a) H2 (fun G => G a = some (.lst xs) ∧ DfAll H0 G xs ds) _ e (fun G G' eg h => ⟨eg _ _ h.1, dfa_mono eg _ _ h.2⟩) ⟨h1, h2⟩
        (hl ▸ (walk_list (K := K) (a := a) (xs := xs)).mono (fun H' (h : H' a = some (HO.lst xs) ∧ DfAll H0 H' xs ds) => SqL.of h.1) fun i H' x H'' _ _ y => y) fun i H' x H'' d y e0 hd => ?_⟩
      obtain ⟨rfl, hx⟩ := y
      refine ⟨Evl.Ex.refl _, fun O' ho hp => ?_⟩
      obtain ⟨v, q1, q2⟩ := dfa_get hp.2 hd
      rw [hx] at q1
      cases q1
      exact q2
theorem ei_listG (h : Ev K H0 .g tl ss (.list ds)) : EvI K H0 .g (iList K tl) ss ds := fun σ H O R s q =>
  h σ H O _ s fun v H2 e r => by
    cases r with
    | @lst a xs _ h1 h2 =>
      have hl : xs.length = ds.length := dpa_len h2
      refine ⟨a, rfl, ⟨xs, Evl.ex_l hide_le h1⟩, q (Itl K a) H2 (fun G => SqL K G a xs ∧ DpAll K G xs ds) _ e (fun G G' eg h => ⟨Evl.ex_l eg h.1, dpa_mono eg _ _ h.2⟩) ⟨h1, h2⟩
        (hl ▸ (walk_list (K := K) (a := a) (xs := xs)).mono (fun H' (h : SqL K H' a xs ∧ DpAll K H' xs ds) => h.1) fun i H' x H'' _ _ y => y) fun i H' x H'' d y e0 hd => ?_⟩
      obtain ⟨rfl, hx⟩ := y
      refine ⟨Evl.Ex.refl _, fun O' ho hp => ?_⟩
      obtain ⟨v, q1, q2⟩ := dpa_get hp.2 hd
      rw [hx] at q1
      cases q1
      exact q2
theorem ei_tupG (h : Ev K H0 .g tl ss (.tuple ds)) : EvI K H0 .g (iTup K tl) ss ds := fun σ H O R s q =>
  h σ H O _ s fun v H2 e r => by
    cases r with
    | @tup a xs _ h1 h2 =>
      have hl : xs.length = ds.length := dpa_len h2
      refine ⟨a, rfl, ⟨xs, Evl.ex_t hide_le h1⟩, q (Itt K a) H2 (fun G => SqT K G a xs ∧ DpAll K G xs ds) _ e (fun G G' eg h => ⟨Evl.ex_t eg h.1, dpa_mono eg _ _ h.2⟩) ⟨h1, h2⟩
        (hl ▸ (walk_tup (K := K) (a := a) (xs := xs)).mono (fun H' (h : SqT K H' a xs ∧ DpAll K H' xs ds) => h.1) fun i H' x H'' _ _ y => y) fun i H' x H'' d y e0 hd => ?_⟩
      obtain ⟨rfl, hx⟩ := y
      refine ⟨Evl.Ex.refl _, fun O' ho hp => ?_⟩
      obtain ⟨v, q1, q2⟩ := dpa_get hp.2 hd
      rw [hx] at q1
      cases q1
      exact q2
theorem ei_tupF (h : Ev K H0 .f tl ss (.tuple ds)) : EvI K H0 .f (iTup K tl) ss ds := fun σ H O R s q =>
  h σ H O _ s fun v H2 e r => by
    cases r with
    | @tup a xs _ h0 h1 h2 =>
      have hl : xs.length = ds.length := dfa_len h2
      refine ⟨a, rfl, ⟨xs, SqT.of (hide_le _ _ h1)⟩, q (Itt K a) H2 (fun G => G a = some (.tup xs) ∧ DfAll H0 G xs ds) _ e (fun G G' eg h => ⟨eg _ _ h.1, dfa_mono eg _ _ h.2⟩) ⟨h1, h2⟩
        (hl ▸ (walk_tup (K := K) (a := a) (xs := xs)).mono (fun H' (h : H' a = some (HO.tup xs) ∧ DfAll H0 H' xs ds) => SqT.of h.1) fun i H' x H'' _ _ y => y) fun i H' x H'' d y e0 hd => ?_⟩
      obtain ⟨rfl, hx⟩ := y
      refine ⟨Evl.Ex.refl _, fun O' ho hp => ?_⟩
      obtain ⟨v, q1, q2⟩ := dfa_get hp.2 hd
      rw [hx] at q1
      cases q1
      exact q2
theorem range_get {n i : Nat} {d : PyData} {en : Nat → PyData} (h : ((List.range n).map en)[i]? = some d) : d = en i := by
  rw [List.getElem?_map] at h
  cases q : (List.range n)[i]? with
  | none =>
    rw [q] at h
    cases h
  | some k =>
    rw [q] at h
    have : k = i := by
      have := List.getElem?_range (n := n) (i := i)
      by_cases hi : i < n
      · rw [List.getElem?_range hi] at q
        exact (Option.some.inj q).symm
      · rw [List.getElem?_eq_none (by simpa using Nat.le_of_not_lt hi)] at q
        cases q
    subst this
    exact (Option.some.inj h).symm
/-- range(n) -/
theorem ei_range1 {n : Int} (h : Ev K H0 .r ta ss (.int n)) (hn : -(2 ^ 62) ≤ n ∧ n < 2 ^ 62) : EvI K H0 m (iRng1 (tCons ta tNil)) ss ((List.range n.toNat).map fun (k : Nat) => .int (k : Int)) := fun σ H O R s q =>
  h σ H O _ s fun v H2 e r => by
    cases r
    refine ⟨n, rfl, hn.1, hn.2, q _ H2 (fun _ => True) _ e (fun _ _ _ h => h) trivial (by
      rw [List.length_map, List.length_range]
      exact (walk_range (lo := 0) (n := n.toNat)).mono (fun _ _ => trivial) fun i H' x H'' _ _ y => y) fun i H' x H'' d y e0 hd => ?_⟩
    obtain ⟨rfl, hx⟩ := y
    refine ⟨Evl.Ex.refl _, fun O' ho hp => ?_⟩
    have hd' := range_get hd
    subst hd'
    subst hx
    have : (0 : Int) + (i : Int) = (i : Int) := by omega
    simp only [this]
    exact Res.ofF (.int _)
/-- range(a, b) -/
theorem ei_range2 {a b : Int} (h : Ev K H0 .r ta ss (.int a)) (h' : Ev K H0 .r tb ss (.int b)) (hn : -(2 ^ 62) ≤ a ∧ a < 2 ^ 62 ∧ -(2 ^ 62) ≤ b ∧ b < 2 ^ 62) : EvI K H0 m (iRng2 (tCons ta (tCons tb tNil))) ss ((List.range (b - a).toNat).map fun (k : Nat) => .int (a + (k : Int))) := fun σ H O R s q =>
  h σ H O _ s fun v H1 e1 r1 => h' σ H1 O _ (s.mono e1) fun v H2 e2 r2 => by
    cases r1
    cases r2
    refine ⟨a, b, rfl, hn, q _ H2 (fun _ => True) _ (Evl.Ex.trans e1 e2) (fun _ _ _ h => h) trivial (by
      rw [List.length_map, List.length_range]
      exact (walk_range (lo := a) (n := (b - a).toNat)).mono (fun _ _ => trivial) fun i H' x H'' _ _ y => y) fun i H' x H'' d y e0 hd => ?_⟩
    obtain ⟨rfl, hx⟩ := y
    refine ⟨Evl.Ex.refl _, fun O' ho hp => ?_⟩
    have hd' := range_get hd
    subst hd'
    subst hx
    exact Res.ofF (.int _)
/-- reversed(range(n)), n written -/
theorem ei_revR {n : Int} (hn : 0 ≤ n ∧ n < 2 ^ 62) : EvI K H0 m (iRevR (tRg1 (tC (.int n)))) ss ((List.range n.toNat).map fun (k : Nat) => .int (n - 1 - (k : Int))) := fun σ H O R s q => by
  have hz : (n - 0).toNat = n.toNat := by omega
  refine ⟨n, rfl, by omega, by omega, by omega, hn.2, ?_⟩
  rw [hz]
  refine q _ H (fun _ => True) _ (Evl.Ex.refl H) (fun _ _ _ h => h) trivial (by
    rw [List.length_map, List.length_range]
    exact (walk_rangeC (lo := 0 + ((n.toNat : Nat) : Int) - 1) (c := -1) (n := n.toNat)).mono (fun _ _ => trivial) fun i H' x H'' _ _ y => y) fun i H' x H'' d y e0 hd => ?_
  obtain ⟨rfl, hx⟩ := y
  refine ⟨Evl.Ex.refl _, fun O' ho hp => ?_⟩
  have hd' := range_get hd
  subst hd'
  subst hx
  have e : (0 + ((n.toNat : Nat) : Int) - 1 + (i : Int) * -1) = n - 1 - (i : Int) := by omega
  simp only [e]
  exact Res.ofF (.int _)
/-- a text's signs -/
theorem ei_str {z : Str} (h : Ev K H0 .r te ss (.str z)) : EvI K H0 m (iStr te) ss (z.cps.toList.map fun c => .str ⟨#[c]⟩) := fun σ H O R s q =>
  h σ H O _ s fun v H2 e r => by
    cases r
    refine ⟨z, rfl, q _ H2 (fun _ => True) _ e (fun _ _ _ h => h) trivial (by
      rw [List.length_map, Array.length_toList]
      exact (walk_str (z := z)).mono (fun _ _ => trivial) fun i H' x H'' _ _ y => y) fun i H' x H'' d y e0 hd => ?_⟩
    obtain ⟨rfl, c, hc, hx⟩ := y
    refine ⟨Evl.Ex.refl _, fun O' ho hp => ?_⟩
    rw [List.getElem?_map, Array.getElem?_toList, hc] at hd
    cases hd
    subst hx
    exact Res.ofF (.str _)
/-- enumerate(xs) -/
theorem ei_enum {α : Type} {l : List α} {en : α → PyData} (h : Ev K H0 .g tl ss (.list (l.map en))) : EvI K H0 .g (iEnum K (tCons tl tNil)) ss (l.zipIdx.map fun x => .tuple [.int (x.2 : Int), en x.1]) := fun σ H O R s q =>
  h σ H O _ s fun v H2 e r => by
    cases r with
    | @lst a xs _ h1 h2 =>
      have hl : xs.length = l.length := by rw [dpa_len h2, List.length_map]
      refine ⟨a, xs, rfl, Evl.ex_l hide_le h1, q _ H2 (fun G => SqL K G a xs ∧ DpAll K G xs (l.map en)) _ e (fun G G' eg h => ⟨Evl.ex_l eg h.1, dpa_mono eg _ _ h.2⟩) ⟨h1, h2⟩ (by
        rw [List.length_map, List.length_zipIdx, ← hl]
        exact (walk_enum (K := K) (a := a) (xs := xs)).mono (fun H' (h : SqL K H' a xs ∧ DpAll K H' xs (l.map en)) => h.1) fun i H' x H'' _ _ y => y) fun i H' x H'' d y e0 hd => ?_⟩
      obtain ⟨T, x1, x2, rfl, nT, rfl, f1, f2⟩ := y
      refine ⟨Evl.Ex.new nT, fun O' ho hp => ?_⟩
      cases f1
      rw [List.getElem?_map, List.getElem?_zipIdx] at hd
      cases hx : l[i]? with
      | none =>
        rw [hx] at hd
        cases hd
      | some y =>
        rw [hx] at hd
        simp only [Option.map_some, Nat.zero_add] at hd
        cases hd
        obtain ⟨v, q1, q2⟩ := dpa_get hp.2 (i := i) (d := en y) (by rw [List.getElem?_map, hx]; rfl)
        have f2 : xs[i]? = some x2 := f2
        rw [f2] at q1
        cases q1
        have hT : T ∉ O' := fun z => ho _ z nT
        exact Dp.tup (SqT.of (by rw [hide_not hT]; exact upd_same)) (.cons (.int _) (.cons (dp_mono (hide_mono (Evl.Ex.new nT)) _ _ q2) .nil))
/-- zip(xs, ys) -/
theorem ei_zip {α β : Type} {l : List α} {l' : List β} {en : α → PyData} {en' : β → PyData} (h : Ev K H0 .g ta ss (.list (l.map en))) (h' : Ev K H0 .g tb ss (.list (l'.map en'))) :
    EvI K H0 .g (iZip K (tCons ta (tCons tb tNil))) ss ((l.zip l').map fun x => .tuple [en x.1, en' x.2]) := fun σ H O R s q =>
  h σ H O _ s fun v H1 e1 r1 => h' σ H1 O _ (s.mono e1) fun v' H2 e2 r2 => by
    have r1 := Res.mono (m := .g) (K := K) (H0 := H0) e2 r1
    cases r1 with
    | @lst a xs _ h1 h2 =>
    cases r2 with
    | @lst b ys _ h3 h4 =>
      have hl : xs.length = l.length := by rw [dpa_len h2, List.length_map]
      have hl' : ys.length = l'.length := by rw [dpa_len h4, List.length_map]
      refine ⟨a, b, xs, ys, rfl, Evl.ex_l hide_le h1, Evl.ex_l hide_le h3, q _ H2 (fun G => (SqL K G a xs ∧ SqL K G b ys) ∧ DpAll K G xs (l.map en) ∧ DpAll K G ys (l'.map en')) _ (Evl.Ex.trans e1 e2)
        (fun G G' eg h => ⟨⟨Evl.ex_l eg h.1.1, Evl.ex_l eg h.1.2⟩, dpa_mono eg _ _ h.2.1, dpa_mono eg _ _ h.2.2⟩) ⟨⟨h1, h3⟩, h2, h4⟩ (by
        exact (walk_zip (K := K) (a := a) (b := b) (xs := xs) (ys := ys) (n := ((l.zip l').map fun x => PyData.tuple [en x.1, en' x.2]).length) (by rw [List.length_map, List.length_zip, hl, hl'])).mono (fun H' (h : (SqL K H' a xs ∧ SqL K H' b ys) ∧ DpAll K H' xs (l.map en) ∧ DpAll K H' ys (l'.map en')) => h.1) fun i H' x H'' _ _ y => y) fun i H' x H'' d y e0 hd => ?_⟩
      obtain ⟨T, x1, x2, rfl, nT, rfl, f1, f2⟩ := y
      refine ⟨Evl.Ex.new nT, fun O' ho hp => ?_⟩
      rw [List.getElem?_map] at hd
      cases hx : (l.zip l')[i]? with
      | none =>
        rw [hx] at hd
        cases hd
      | some y =>
        rw [hx] at hd
        cases hd
        obtain ⟨hx1, hx2⟩ := List.getElem?_zip_eq_some.mp hx
        obtain ⟨v, q1, q2⟩ := dpa_get hp.2.1 (i := i) (d := en y.1) (by rw [List.getElem?_map, hx1]; rfl)
        obtain ⟨v', q3, q4⟩ := dpa_get hp.2.2 (i := i) (d := en' y.2) (by rw [List.getElem?_map, hx2]; rfl)
        have f1 : xs[i]? = some x1 := f1
        have f2 : ys[i]? = some x2 := f2
        rw [f1] at q1
        cases q1
        rw [f2] at q3
        cases q3
        have hT : T ∉ O' := fun z => ho _ z nT
        exact Dp.tup (SqT.of (by rw [hide_not hT]; exact upd_same)) (.cons (dp_mono (hide_mono (Evl.Ex.new nT)) _ _ q2) (.cons (dp_mono (hide_mono (Evl.Ex.new nT)) _ _ q4) .nil))
/-! ### a pair's target -/
theorem Res.pair {d1 d2 : PyData} {O : List Addr} {H : Hp} {v : V} (h : Res K H0 m O H v (.tuple [d1, d2])) : ∃ a x y, v = .ref a ∧ SqT K H a [x, y] ∧ Res K H0 m O H x d1 ∧ Res K H0 m O H y d2 := by
  cases m with
  | f =>
    cases h with
    | tup h0 h1 h2 =>
      cases h2 with
      | cons q1 q2 =>
        cases q2 with
        | cons q2 q3 =>
          cases q3
          exact ⟨_, _, _, rfl, SqT.of (hide_le _ _ h1), q1, q2⟩
  | g =>
    cases h with
    | tup h1 h2 =>
      cases h2 with
      | cons q1 q2 =>
        cases q2 with
        | cons q2 q3 =>
          cases q3
          exact ⟨_, _, _, rfl, Evl.ex_t hide_le h1, q1, q2⟩
  | r =>
    cases h with
    | tup h1 h2 =>
      cases h2 with
      | cons q1 q2 =>
        cases q2 with
        | cons q2 q3 =>
          cases q3
          exact ⟨_, _, _, rfl, h1, q1, q2⟩
theorem tg_pair {i j : Nat} {d1 d2 : PyData} : Tg K H0 m (gTup K 2 (gCons (gName i) (gCons (gName j) gNil))) (.tuple [d1, d2]) ss ((ss.set i (slm m d1)).set j (slm m d2)) := fun σ H O v Q s r q => by
  obtain ⟨a, x, y, rfl, h1, r1, r2⟩ := r.pair
  exact ⟨a, [x, y], rfl, h1, rfl, x, [y], rfl, y, [], rfl, rfl, q _ ((s.put r1).put r2)⟩
/-! ### comprehensions -/
def wipeS (ss : List Sl) : List Nat → List Sl
  | [] => ss
  | v :: vs => (wipeS ss vs).set v .no
theorem Slots.clear {G H : Hp} : ∀ {σ : L2.St} {ss : List Sl} {O : List Addr} {i : Nat}, Slots K H0 G H σ ss O → ∃ O', Slots K H0 G H (σ.set i none) (ss.set i .no) O' ∧ ∀ b ∈ O', b ∈ O
  | _, _, _, _, .nil => ⟨[], by simp; exact .nil, fun _ h => h⟩
  | _, _, _, 0, .no h => ⟨_, .no h, fun _ h => h⟩
  | _, _, _, 0, .rd _ h => ⟨_, .no h, fun _ h => h⟩
  | _, _, _, 0, .fr _ h => ⟨_, .no h, fun _ h => h⟩
  | _, _, _, 0, .ow _ _ _ h => ⟨_, .no h, fun _ h => List.mem_cons_of_mem _ h⟩
  | _, _, _, 0, .gn _ _ h => ⟨_, .no h, fun _ h => List.mem_append_right _ h⟩
  | _, _, _, i + 1, .no h => by
    obtain ⟨O', h', k⟩ := Slots.clear (i := i) h
    exact ⟨O', .no h', k⟩
  | _, _, _, i + 1, .rd d h => by
    obtain ⟨O', h', k⟩ := Slots.clear (i := i) h
    exact ⟨O', .rd d h', k⟩
  | _, _, _, i + 1, .fr d h => by
    obtain ⟨O', h', k⟩ := Slots.clear (i := i) h
    exact ⟨O', .fr d h', k⟩
  | _, _, _, i + 1, .gn n q h => by
    obtain ⟨O', h', k⟩ := Slots.clear (i := i) h
    exact ⟨_, .gn (fun a ha z => n a ha (k _ z)) q h', fun b hb => by
      rcases List.mem_append.mp hb with e | e
      · exact List.mem_append_left _ e
      · exact List.mem_append_right _ (k _ e)⟩
  | _, _, _, i + 1, .ow hp hl hd h => by
    obtain ⟨O', h', k⟩ := Slots.clear (i := i) h
    exact ⟨_, .ow (fun z => hp (k _ z)) hl hd h', fun b hb => by
      rcases List.mem_cons.mp hb with e | e
      · subst e
        exact List.mem_cons_self
      · exact List.mem_cons_of_mem _ (k _ e)⟩
theorem StO.wipe (s : StO K H0 O ss σ H) : ∀ vs : List Nat, StO K H0 O (wipeS ss vs) (wipe σ vs) H
  | [] => s
  | v :: vs => by
    obtain ⟨⟨O', h, k⟩, ex, tr⟩ := s.wipe vs
    obtain ⟨O2, h2, k2⟩ := h.clear (i := v)
    exact ⟨⟨O2, h2, fun b hb => k b (k2 b hb)⟩, ex, tr⟩
/-- a comprehension's target: within its own names -/
def TgW (K : PySem.W.Frag) (H0 : Hp) (vs : List Nat) (m : Md) (g : TG) (d : PyData) (ss ss' : List Sl) : Prop := ∀ (σ : L2.St) (H : Hp) (O : List Addr) (v : V) (Q : L2.St → Hp → Prop), StO K H0 O ss σ H → Res K H0 m O H v d →
  (∀ σ', StO K H0 O ss' σ' H → (∀ σ0, σ = L2.wipe σ0 vs → L2.wipe σ' vs = σ) → Q σ' H) → g v σ H Q
theorem tgw_name {j : Nat} : TgW K H0 [j] m (gName j) d ss (ss.set j (slm m d)) := fun σ H O v Q s r q => q _ (s.put r) fun σ0 e => by
  subst e
  show ((σ0.set j none).set j (some v)).set j none = σ0.set j none
  rw [List.set_set, List.set_set]
theorem tgw_pair {i j : Nat} {d1 d2 : PyData} : TgW K H0 [i, j] m (gTup K 2 (gCons (gName i) (gCons (gName j) gNil))) (.tuple [d1, d2]) ss ((ss.set i (slm m d1)).set j (slm m d2)) := fun σ H O v Q s r q => by
  obtain ⟨a, x, y, rfl, h1, r1, r2⟩ := r.pair
  refine ⟨a, [x, y], rfl, h1, rfl, x, [y], rfl, y, [], rfl, rfl, q _ ((s.put r1).put r2) fun σ0 e => ?_⟩
  subst e
  show ((((((σ0.set j none).set i none).set i (some x)).set j (some y)).set j none).set i none) = (σ0.set j none).set i none
  by_cases h : i = j
  · subst h
    simp only [List.set_set]
  · simp only [List.set_set]
    rw [List.set_comm _ _ h]
    simp only [List.set_set]
/-- the list that a comprehension makes is nobody else's -/
theorem evn_lc {α : Type} {wi : TI} {g : TG} {tt : TT} {vs : List Nat} {l : List α} {en : α → PyData} (c : α → Bool) (f : α → PyData) (sb : α → List Sl) (hi : EvI K H0 m wi ss (l.map en)) (hg : ∀ x ∈ l, TgW K H0 vs m g (en x) (wipeS ss vs) (sb x))
    (ht : ∀ x ∈ l, EvT K H0 tt (sb x) (c x)) (he : ∀ x ∈ l, c x = true → Ev K H0 .f te (sb x) (f x)) (hz : l.length ≤ 90000 := by exact Nat.le_of_ble_eq_true rfl) : EvN K H0 (tLc wi g tt te vs) ss ((l.filter c).map f) := fun σ H O Q s q => by
  refine hi σ H O _ s fun J H2 Ψ Y e mono hΨ w hY => ?_
  intro D hD
  have hlen : (l.map en).length = l.length := List.length_map _
  rw [hlen] at w
  have nD : H D = none := ex_none e hD
  have e1 : Ex H (upd H2 D (.lst [])) := Evl.Ex.trans e (Evl.Ex.new hD)
  have nO : D ∉ O := fun z => s.tr D z nD
  refine lc_it w (fun i H' => Ex H H' ∧ StO K H0 (D :: O) (wipeS ss vs) (L2.wipe σ vs) H' ∧ Ψ (hide (D :: O) H') ∧ ∃ acc, H' D = some (.lst acc) ∧ DfAll H0 (hide (D :: O) H') acc (((l.take i).filter c).map f))
    ⟨e1, (s.grow e1 nD (by rw [upd_same]; exact fun z => by cases z)).wipe vs, mono _ _ (hide_new (Evl.Ex.new hD) hD) hΨ, [], upd_same, .nil⟩ (fun i H' _ h => mono _ _ hide_le h.2.2.1) (fun i x H' H'' hi y' y => ?_) (fun H' h => ?_)
  · obtain ⟨ex, s', hp, acc, hacc, hd⟩ := y'
    have hx : l[i]? = some l[i] := List.getElem?_eq_getElem hi
    have hm : l[i] ∈ l := List.getElem_mem hi
    obtain ⟨e2, hr⟩ := hY i H' x H'' (en l[i]) y s'.ex1 (by rw [List.getElem?_map, hx]; rfl)
    have r := hr (D :: O) s'.tr hp
    refine hg _ hm (L2.wipe σ vs) H'' (D :: O) x _ (s'.mono e2) r fun σ2 s2 hw => ⟨hw σ rfl, ht _ hm σ2 H'' (D :: O) _ s2 fun H3 e3 => ?_⟩
    have st : l.take (i + 1) = l.take i ++ [l[i]] := by
      rw [List.take_add_one, hx]
      rfl
    have lacc : acc.length ≤ i := by
      rw [dfa_len hd, List.length_map]
      exact Nat.le_trans (List.length_filter_le _ _) (by rw [List.length_take]; exact Nat.min_le_left _ _)
    have e23 : Ex H' H3 := Evl.Ex.trans e2 e3
    cases hc : c l[i] with
    | false =>
      refine ⟨Evl.Ex.trans ex e23, s'.mono e23, mono _ _ (hide_mono e23) hp, acc, e23 _ _ hacc, ?_⟩
      rw [st, List.filter_append, List.filter_cons_of_neg (by simp [hc]), List.filter_nil, List.append_nil]
      exact dfa_mono (hide_mono e23) _ _ hd
    | true =>
      refine he _ hm hc σ2 H3 (D :: O) _ (s2.mono e3) fun y H4 e4 r4 => ?_
      have e24 : Ex H' H4 := Evl.Ex.trans e23 e4
      have in' : D ∈ D :: O := List.mem_cons_self
      have nn : H D = none := nD
      refine ⟨acc, e24 _ _ hacc, Evl.sz_lt (by omega), Evl.Ex.mut (Evl.Ex.trans ex e24) nD, ?_, ?_, _, upd_same, ?_⟩
      · obtain ⟨⟨O', h, k⟩, ex', tr'⟩ := s'.mono e24
        have hs0 := (s.mono (Evl.Ex.mut (Evl.Ex.trans ex e24) nD : Ex H (upd H4 D (.lst (acc ++ [y])))))
        exact (s.grow (Evl.Ex.mut (Evl.Ex.trans ex e24) nD) nD (by rw [upd_same]; exact fun z => by cases z)).wipe vs
      · rw [hide_upd in']
        exact mono _ _ (hide_mono e24) hp
      · rw [hide_upd in', st, List.filter_append, List.filter_cons_of_pos (by simp [hc]), List.filter_nil, List.map_append]
        exact dfa_app (dfa_mono (hide_mono e24) _ _ hd) (.cons r4 .nil)
  · obtain ⟨ex, s', hp, acc, hacc, hd⟩ := h
    rw [List.take_length] at hd
    exact q D acc H' ex nD hacc hd
theorem EvN.f (h : EvN K H0 te ss ds) : Ev K H0 m te ss (.list ds) := fun σ H O Q s q => h σ H O Q s fun p vs H2 e hn hl hd =>
  q _ H2 e (Res.ofF (.lst (ex_none s.ex1 hn) (by rw [hide_not fun z => s.tr p z hn]; exact hl) (dfa_mono (hide_more fun b hb => List.mem_cons_of_mem _ hb) _ _ hd)))
theorem EvN.to {ds' : List PyData} (h : EvN K H0 te ss ds) (e : ds = ds') : EvN K H0 te ss ds' := e ▸ h
theorem et_yes : EvT K H0 tYes ss true := fun σ H O Q s q => q H (Evl.Ex.refl H)
/-- without a test -/
theorem evn_lcA {α : Type} {wi : TI} {g : TG} {vs : List Nat} {l : List α} {en : α → PyData} (f : α → PyData) (sb : α → List Sl) (hi : EvI K H0 m wi ss (l.map en)) (hg : ∀ x ∈ l, TgW K H0 vs m g (en x) (wipeS ss vs) (sb x))
    (he : ∀ x ∈ l, Ev K H0 .f te (sb x) (f x)) (hz : l.length ≤ 90000 := by exact Nat.le_of_ble_eq_true rfl) : EvN K H0 (tLc wi g tYes te vs) ss (l.map f) :=
  (evn_lc (fun _ => true) f sb hi hg (fun _ _ => et_yes) (fun x hx _ => he x hx) hz).to (by rw [List.filter_eq_self.mpr fun _ _ => rfl])
/-! ### new lists -/
theorem evn_lst {t : TA} (h : EvA K H0 .f t ss ds) (hl : ds.length ≤ 100000 := by exact Nat.le_of_ble_eq_true rfl) : EvN K H0 (tLst t) ss ds := fun σ H O Q s q =>
  h σ H O _ s fun vs H1 e1 r1 => ⟨Evl.sz_of (by rw [dfa_len r1]; exact hl), fun p hp => q p vs _ (Evl.Ex.trans e1 (Evl.Ex.new hp)) (ex_none e1 hp) upd_same
    (dfa_mono (hide_new (Evl.Ex.new hp) hp) _ _ r1)⟩
mutual
theorem df_fun {H0 H : Hp} : ∀ (d d' : PyData) (v : V), Df H0 H v d → Df H0 H v d' → d = d'
  | .none, _, _, h, h' => by cases h; cases h'; rfl
  | .bool b, _, _, h, h' => by cases h; cases h'; rfl
  | .int i, _, _, h, h' => by cases h; cases h'; rfl
  | .str x, _, _, h, h' => by cases h; cases h'; rfl
  | .list ds, _, _, h, h' => by
    cases h with
    | lst _ a1 a2 =>
      cases h' with
      | lst _ b1 b2 =>
        rw [a1] at b1
        cases b1
        rw [dfa_fun ds _ _ a2 b2]
      | tup _ b1 b2 =>
        rw [a1] at b1
        cases b1
  | .tuple ds, _, _, h, h' => by
    cases h with
    | tup _ a1 a2 =>
      cases h' with
      | tup _ b1 b2 =>
        rw [a1] at b1
        cases b1
        rw [dfa_fun ds _ _ a2 b2]
      | lst _ b1 b2 =>
        rw [a1] at b1
        cases b1
  | .dict _, _, _, h, _ => by cases h
theorem dfa_fun {H0 H : Hp} : ∀ (ds ds' : List PyData) (vs : List V), DfAll H0 H vs ds → DfAll H0 H vs ds' → ds = ds'
  | [], _, _, h, h' => by cases h; cases h'; rfl
  | d :: ds, _, _, h, h' => by
    cases h with
    | cons a1 a2 =>
      cases h' with
      | cons b1 b2 => rw [df_fun d _ _ a1 b1, dfa_fun ds _ _ a2 b2]
end
mutual
theorem df_apart {H0 H : Hp} {p : Addr} {D : PyData} (hp : Df H0 H (.ref p) D) : ∀ (d : PyData) (v : V), Df H0 H v d → sizeOf d < sizeOf D → Df H0 (hide [p] H) v d
  | .none, _, h, _ => by cases h; exact .non
  | .bool b, _, h, _ => by cases h; exact .bl b
  | .int i, _, h, _ => by cases h; exact .int i
  | .str x, _, h, _ => by cases h; exact .str x
  | .list ds, v, h, z => by
    have h' := h
    cases h with
    | @lst a xs _ h0 h1 h2 =>
      have n : a ∉ [p] := fun q => by
        have e : a = p := by simpa using q
        subst e
        have := df_fun _ _ _ h' hp
        subst this
        exact Nat.lt_irrefl _ z
      exact .lst h0 (by rw [hide_not n]; exact h1) (dfa_apart hp ds _ h2 (Nat.lt_trans (by simp) z))
  | .tuple ds, v, h, z => by
    have h' := h
    cases h with
    | @tup a xs _ h0 h1 h2 =>
      have n : a ∉ [p] := fun q => by
        have e : a = p := by simpa using q
        subst e
        have := df_fun _ _ _ h' hp
        subst this
        exact Nat.lt_irrefl _ z
      exact .tup h0 (by rw [hide_not n]; exact h1) (dfa_apart hp ds _ h2 (Nat.lt_trans (by simp) z))
  | .dict _, _, h, _ => by cases h
theorem dfa_apart {H0 H : Hp} {p : Addr} {D : PyData} (hp : Df H0 H (.ref p) D) : ∀ (ds : List PyData) (vs : List V), DfAll H0 H vs ds → sizeOf ds < sizeOf D → DfAll H0 (hide [p] H) vs ds
  | [], _, h, _ => by cases h; exact .nil
  | d :: ds, _, h, z => by
    cases h with
    | cons a1 a2 =>
      have e : sizeOf (d :: ds) = 1 + sizeOf d + sizeOf ds := by simp
      exact .cons (df_apart hp d _ a1 (by omega)) (dfa_apart hp ds _ a2 (by omega))
end
theorem hide_hide {O : List Addr} {p : Addr} {H : Hp} : hide O (hide [p] H) = hide (p :: O) H := by
  funext b
  unfold hide
  by_cases h : b ∈ O
  · rw [if_pos h, if_pos (List.mem_cons_of_mem _ h)]
  · rw [if_neg h]
    by_cases h2 : b = p
    · subst h2
      rw [if_pos List.mem_cons_self, if_pos List.mem_cons_self]
    · rw [if_neg (by simpa using h2), if_neg (by simp [h, h2])]
/-- a callee's list is nobody else's -/
theorem new_of_call {H H2 : Hp} {v : V} {Q : VK} (s : StO K H0 O ss σ H) (e : Ex H H2) (h : Df H H2 v (.list ds)) (q : ∀ p vs, H p = none → H2 p = some (.lst vs) → DfAll H0 (hide (p :: O) H2) vs ds → Q (.ref p) H2) : Q v H2 := by
  have h' := h
  cases h with
  | @lst a xs _ h0 h1 h2 =>
    refine q a xs h0 h1 ?_
    have := dfa_apart h' ds xs h2 (by simp)
    rw [← hide_hide]
    exact dfa_hide s.ex1 s.tr _ _ this
end
end Li

namespace Li
open PySem PySem.Spec PyProof.Rows L2
/-! ### promises -/
inductive Xc where
  | fig | num | clash | note
  deriving DecidableEq
def spOf (K : PySem.W.Frag) (R : List PyData → PyData → Prop) : Sp := fun vs H Q _ => ∃ ds d, DpAll K H vs ds ∧ R ds d ∧ RetOk H d Q
def RaiOk (cl : Xc → Addr) (H : Hp) (c : Xc) (E : XK) : Prop := ∀ H2, Ex H H2 → E (.ref (cl c)) none H2
def EndOk (cl : Xc → Addr) (H : Hp) (Q : VK) (E : XK) : Except Xc PyData → Prop
  | .ok d => RetOk H d Q
  | .error c => RaiOk cl H c E
def spX (K : PySem.W.Frag) (cl : Xc → Addr) (R : List PyData → Except Xc PyData → Prop) : Sp := fun vs H Q E => ∃ ds r, DpAll K H vs ds ∧ R ds r ∧ EndOk cl H Q E r
/-- a def of the module that keeps a promise -/
def Cal (P : Program) (w : World) (K : PySem.W.Frag) (mg : Str → Option Value) (base : Heap) (CX : CXT) (k : Nat) (x : Str) (ps : List Str) (sp : Sp) : Prop :=
  ∃ f fd, mg x = some (.ref f) ∧ PySem.W.keepIn K (.ref f) = true ∧ Binds K fd ps [] ∧ FnOk P w K mg base CX k f fd ps sp
/-- where a def stands -/
def DefAt (K : PySem.W.Frag) (mg : Str → Option Value) (x : Str) (st : Stmt) (ps : List Str) : Prop := ∃ f fd, Fun K x x st f fd ∧ mg x = some (.ref f) ∧ Binds K fd ps []
theorem pe_cal {X : Cx} {CX : CXT} {k : Nat} {ps : List Str} {sp : Sp} {E : XK} {x : Str} {p pos : Pos} {e : Expr} {es : List Expr} {t : TA} (C : Cal X.prog X.w X.K X.mg X.base CX k x ps sp) (hr : Room k X.A) (hg : Gl X x) (hx : Passes CX X E)
    (ha : PA X (e :: es) t) (hdb : (x == ("__debug__" : Str)) = false := by decide) (he : starEach (e :: es) X.env = (false, eval e X.env) :: starEach es X.env := by rfl) (hpl : (backTo pos (starEach es X.env)).any (·.1) = false := by rfl) :
    PE X (.Call (.Name x p) (e :: es) [] pos) (tCall sp [] E t) := by
  obtain ⟨f, fd, gm, kp, bd, G⟩ := C
  exact pe_call G hr hg gm kp bd .nil hx ha hdb he hpl
theorem pe_calS {X : Cx} {CX : CXT} {k : Nat} {ps : List Str} {sp : Sp} {E : L2.St → XK} {x : Str} {p pos : Pos} {e : Expr} {es : List Expr} {t : TA} (C : Cal X.prog X.w X.K X.mg X.base CX k x ps sp) (hr : Room k X.A) (hg : Gl X x) (hx : ∀ σ, PassesAt CX X σ (E σ))
    (ha : PA X (e :: es) t) (hdb : (x == ("__debug__" : Str)) = false := by decide) (he : starEach (e :: es) X.env = (false, eval e X.env) :: starEach es X.env := by rfl) (hpl : (backTo pos (starEach es X.env)).any (·.1) = false := by rfl) :
    PE X (.Call (.Name x p) (e :: es) [] pos) (tCallS sp E t) := by
  obtain ⟨f, fd, gm, kp, bd, G⟩ := C
  exact pe_callS G hr hg gm kp bd hx ha hdb he hpl
section
variable {K : PySem.W.Frag} {H0 : Hp} {Φ : Fm} {m m' : Md} {ss ss' : List Sl} {te ta tb tl : TE} {d : PyData} {ds es : List PyData} {D : Ends} {t u tu tw : TS} {H H2 : Hp} {O : List Addr} {σ : L2.St} {v : V} {i : Nat} {p : Addr} {vs : List V} {tg : TA} {E : XK} {cl : Xc → Addr}
theorem ev_call {R : List PyData → PyData → Prop} (ha : EvA K H0 .r tg ss ds) (hR : R ds d) : Ev K H0 m (tCall (spOf K R) [] E tg) ss d := fun σ H O Q s q =>
  ha σ H O _ s fun vs H2 e r => ⟨ds, d, by rw [List.append_nil]; exact r, hR, fun v H3 e3 hd => q v H3 (Evl.Ex.trans e e3) (Res.ofCall (s.mono e) e3 hd)⟩
theorem ev_callX {R : List PyData → Except Xc PyData → Prop} (ha : EvA K H0 .r tg ss ds) (hR : R ds (.ok d)) : Ev K H0 m (tCall (spX K cl R) [] E tg) ss d := fun σ H O Q s q =>
  ha σ H O _ s fun vs H2 e r => ⟨ds, .ok d, by rw [List.append_nil]; exact r, hR, fun v H3 e3 hd => q v H3 (Evl.Ex.trans e e3) (Res.ofCall (s.mono e) e3 hd)⟩
theorem nv_callX {R : List PyData → Except Xc PyData → Prop} {c : Xc} (ha : EvA K H0 .r tg ss ds) (hR : R ds (.error c)) (hE : RaiOk cl H0 c E) : Nev K H0 (tCall (spX K cl R) [] E tg) ss := fun σ H O Q s =>
  ha σ H O _ s fun vs H2 e r => ⟨ds, .error c, by rw [List.append_nil]; exact r, hR, fun H3 e3 => hE H3 (Evl.Ex.trans s.ex1 (Evl.Ex.trans e e3))⟩
theorem evn_call {R : List PyData → PyData → Prop} (ha : EvA K H0 .r tg ss ds) (hR : R ds (.list es)) : EvN K H0 (tCall (spOf K R) [] E tg) ss es := fun σ H O Q s q =>
  ha σ H O _ s fun vs H2 e r => ⟨ds, _, by rw [List.append_nil]; exact r, hR, fun v H3 e3 hd => new_of_call (s.mono e) e3 hd fun p vs hn hl hd => q p vs H3 (Evl.Ex.trans e e3) (ex_none e hn) hl hd⟩
theorem evn_callX {R : List PyData → Except Xc PyData → Prop} (ha : EvA K H0 .r tg ss ds) (hR : R ds (.ok (.list es))) : EvN K H0 (tCall (spX K cl R) [] E tg) ss es := fun σ H O Q s q =>
  ha σ H O _ s fun vs H2 e r => ⟨ds, _, by rw [List.append_nil]; exact r, hR, fun v H3 e3 hd => new_of_call (s.mono e) e3 hd fun p vs hn hl hd => q p vs H3 (Evl.Ex.trans e e3) (ex_none e hn) hl hd⟩
/-- raise C("..") -/
def tRz (E : XK) (C : Addr) : TS := fun _ _ H => E (.ref C) none H
theorem q_raise {c : Xc} (hE : RaiOk cl H0 c E) : Wp K H0 Φ (tSeq (tRz E (cl c)) u) ss D := fun σ H ⟨O, s, p⟩ => hE H s.ex1
theorem ps_rz {X : Cx} {E : XK} {C : Addr} {bmB : List Value} {B newId initId : String} {x m : Str} {j : Nat} {p p2 pos pos2 : Pos} (hc : X.calm = true) (tk : Takes X (fun cls d _ H => E cls d H)) (F : ExcBaseFacts B newId initId bmB) (q : PySem.W.excIn X.K C bmB newId = true) (gC : X.mg x = some (.ref C))
    (kC : PySem.W.keepIn X.K (.ref C) = true) (r : Raises X (.ref C)) (hg : Gl X x) (hdb : (x == ("__debug__" : Str)) = false := by decide) :
    PS X (.Raise (some (.Call (.Name x p) [.Constant (.str m) j p2] [] pos)) none pos2) (tRz E C) := ps_raise hc tk (pmk_own F q gC kC r hg hdb)
end
/-- the names at the entry -/
def startS (N : List Str) (ds : List PyData) : List Sl := ds.map Sl.rd ++ List.replicate (N.length - ds.length) .no
theorem slots_no {K : PySem.W.Frag} {H0 G H : Hp} : ∀ n : Nat, Slots K H0 G H (List.replicate n none) (List.replicate n .no) []
  | 0 => .nil
  | n + 1 => .no (slots_no n)
theorem slots_rd {K : PySem.W.Frag} {H0 G H : Hp} {σ : L2.St} {ss : List Sl} {O : List Addr} (k : Slots K H0 G H σ ss O) : ∀ (ds : List PyData) (vs : List V), DpAll K G vs ds → Slots K H0 G H (vs.map some ++ σ) (ds.map Sl.rd ++ ss) O
  | [], _, h => by cases h; exact k
  | d :: ds, _, h => by
    cases h with
    | cons h1 h2 => exact .rd h1 (slots_rd k ds _ h2)
theorem sta_start {K : PySem.W.Frag} {H : Hp} {N : List Str} {vs : List V} {ds : List PyData} (h : DpAll K H vs ds) : Sta K H Fm.top (startS N ds) (L2.start N vs) H := by
  refine ⟨[], ⟨⟨[], ?_, fun _ h => h⟩, by rw [hide_nil]; exact Evl.Ex.refl H, fun b hb => absurd hb List.not_mem_nil⟩, trivial⟩
  unfold startS L2.start
  rw [dpa_len h, hide_nil]
  exact slots_rd (slots_no _) ds vs h
section
variable {P : Program} {w : World} {K : PySem.W.Frag} {mg : Str → Option Value} {base : Heap} {x : Str} {st : Stmt} {N ps : List Str} {k : Nat}
/-- THE RULE for a def that raises nothing -/
theorem fn_okE {f : Addr} {fd : FuncData} {R : List PyData → PyData → Prop} (F : Fun K x x st f fd) (S : FnScope N ps (defScope st)) (hlen : ∀ ds d, R ds d → ds.length = ps.length)
    (hb : ∀ (f : Addr) (cdv : Value) (A : Around) (outer : List Env) (s : Shared) (H : Hp) (E : XK), Room k (A.deeper (envOfC x (defScope st) s.heap.objs.size f cdv)) →
      ∃ t, PSs (cxOf CX0 P w K mg base N x (defScope st) f cdv A outer s H E).nox (defBody st) t ∧ ∀ ds d, R ds d → ∀ D, RetOk H d D.rt → Wp K H Fm.top t (startS N ds) D) :
    FnOk P w K mg base CX0 (k + 1) f fd ps (spOf K R) := by
  refine F.ok S (fun vs H Q E h => ?_) (fun cdv A outer s H vs Q E hr h => ?_)
  · obtain ⟨ds, d, h1, h2, _⟩ := h
    rw [dpa_len h1]
    exact hlen ds d h2
  · obtain ⟨ds, d, h1, h2, h3⟩ := h
    obtain ⟨t, p1, p2⟩ := hb f cdv A outer s H E hr
    exact ⟨t, p1, p2 ds d h2 _ h3 _ _ (sta_start h1)⟩
theorem cal_ok {R : List PyData → PyData → Prop} (F : DefAt K mg x st ps) (S : FnScope N ps (defScope st)) (hlen : ∀ ds d, R ds d → ds.length = ps.length)
    (hb : ∀ (f : Addr) (cdv : Value) (A : Around) (outer : List Env) (s : Shared) (H : Hp) (E : XK), Room k (A.deeper (envOfC x (defScope st) s.heap.objs.size f cdv)) →
      ∃ t, PSs (cxOf CX0 P w K mg base N x (defScope st) f cdv A outer s H E).nox (defBody st) t ∧ ∀ ds d, R ds d → ∀ D, RetOk H d D.rt → Wp K H Fm.top t (startS N ds) D) :
    Cal P w K mg base CX0 (k + 1) x ps (spOf K R) := by
  obtain ⟨f, fd, F, gm, bd⟩ := F
  exact ⟨f, fd, gm, F.kp, bd, fn_okE F S hlen hb⟩
/-- .. that may raise -/
theorem cal_okX {cl : Xc → Addr} {R : List PyData → Except Xc PyData → Prop} (F : DefAt K mg x st ps) (S : FnScope N ps (defScope st)) (hlen : ∀ ds d, R ds d → ds.length = ps.length)
    (hb : ∀ (f : Addr) (cdv : Value) (A : Around) (outer : List Env) (s : Shared) (H : Hp) (E : XK), Room k (A.deeper (envOfC x (defScope st) s.heap.objs.size f cdv)) →
      ∃ t, PSs (cxOf (L2.CX P w) P w K mg base N x (defScope st) f cdv A outer s H E) (defBody st) t ∧ ∀ ds r, R ds r → ∀ D, EndOk cl H D.rt E r → Wp K H Fm.top t (startS N ds) D) :
    Cal P w K mg base (L2.CX P w) (k + 1) x ps (spX K cl R) := by
  obtain ⟨f, fd, F, gm, bd⟩ := F
  refine ⟨f, fd, gm, F.kp, bd, F.okX S (fun vs H Q E h => ?_) (fun cdv A outer s H vs Q E hr h => ?_)⟩
  · obtain ⟨ds, d, h1, h2, _⟩ := h
    rw [dpa_len h1]
    exact hlen ds d h2
  · obtain ⟨ds, d, h1, h2, h3⟩ := h
    obtain ⟨t, p1, p2⟩ := hb f cdv A outer s H E hr
    exact ⟨t, p1, p2 ds d h2 { nx := _, rt := Q } h3 _ _ (sta_start h1)⟩
theorem Cal.up {CX : CXT} {j : Nat} {sp : Sp} (C : Cal P w K mg base CX j x ps sp) (h : j ≤ k) : Cal P w K mg base CX k x ps sp := by
  obtain ⟨f, fd, h1, h2, h3, h4⟩ := C
  exact ⟨f, fd, h1, h2, h3, h4.mono h⟩
/-- the law's end -/
theorem defAt_mk {f : Addr} {oc : Value} {od an : Option Addr} {osl : Array (Option Value)} {kV doc pm cdv ct : Value} (gm : mg x = some (.ref f)) (l : K.lookup f = some ⟨oc, od, .func (PySem.W.fnOf x x (defArgs st) (defBody st) (defScope st) .none kV doc pm an cdv ct), osl⟩)
    (c : PySem.W.codeIn K cdv x = true) (kp : PySem.W.keepIn K (.ref f) = true)
    (h : ∀ (kV doc pm : Value) (an : Option Addr) (cdv ct : Value) (us : List Value), us.length = ps.length → bindArgs (PySem.W.fnOf x x (defArgs st) (defBody st) (defScope st) .none kV doc pm an cdv ct) ⟨us, []⟩ = pure (ps.zip us)) : DefAt K mg x st ps :=
  ⟨f, _, fun_mk l c kp, gm, (fun_mk l c kp).binds h⟩
end
end Li

namespace Li
open PySem PySem.Spec PyProof.Rows L2
section
variable {K : PySem.W.Frag} {H0 : Hp} {Φ : Fm} {m m' : Md} {ss ss' : List Sl} {te ta tb tl : TE} {d : PyData} {ds es : List PyData} {D : Ends} {t u tu tw : TS} {H H2 : Hp} {O : List Addr} {σ : L2.St} {v : V} {i : Nat} {p : Addr} {vs : List V} {tg : TA} {E : XK} {cl : Xc → Addr}
/-- a built-in's call on readable arguments -/
theorem ev_cb {r : List V → Hp → VK → Prop} (ha : EvA K H0 m tg ss ds)
    (hr : ∀ (σ : L2.St) (H : Hp) (O : List Addr) (vs : List V) (Q : VK), StO K H0 O ss σ H → ResA K H0 m O H vs ds → (∀ v H2, Ex H H2 → Res K H0 m' O H2 v d → Q v H2) → r vs H Q) : Ev K H0 m' (tCB r tg) ss d := fun σ H O Q s q =>
  ha σ H O _ s fun vs H1 e1 r1 => hr σ H1 O vs Q (s.mono e1) r1 fun v H2 e2 r2 => q v H2 (Evl.Ex.trans e1 e2) r2
theorem dpa1 {K : PySem.W.Frag} {H : Hp} {vs : List V} {d : PyData} (h : DpAll K H vs [d]) : ∃ v, vs = [v] ∧ Dp K H v d := by
  cases h with
  | cons h1 h2 =>
    cases h2
    exact ⟨_, rfl, h1⟩
theorem dpa2 {K : PySem.W.Frag} {H : Hp} {vs : List V} {d d' : PyData} (h : DpAll K H vs [d, d']) : ∃ v v', vs = [v, v'] ∧ Dp K H v d ∧ Dp K H v' d' := by
  cases h with
  | cons h1 h2 =>
    cases h2 with
    | cons h2 h3 =>
      cases h3
      exact ⟨_, _, rfl, h1, h2⟩
theorem ev_len (ha : Ev K H0 .r ta ss (.list ds)) : Ev K H0 m (tCB (fun xs H Q => ∃ p ys, xs = [.ref p] ∧ (SqL K H p ys ∨ SqT K H p ys) ∧ Q (.int ys.length) H) (tCons ta tNil)) ss (.int (ds.length : Int)) :=
  ev_cb (ea_cons ha ea_nil) fun σ H O vs Q s r q => by
    obtain ⟨v, rfl, h⟩ := dpa1 r
    cases h with
    | lst h1 h2 =>
      refine ⟨_, _, rfl, .inl h1, ?_⟩
      rw [dpa_len h2]
      exact q _ H (Evl.Ex.refl H) (Res.ofF (.int _))
theorem ev_lenT (ha : Ev K H0 .r ta ss (.tuple ds)) : Ev K H0 m (tCB (fun xs H Q => ∃ p ys, xs = [.ref p] ∧ (SqL K H p ys ∨ SqT K H p ys) ∧ Q (.int ys.length) H) (tCons ta tNil)) ss (.int (ds.length : Int)) :=
  ev_cb (ea_cons ha ea_nil) fun σ H O vs Q s r q => by
    obtain ⟨v, rfl, h⟩ := dpa1 r
    cases h with
    | tup h1 h2 =>
      refine ⟨_, _, rfl, .inr h1, ?_⟩
      rw [dpa_len h2]
      exact q _ H (Evl.Ex.refl H) (Res.ofF (.int _))
theorem ev_lenS {z : Str} (ha : Ev K H0 .r ta ss (.str z)) (hz : z.length ≤ sizeLine) : Ev K H0 m (tCB (fun xs H Q => ∃ z, xs = [.str z] ∧ z.length ≤ sizeLine ∧ Q (.int z.length) H) (tCons ta tNil)) ss (.int (z.length : Int)) :=
  ev_cb (ea_cons ha ea_nil) fun σ H O vs Q s r q => by
    obtain ⟨v, rfl, h⟩ := dpa1 r
    cases h
    exact ⟨z, rfl, hz, q _ H (Evl.Ex.refl H) (Res.ofF (.int _))⟩
/-- str(n) -/
theorem ev_strI {n : Int} (ha : Ev K H0 .r ta ss (.int n)) (hn : n.natAbs.log2 < 1920) : Ev K H0 m (tCB (fun xs H Q => ∃ i, xs = [.int i] ∧ i.natAbs.log2 < 1920 ∧ Q (.str (toString i)) H) (tCons ta tNil)) ss (.str (toString n)) :=
  ev_cb (ea_cons ha ea_nil) fun σ H O vs Q s r q => by
    obtain ⟨v, rfl, h⟩ := dpa1 r
    cases h
    exact ⟨n, rfl, hn, q _ H (Evl.Ex.refl H) (Res.ofF (.str _))⟩
/-- int(flag) -/
theorem ev_intB {b : Bool} (ha : Ev K H0 .r ta ss (.bool b)) : Ev K H0 m (tCB (fun xs H Q => (∃ i, xs = [.int i] ∧ Q (.int i) H) ∨ ∃ k, xs = [.bl k] ∧ Q (.int (if k then 1 else 0)) H) (tCons ta tNil)) ss (.int (if b then 1 else 0)) :=
  ev_cb (ea_cons ha ea_nil) fun σ H O vs Q s r q => by
    obtain ⟨v, rfl, h⟩ := dpa1 r
    cases h
    exact .inr ⟨b, rfl, q _ H (Evl.Ex.refl H) (Res.ofF (.int _))⟩
/-- s in t -/
theorem ev_inS {x y : Str} (ha : Ev K H0 .r ta ss (.str x)) (hb : Ev K H0 .r tb ss (.str y)) : Ev K H0 m (tOp (fun x y H Q => ∃ i j, x = .str i ∧ y = .str j ∧ Q (.bl (!(Builtin.Str.occurrences j i 0 j.length 1).isEmpty)) H) ta tb) ss (.bool (!(Builtin.Str.occurrences y x 0 y.length 1).isEmpty)) :=
  ev_op ha hb fun σ H O x' y' Q s hx hy q => by
    cases hx
    cases hy
    exact ⟨x, y, rfl, rfl, q _ H (Evl.Ex.refl H) (Res.ofF (.bl _))⟩
/-! in, not in: ints, texts -/
theorem inV_int (i : Int) : ∀ ns : List Int, inV (.int i) (ns.map .int) = decide (i ∈ ns)
  | [] => by simp [inV]
  | n :: ns => by
    have ih := inV_int i ns
    unfold inV at ih ⊢
    rw [List.map_cons, List.any_cons, ih]
    show ((n == i) || _) = _
    by_cases h : i = n
    · subst h
      simp
    · have : ¬ n = i := fun z => h z.symm
      simp [h, this]
theorem inV_str (i : Str) : ∀ ns : List Str, inV (.str i) (ns.map .str) = decide (i ∈ ns)
  | [] => by simp [inV]
  | n :: ns => by
    have ih := inV_str i ns
    unfold inV at ih ⊢
    rw [List.map_cons, List.any_cons, ih]
    show ((n == i) || _) = _
    by_cases h : i = n
    · subst h
      simp
    · have : ¬ n = i := fun z => h z.symm
      simp [h, this]
theorem flat_ints : ∀ ns : List Int, (ns.map V.int).all flatV = true
  | [] => rfl
  | _ :: ns => flat_ints ns
theorem flat_strs : ∀ ns : List Str, (ns.map V.str).all flatV = true
  | [] => rfl
  | _ :: ns => flat_strs ns
theorem ev_inI {n : Int} {ns : List Int} (ha : Ev K H0 .r ta ss (.int n)) (hb : Ev K H0 .r tb ss (.list (ns.map .int))) : Ev K H0 m (tOp (rIn K false) ta tb) ss (.bool (decide (n ∈ ns))) :=
  ev_op ha hb fun σ H O x y Q s hx hy q => by
    cases hx
    cases hy with
    | lst h1 h2 =>
      refine ⟨_, _, rfl, .inl h1, rfl, ?_, ?_⟩
      · rw [dpa_ints h2]
        exact flat_ints ns
      · rw [dpa_ints h2, inV_int]
        exact q _ H (Evl.Ex.refl H) (Res.ofF (.bl _))
theorem ev_ninI {n : Int} {ns : List Int} (ha : Ev K H0 .r ta ss (.int n)) (hb : Ev K H0 .r tb ss (.list (ns.map .int))) : Ev K H0 m (tOp (rIn K true) ta tb) ss (.bool (!decide (n ∈ ns))) :=
  ev_op ha hb fun σ H O x y Q s hx hy q => by
    cases hx
    cases hy with
    | lst h1 h2 =>
      refine ⟨_, _, rfl, .inl h1, rfl, ?_, ?_⟩
      · rw [dpa_ints h2]
        exact flat_ints ns
      · rw [dpa_ints h2, inV_int]
        exact q _ H (Evl.Ex.refl H) (Res.ofF (.bl _))
theorem ev_inL {n : Str} {ns : List Str} (ha : Ev K H0 .r ta ss (.str n)) (hb : Ev K H0 .r tb ss (.list (ns.map .str))) : Ev K H0 m (tOp (rIn K false) ta tb) ss (.bool (decide (n ∈ ns))) :=
  ev_op ha hb fun σ H O x y Q s hx hy q => by
    cases hx
    cases hy with
    | lst h1 h2 =>
      refine ⟨_, _, rfl, .inl h1, rfl, ?_, ?_⟩
      · rw [dpa_strs h2]
        exact flat_strs ns
      · rw [dpa_strs h2, inV_str]
        exact q _ H (Evl.Ex.refl H) (Res.ofF (.bl _))
theorem ev_ninL {n : Str} {ns : List Str} (ha : Ev K H0 .r ta ss (.str n)) (hb : Ev K H0 .r tb ss (.list (ns.map .str))) : Ev K H0 m (tOp (rIn K true) ta tb) ss (.bool (!decide (n ∈ ns))) :=
  ev_op ha hb fun σ H O x y Q s hx hy q => by
    cases hx
    cases hy with
    | lst h1 h2 =>
      refine ⟨_, _, rfl, .inl h1, rfl, ?_, ?_⟩
      · rw [dpa_strs h2]
        exact flat_strs ns
      · rw [dpa_strs h2, inV_str]
        exact q _ H (Evl.Ex.refl H) (Res.ofF (.bl _))
theorem ev_ninT {n : Str} {ns : List Str} (ha : Ev K H0 .r ta ss (.str n)) (hb : Ev K H0 .r tb ss (.tuple (ns.map .str))) : Ev K H0 m (tOp (rIn K true) ta tb) ss (.bool (!decide (n ∈ ns))) :=
  ev_op ha hb fun σ H O x y Q s hx hy q => by
    cases hx
    cases hy with
    | tup h1 h2 =>
      refine ⟨_, _, rfl, .inr h1, rfl, ?_, ?_⟩
      · rw [dpa_strs h2]
        exact flat_strs ns
      · rw [dpa_strs h2, inV_str]
        exact q _ H (Evl.Ex.refl H) (Res.ofF (.bl _))
/-! a module's constant -/
theorem ev_const {v : V} (h : ∀ H, Dp K H v d) (k : okm m d = true := by rfl) : Ev K H0 m (tC v) ss d := fun σ H O Q s q => q v H (Evl.Ex.refl H) (Res.ofG k (h _))
/-! list(x) -/
theorem dpa_scal {K : PySem.W.Frag} {H H0 G : Hp} : ∀ {ds : List PyData} {vs : List V}, ds.all scalD = true → DpAll K H vs ds → DfAll H0 G vs ds
  | [], _, _, h => by cases h; exact .nil
  | d :: ds, _, k, h => by
    cases h with
    | cons h1 h2 =>
      rw [List.all_cons, Bool.and_eq_true] at k
      exact .cons (df_scal k.1 h1) (dpa_scal k.2 h2)
abbrev rList (K : PySem.W.Frag) : List V → Hp → VK → Prop := fun xs H Q => ∃ p ys, xs = [.ref p] ∧ (SqL K H p ys ∨ SqT K H p ys) ∧ ∀ l, H l = none → Q (.ref l) (upd H l (.lst ys))
theorem evn_listF (ha : Ev K H0 .f ta ss (.list ds)) : EvN K H0 (tCB (rList K) (tCons ta tNil)) ss ds := fun σ H O Q s q =>
  ha σ H O _ s fun v H1 e1 r1 => by
    cases r1 with
    | @lst a ys _ h0 h1 h2 => exact ⟨a, ys, rfl, .inl (SqL.of (hide_le _ _ h1)), fun l hl => q l ys _ (Evl.Ex.trans e1 (Evl.Ex.new hl)) (ex_none e1 hl) upd_same (dfa_mono (hide_new (Evl.Ex.new hl) hl) _ _ h2)⟩
theorem evn_listS (ha : Ev K H0 .r ta ss (.list ds)) (hk : ds.all scalD = true) : EvN K H0 (tCB (rList K) (tCons ta tNil)) ss ds := fun σ H O Q s q =>
  ha σ H O _ s fun v H1 e1 r1 => by
    cases r1 with
    | @lst a ys _ h1 h2 => exact ⟨a, ys, rfl, .inl h1, fun l hl => q l ys _ (Evl.Ex.trans e1 (Evl.Ex.new hl)) (ex_none e1 hl) upd_same (dfa_mono (hide_new (Evl.Ex.new hl) hl) _ _ (dpa_scal hk h2))⟩
/-- list(x), x a list of one's own -/
theorem evn_listO {i : Nat} (h : ss[i]? = some (.ow ds)) : EvN K H0 (tCB (rList K) (tCons (tVar i) tNil)) ss ds := fun σ H O Q s q => by
  obtain ⟨O', hs, kk⟩ := s.sl
  obtain ⟨a, vs, h1, h2, h3, h4⟩ := hs.get_ow h
  exact ⟨.ref a, h1, a, vs, rfl, .inl (SqL.of h3), fun l hl => q l vs _ (Evl.Ex.new hl) hl upd_same (dfa_mono (hide_new (Evl.Ex.new hl) hl) _ _ h4)⟩
/-! slices, list + list -/
theorem cut_dpa {K : PySem.W.Frag} {H : Hp} : ∀ (a b : Nat) {ds : List PyData} {vs : List V}, DpAll K H vs ds → DpAll K H ((vs.drop a).take b) ((ds.drop a).take b)
  | 0, 0, _, _, h => .nil
  | 0, _ + 1, [], _, h => by cases h; exact .nil
  | 0, b + 1, d :: ds, _, h => by
    cases h with
    | cons h1 h2 => exact .cons h1 (cut_dpa 0 b h2)
  | a + 1, b, [], _, h => by cases h; simp; exact .nil
  | a + 1, b, d :: ds, _, h => by
    cases h with
    | cons h1 h2 => exact cut_dpa a b h2
theorem cut_dfa {H0 H : Hp} : ∀ (a b : Nat) {ds : List PyData} {vs : List V}, DfAll H0 H vs ds → DfAll H0 H ((vs.drop a).take b) ((ds.drop a).take b)
  | 0, 0, _, _, h => .nil
  | 0, _ + 1, [], _, h => by cases h; exact .nil
  | 0, b + 1, d :: ds, _, h => by
    cases h with
    | cons h1 h2 => exact .cons h1 (cut_dfa 0 b h2)
  | a + 1, b, [], _, h => by cases h; simp; exact .nil
  | a + 1, b, d :: ds, _, h => by
    cases h with
    | cons h1 h2 => exact cut_dfa a b h2
theorem eo_none : EvO K H0 tNoPart ss none := fun σ H O Q s q => q H (Evl.Ex.refl H)
theorem eo_some {n : Int} (h : Ev K H0 .r te ss (.int n)) : EvO K H0 (tPart te) ss (some n) := fun σ H O Q s q => h σ H O _ s fun v H2 e r => by
  cases r
  exact ⟨n, rfl, q H2 e⟩
def cutD (ds : List PyData) (lo hi : Option Int) : List PyData := (ds.drop (HT.sIx ds.length 0 lo)).take (HT.sIx ds.length ds.length hi - HT.sIx ds.length 0 lo)
/-- xs[a:b], read at once -/
theorem ev_slR {to th : TO} {lo hi : Option Int} (ha : Ev K H0 .r ta ss (.list ds)) (h1 : EvO K H0 to ss lo) (h2 : EvO K H0 th ss hi) : Ev K H0 .r (tSl (rSlL K) ta to th) ss (.list (cutD ds lo hi)) := fun σ H O Q s q =>
  ha σ H O _ s fun v H1 e1 r1 => h1 σ H1 O _ (s.mono e1) fun H2 e2 => h2 σ H2 O _ ((s.mono e1).mono e2) fun H3 e3 => by
    cases r1 with
    | @lst a xs _ g1 g2 =>
      have e13 := Evl.Ex.trans e2 e3
      refine ⟨a, xs, rfl, Evl.ex_l e13 g1, fun l hl => q _ _ (Evl.Ex.trans (Evl.Ex.trans e1 e13) (Evl.Ex.new hl)) (Dp.lst (SqL.of upd_same) ?_)⟩
      unfold cutV cutD
      rw [dpa_len g2]
      exact cut_dpa _ _ (dpa_mono (Evl.Ex.trans e13 (Evl.Ex.new hl)) _ _ g2)
/-- a new list of fresh parts -/
theorem evn_slF {to th : TO} {lo hi : Option Int} (ha : Ev K H0 .f ta ss (.list ds)) (h1 : EvO K H0 to ss lo) (h2 : EvO K H0 th ss hi) : EvN K H0 (tSl (rSlL K) ta to th) ss (cutD ds lo hi) := fun σ H O Q s q =>
  ha σ H O _ s fun v H1 e1 r1 => h1 σ H1 O _ (s.mono e1) fun H2 e2 => h2 σ H2 O _ ((s.mono e1).mono e2) fun H3 e3 => by
    cases r1 with
    | @lst a xs _ g0 g1 g2 =>
      have e13 := Evl.Ex.trans e2 e3
      refine ⟨a, xs, rfl, SqL.of (e13 _ _ (hide_le _ _ g1)), fun l hl => q l _ _ (Evl.Ex.trans (Evl.Ex.trans e1 e13) (Evl.Ex.new hl)) (ex_none (Evl.Ex.trans e1 e13) hl) upd_same ?_⟩
      unfold cutV cutD
      rw [dfa_len g2]
      exact cut_dfa _ _ (dfa_mono (Evl.Ex.trans (hide_mono e13) (hide_new (Evl.Ex.new hl) hl)) _ _ g2)
theorem all_cut {ds : List PyData} {a b : Nat} (h : ds.all scalD = true) : ((ds.drop a).take b).all scalD = true := by
  rw [List.all_eq_true] at h ⊢
  exact fun x hx => h x (List.mem_of_mem_drop (List.mem_of_mem_take hx))
theorem evn_slS {to th : TO} {lo hi : Option Int} (ha : Ev K H0 .r ta ss (.list ds)) (h1 : EvO K H0 to ss lo) (h2 : EvO K H0 th ss hi) (hk : ds.all scalD = true) : EvN K H0 (tSl (rSlL K) ta to th) ss (cutD ds lo hi) := fun σ H O Q s q =>
  ha σ H O _ s fun v H1 e1 r1 => h1 σ H1 O _ (s.mono e1) fun H2 e2 => h2 σ H2 O _ ((s.mono e1).mono e2) fun H3 e3 => by
    cases r1 with
    | @lst a xs _ g1 g2 =>
      have e13 := Evl.Ex.trans e2 e3
      refine ⟨a, xs, rfl, Evl.ex_l e13 g1, fun l hl => q l _ _ (Evl.Ex.trans (Evl.Ex.trans e1 e13) (Evl.Ex.new hl)) (ex_none (Evl.Ex.trans e1 e13) hl) upd_same ?_⟩
      unfold cutV cutD
      rw [dpa_len g2]
      exact cut_dfa _ _ (dpa_scal hk g2)
theorem cut_first (ds : List PyData) (j : Nat) (h : j ≤ ds.length) : cutD ds none (some (j : Int)) = ds.take j := by
  unfold cutD
  rw [HT.sIx_none, HT.sIx_nat, Nat.min_eq_left h]
  simp
theorem cut_last (ds : List PyData) (j : Nat) (h : j ≤ ds.length) : cutD ds (some (j : Int)) none = ds.drop j := by
  unfold cutD
  rw [HT.sIx_none, HT.sIx_nat, Nat.min_eq_left h, List.take_of_length_le (by simp)]
/-- list + list, both new -/
theorem evn_cat (ha : Ev K H0 .f ta ss (.list ds)) (hb : Ev K H0 .f tb ss (.list es)) (hz : ds.length + es.length ≤ 100000) : EvN K H0 (tOp rCat ta tb) ss (ds ++ es) := fun σ H O Q s q =>
  ha σ H O _ s fun v H1 e1 r1 => hb σ H1 O _ (s.mono e1) fun y H2 e2 r2 => by
    have r1 := Res.mono (m := .f) (K := K) (H0 := H0) e2 r1
    cases r1 with
    | @lst a xs _ h0 h1 h2 =>
      cases r2 with
      | @lst b ys _ g0 g1 g2 =>
        exact ⟨a, b, xs, ys, rfl, rfl, hide_le _ _ h1, hide_le _ _ g1, Evl.sz_of (by rw [dfa_len h2, dfa_len g2]; exact hz), fun l hl => q l _ _ (Evl.Ex.trans (Evl.Ex.trans e1 e2) (Evl.Ex.new hl)) (ex_none (Evl.Ex.trans e1 e2) hl) upd_same
          (dfa_mono (hide_new (Evl.Ex.new hl) hl) _ _ (dfa_app h2 g2))⟩
/-! sum, all, max -/
theorem ev_sum {ns : List Int} (ha : Ev K H0 .r ta ss (.list (ns.map .int))) : Ev K H0 m (tCB (rSum K) (tCons ta tNil)) ss (.int ns.sum) :=
  ev_cb (ea_cons ha ea_nil) fun σ H O vs Q s r q => by
    obtain ⟨v, rfl, h⟩ := dpa1 r
    cases h with
    | lst h1 h2 => exact ⟨_, ns, rfl, dpa_ints h2 ▸ h1, q _ H (Evl.Ex.refl H) (Res.ofF (.int _))⟩
theorem ev_all {bs : List Bool} (ha : Ev K H0 .r ta ss (.list (bs.map .bool))) : Ev K H0 m (tCB (rAll K) (tCons ta tNil)) ss (.bool (bs.all id)) :=
  ev_cb (ea_cons ha ea_nil) fun σ H O vs Q s r q => by
    obtain ⟨v, rfl, h⟩ := dpa1 r
    cases h with
    | lst h1 h2 => exact ⟨_, bs, rfl, dpa_bools h2 ▸ h1, q _ H (Evl.Ex.refl H) (Res.ofF (.bl _))⟩
theorem ev_max2 {a b : Int} (ha : Ev K H0 .r ta ss (.int a)) (hb : Ev K H0 .r tb ss (.int b)) : Ev K H0 m (tCB (fun xs H Q => ∃ i j, xs = [.int i, .int j] ∧ Q (.int (if j > i then j else i)) H) (tCons ta (tCons tb tNil))) ss (.int (if b > a then b else a)) :=
  ev_cb (ea_cons ha (ea_cons hb ea_nil)) fun σ H O vs Q s r q => by
    obtain ⟨v, v', rfl, h, h'⟩ := dpa2 r
    cases h
    cases h'
    exact ⟨a, b, rfl, q _ H (Evl.Ex.refl H) (Res.ofF (.int _))⟩
/-! text + text, text[a:b] -/
theorem ev_cat_str {x y : Str} (ha : Ev K H0 .r ta ss (.str x)) (hb : Ev K H0 .r tb ss (.str y)) (hz : x.length + y.length ≤ sizeLine) : Ev K H0 m (tOp (fun x y H Q => ∃ i j, x = .str i ∧ y = .str j ∧ i.length + j.length ≤ sizeLine ∧ Q (.str (i ++ j)) H) ta tb) ss (.str (x ++ y)) :=
  ev_op ha hb fun σ H O x' y' Q s hx hy q => by
    cases hx
    cases hy
    exact ⟨x, y, rfl, rfl, hz, q _ H (Evl.Ex.refl H) (Res.ofF (.str _))⟩
/-! isinstance -/
theorem kit_self {K : PySem.W.Frag} {a b : String} {r : Bool} (h : kitB a b = some r) : PySem.W.kitOne K (.type a) (.type b) = some r := kit_ty h
def tyD : PyData → Option String
  | .none => some "NoneType"
  | .bool _ => some "bool"
  | .int _ => some "int"
  | .str _ => some "str"
  | .list _ => some "list"
  | .tuple _ => some "tuple"
  | .dict _ => none
theorem tyx_dp {K : PySem.W.Frag} {H : Hp} {v : V} {d : PyData} {n : String} (h : Dp K H v d) (ht : tyD d = some n) : TyX K H v (.type n) := by
  cases h with
  | non => cases ht; exact .base .non
  | bl b => cases ht; exact .base (.bl b)
  | int i => cases ht; exact .base (.int i)
  | str x => cases ht; exact .base (.str x)
  | lst h1 h2 =>
    cases ht
    rcases h1 with (h1 | ⟨o, h1⟩) | ⟨o, its, n, h1, h2, _⟩
    · exact .base (.lst h1)
    · exact .base (.frz h1)
    · exact .kList h1 h2
  | tup h1 h2 =>
    cases ht
    rcases h1 with (h1 | ⟨o, h1⟩) | ⟨o, its, n, h1, h2, _⟩
    · exact .base (.tup h1)
    · exact .fTuple h1
    · exact .kTuple h1 h2
theorem ev_isi {n : String} {b : Bool} (a : String) (ha : Ev K H0 .r ta ss d) (ht : tyD d = some a) (hk : kitB a n = some b) : Ev K H0 m (tCB (rIsi K) (tCons ta (tCons (tC (.ty n)) tNil))) ss (.bool b) := fun σ H O Q s q =>
  ha σ H O _ s fun v H1 e1 r1 => ⟨v, .ty n, .type a, .type n, b, rfl, .ty n, tyx_dp r1 ht, kit_ty hk, q _ H1 e1 (Res.ofF (.bl _))⟩
end
/-! ### the rules with K said -/
section
variable {X : Cx} {a b e : Expr} {es : List Expr} {ta tb te : TE} {t : TA} {pos : Pos} {tg : Expr}
theorem pe_ixL (K : PySem.W.Frag) (ha : PE X a ta) (hb : PE X b tb) (hs : PlainIx b := by intro _ _; rfl) (h : X.K = K := by rfl) : PE X (.Subscript a b pos) (tOp (rIxL K) ta tb) := by subst h; exact pe_ix ix_list ha hb hs
theorem pe_ixT (K : PySem.W.Frag) (ha : PE X a ta) (hb : PE X b tb) (hs : PlainIx b := by intro _ _; rfl) (h : X.K = K := by rfl) : PE X (.Subscript a b pos) (tOp (rIxT K) ta tb) := by subst h; exact pe_ix ix_tup ha hb hs
theorem pe_ixS (ha : PE X a ta) (hb : PE X b tb) (hs : PlainIx b := by intro _ _; rfl) : PE X (.Subscript a b pos) (tOp rIxS ta tb) := pe_ix ix_str ha hb hs
theorem pe_slL (K : PySem.W.Frag) {lo hi : Option Expr} {tl th : TO} {p2 : Pos} (he : PE X e te) (hl : PO X lo tl) (hu : PO X hi th) (h : X.K = K := by rfl) : PE X (.Subscript e (.Slice lo hi none p2) pos) (tSl (rSlL K) te tl th) := by subst h; exact pe_slice sl_list he hl hu
theorem op_inK (K : PySem.W.Frag) (h : X.K = K := by rfl) : OpR X (compareOp .In) (rIn K false) := by subst h; exact op_in_seq
theorem op_ninK (K : PySem.W.Frag) (h : X.K = K := by rfl) : OpR X (compareOp .NotIn) (rIn K true) := by subst h; exact op_notIn_seq
theorem op_eqK (K : PySem.W.Frag) {k : Nat} (hr : Room k X.A) (h : X.K = K := by rfl) : OpR X (compareOp .Eq) (rEqD K) := by subst h; exact op_eqD hr.units
theorem op_neK (K : PySem.W.Frag) {k : Nat} (hr : Room k X.A) (h : X.K = K := by rfl) : OpR X (compareOp .NotEq) (rNeD K) := by subst h; exact op_neD hr.units
theorem op_inDK (K : PySem.W.Frag) {k : Nat} (hr : Room k X.A) (h : X.K = K := by rfl) : OpR X (compareOp .In) (rInD K) := by subst h; exact op_inD (by have := hr.un; omega)
theorem op_ninDK (K : PySem.W.Frag) {k : Nat} (hr : Room k X.A) (h : X.K = K := by rfl) : OpR X (compareOp .NotIn) (rNotInD K) := by subst h; exact op_notInD (by have := hr.un; omega)
theorem call_lenK (K : PySem.W.Frag) (h : X.K = K := by rfl) : CallR X (.builtin "len") (fun xs H Q => ∃ p ys, xs = [.ref p] ∧ (SqL K H p ys ∨ SqT K H p ys) ∧ Q (.int ys.length) H) := by subst h; exact call_len_seq
theorem call_listK (K : PySem.W.Frag) (h : X.K = K := by rfl) : CallR X (.type "list") (rList K) := by subst h; exact call_list_of
theorem cr_sumK (K : PySem.W.Frag) (hc : X.calm = true) (h : X.K = K := by rfl) : CallR X (.builtin "sum") (rSum K) := by subst h; exact cr_sum hc
theorem cr_allK (K : PySem.W.Frag) (hc : X.calm = true) (h : X.K = K := by rfl) : CallR X (.builtin "all") (rAll K) := by subst h; exact cr_all hc
theorem call_isiK' (K : PySem.W.Frag) (h : X.K = K := by rfl) : CallR X (.builtin "isinstance") (rIsi K) := by subst h; exact call_isi
theorem pi_listK (K : PySem.W.Frag) (hl : PE X e te) (h : X.K = K := by rfl) : PI X tg e (iList K te) := by subst h; exact pi_list hl
theorem pi_tupK (K : PySem.W.Frag) (hl : PE X e te) (h : X.K = K := by rfl) : PI X tg e (iTup K te) := by subst h; exact pi_tup hl
theorem pi_enumK (K : PySem.W.Frag) {p tpos : Pos} {elts : List Expr} {kk : Nat} (hg : Gl X "enumerate") (hm : X.mg "enumerate" = none) (ha : PA X [e] t) (hs : starEach [e] X.env = [(false, eval e X.env)] := by rfl) (h : X.K = K := by rfl) :
    PI X (.Tuple elts kk tpos) (.Call (.Name "enumerate" p) [e] [] pos) (iEnum K t) := by subst h; exact pi_enum hg hm ha hs
theorem pi_zipK (K : PySem.W.Frag) {e2 : Expr} {p tpos : Pos} {elts : List Expr} {kk : Nat} (hg : Gl X "zip") (hm : X.mg "zip" = none) (ha : PA X [e, e2] t)
    (hs : starEach [e, e2] X.env = (false, eval e X.env) :: starEach [e2] X.env := by rfl) (hpl : (backTo pos (starEach [e2] X.env)).any (·.1) = false := by rfl) (h : X.K = K := by rfl) :
    PI X (.Tuple elts kk tpos) (.Call (.Name "zip" p) [e, e2] [] pos) (iZip K t) := by subst h; exact pi_zip hg hm ha hs hpl
theorem pg_pairK (K : PySem.W.Frag) {e1 e2 : Expr} {k : Nat} {g1 g2 : TG} (hc : X.calm = true) (h1 : PG X e1 g1) (h2 : PG X e2 g2) (q1 : (assignEach (e1 :: [e2]) X.env).map (·.2) = assign e1 X.env :: (assignEach [e2] X.env).map (·.2) := by rfl)
    (q2 : (assignEach (e2 :: []) X.env).map (·.2) = assign e2 X.env :: (assignEach [] X.env).map (·.2) := by rfl)
    (hn : (assignEach [e1, e2] X.env).length = 2 := by rfl) (hst : (assignEach [e1, e2] X.env).findIdx? (·.1) = none := by rfl) (h : X.K = K := by rfl) : PG X (.Tuple [e1, e2] k pos) (gTup K 2 (gCons g1 (gCons g2 gNil))) := by
  subst h
  exact pg_tup hc (pgs_cons h1 (pgs_cons h2 pgs_nil q2) q1) hn hst
end
end Li

namespace Li
open PySem PySem.Spec PyProof.Rows L2
/-! ### what the program and the laws reckon, in plain Lean -/
inductive Mk where
  | good | dead | stuck
  deriving DecidableEq
def Mk.s : Mk → Str
  | .good => "good"
  | .dead => "dead"
  | .stuck => "stuck"
abbrev dMk (m : Mk) : PyData := .str m.s
abbrev dPl (p : List Mk) : PyData := .list (p.map dMk)
abbrev dPan (ps : List (List Mk)) : PyData := .list (ps.map dPl)
abbrev dIs (l : List Int) : PyData := .list (l.map .int)
abbrev dBs (l : List Bool) : PyData := .list (l.map .bool)
abbrev dPr (x : Int × Int) : PyData := .tuple [.int x.1, .int x.2]
abbrev dSh (l : List (Int × Int)) : PyData := .list (l.map dPr)
abbrev dIss (l : List (List Int)) : PyData := .list (l.map dIs)
theorem mk_good (m : Mk) : decide (m.s = ("good" : Str)) = decide (m = .good) := by cases m <;> decide +kernel
theorem mk_dead (m : Mk) : decide (m.s = ("dead" : Str)) = decide (m = .dead) := by cases m <;> decide +kernel
theorem mk_stuck (m : Mk) : decide (m.s = ("stuck" : Str)) = decide (m = .stuck) := by cases m <;> decide +kernel
theorem mk_inj (a b : Mk) : decide (a.s = b.s) = decide (a = b) := by cases a <;> cases b <;> decide +kernel
theorem mk_inj' {a b : Mk} (h : a.s = b.s) : a = b := by
  have := mk_inj a b
  rw [decide_eq_true h] at this
  exact of_decide_eq_true this.symm
def shapes : List Int := [63, 6, 91, 79, 102, 109, 125, 7, 127, 111]
def shapeM (f : Int) : Int := shapes.getD f.toNat 0
def litM (look stroke : Int) : Bool := decide (look / 2 ^ stroke.toNat % 2 = 1)
def litBy : Mk → Bool → Bool
  | .good, b => b
  | .dead, _ => false
  | .stuck, _ => true
def FigOk (f : Int) : Prop := 0 ≤ f ∧ f ≤ 9
/-- the bits seen, stroke by stroke -/
def bitM (f : Int) (p : List Mk) (k : Nat) : Bool := litBy (p.getD k .good) (litM (shapeM f) (k : Int))
def seenM (f : Int) (p : List Mk) : Int := (List.range 7).foldl (fun a k => if bitM f p k then a + 2 ^ k else a) 0
def mayBe (look : Int) (p : List Mk) : List Int := ((List.range 10).filter fun (k : Nat) => decide (seenM (k : Int) p = look)).map fun (k : Nat) => (k : Int)
/-! cells -/
def cellM (ns : List Int) (k : Int) : Int := ns.getD k.toNat 0
def pickM (ns : List Int) (k : Int) : Int := if k < (ns.length : Int) then ns.getD k.toNat 0 else (cellM ns 0 + 7 * k + 3) * 48271 % 2147483647 / 13
def mixM (cell k : Int) : Int :=
  let a := (cell * 69621 + 7001 * k + 3) % 2147483629
  let b := (a * a + 39373 * a + k) % 2147483647
  (b * b + 16807 * b + 7 * k) % 2147483587
theorem mix_nn (cell k : Int) : 0 ≤ mixM cell k ∧ mixM cell k < 2147483587 := ⟨Int.emod_nonneg _ (by decide), Int.emod_lt_of_pos _ (by decide)⟩
def rareM (cell : Int) : Int := [3, 6, 20].getD (mixM cell 9 % 3).toNat 3
theorem rare_is (cell : Int) : rareM cell = 3 ∨ rareM cell = 6 ∨ rareM cell = 20 := by
  unfold rareM
  have h1 : 0 ≤ mixM cell 9 % 3 := Int.emod_nonneg _ (by decide)
  have h2 : mixM cell 9 % 3 < 3 := Int.emod_lt_of_pos _ (by decide)
  rcases (show (mixM cell 9 % 3).toNat = 0 ∨ (mixM cell 9 % 3).toNat = 1 ∨ (mixM cell 9 % 3).toNat = 2 by omega) with h | h | h <;> rw [h] <;> simp
def markM (cell : Int) (k : Nat) : Mk :=
  let x := mixM cell (10 + (k : Int)) / 7
  if x % rareM cell = 0 then (if x / rareM cell % 2 = 0 then .dead else .stuck) else .good
def placeM (cell : Int) : List Mk := (List.range 7).map (markM cell)
def panelM (ns : List Int) (start : Int) (n : Nat) : List (List Mk) := (List.range n).map fun (k : Nat) => placeM (pickM ns (start + (k : Int)))
theorem place_len (cell : Int) : (placeM cell).length = 7 := by simp [placeM]
theorem panel_len (ns : List Int) (start : Int) (n : Nat) : (panelM ns start n).length = n := by simp [panelM]
theorem panel_mem {ns : List Int} {start : Int} {n : Nat} {p : List Mk} (h : p ∈ panelM ns start n) : p.length = 7 := by
  unfold panelM at h
  obtain ⟨k, _, rfl⟩ := List.mem_map.mp h
  exact place_len _
/-! the law's own way to see -/
def strokesT : List Str := ["012345", "12", "01346", "01236", "1256", "02356", "023456", "012", "0123456", "012356"]
theorem has_is : ∀ f : Nat, f < 10 → ∀ s : Nat, s < 7 → (!(Builtin.Str.occurrences (strokesT.getD f "") (toString (s : Int)) 0 (strokesT.getD f "").length 1).isEmpty) = litM (shapeM (f : Int)) (s : Int) := by decide +kernel
def bitsOf (b : Nat → Bool) : Int := (List.range 7).foldl (fun a k => if b k then a + 2 ^ k else a) 0
def hornerOf (b : Nat → Bool) : Int := (List.range 7).foldl (fun a k => 2 * a + (if b (6 - k) then 1 else 0)) 0
theorem horner_eq (b : Nat → Bool) : hornerOf b = bitsOf b := by
  unfold hornerOf bitsOf
  simp only [show List.range 7 = [0, 1, 2, 3, 4, 5, 6] from rfl, List.foldl]
  cases b 0 <;> cases b 1 <;> cases b 2 <;> cases b 3 <;> cases b 4 <;> cases b 5 <;> cases b 6 <;> rfl
/-! small words for the walks -/
theorem getElem?_getD' {α : Type} {l : List α} {i : Nat} (d : α) (h : i < l.length) : l[i]? = some (l.getD i d) := by
  rw [List.getD_eq_getElem?_getD, List.getElem?_eq_getElem h, Option.getD_some]
theorem ixN_of {n : Nat} {i : Int} (h0 : 0 ≤ i) (h : i < n) : ixN n i = some i.toNat := by
  unfold ixN
  rw [if_pos h0, if_pos h]
theorem map_get {α : Type} {l : List α} {en : α → PyData} {i : Nat} {x : α} (h : l[i]? = some x) : (l.map en)[i]? = some (en x) := by
  rw [List.getElem?_map, h]
  rfl
theorem range_split {n : Nat} {pre : List Nat} {x : Nat} {post : List Nat} (h : List.range n = pre ++ x :: post) : x = pre.length ∧ x < n ∧ pre = List.range x := by
  have hl := congrArg List.length h
  simp at hl
  have h1 : (List.range n)[pre.length]? = some x := by rw [h]; simp
  have hx : x = pre.length := by
    rw [List.getElem?_range (by omega)] at h1
    exact (Option.some.inj h1).symm
  refine ⟨hx, by omega, ?_⟩
  have : (List.range n).take pre.length = pre := by rw [h]; simp
  rw [← this, List.take_range, hx]
  congr 1
  omega
theorem mem_range {n k : Nat} (h : k ∈ List.range n) : k < n := List.mem_range.mp h
theorem shaped_plain {d : PyData} (h1 : d.canLay0 = true) (h2 : d.depth ≤ 64) : SeqAt.shaped d = true := by
  unfold SeqAt.shaped
  rw [h1, decide_eq_true h2]
  rfl
/-! what may be laid and compared -/
structure Lay (n : Nat) (d : PyData) : Prop where
  c : d.canLay0 = true
  d : d.depth ≤ n
theorem lay_int {n : Nat} {i : Int} : Lay n (.int i) := ⟨by simp [PyData.canLay0], by simp [PyData.depth]⟩
theorem lay_bl {n : Nat} {b : Bool} : Lay n (.bool b) := ⟨by simp [PyData.canLay0], by simp [PyData.depth]⟩
theorem lay_mk {n : Nat} {m : Mk} : Lay n (dMk m) := ⟨by cases m <;> decide +kernel, by simp [PyData.depth]⟩
theorem layAll : ∀ {n : Nat} {ds : List PyData}, (∀ x ∈ ds, Lay n x) → PyData.canLayAll0 ds = true ∧ PyData.depthAll ds ≤ n
  | _, [], _ => by simp [PyData.canLayAll0, PyData.depthAll]
  | n, d :: ds, h => by
    have h1 := h d List.mem_cons_self
    have h2 := layAll (n := n) (ds := ds) fun x hx => h x (List.mem_cons_of_mem _ hx)
    simp only [PyData.canLayAll0, PyData.depthAll, h1.c, h2.1, Bool.and_self, true_and]
    exact Nat.max_le.mpr ⟨h1.d, h2.2⟩
theorem lay_list {n : Nat} {ds : List PyData} (h : ∀ x ∈ ds, Lay n x) : Lay (n + 1) (.list ds) := ⟨by simp only [PyData.canLay0]; exact (layAll h).1, by simp only [PyData.depth]; exact Nat.succ_le_succ (layAll h).2⟩
theorem lay_tup {n : Nat} {ds : List PyData} (h : ∀ x ∈ ds, Lay n x) : Lay (n + 1) (.tuple ds) := ⟨by simp only [PyData.canLay0]; exact (layAll h).1, by simp only [PyData.depth]; exact Nat.succ_le_succ (layAll h).2⟩
theorem lay_map {α : Type} {n : Nat} {l : List α} {f : α → PyData} (h : ∀ x, Lay n (f x)) : Lay (n + 1) (.list (l.map f)) := lay_list fun x hx => by
  obtain ⟨y, _, rfl⟩ := List.mem_map.mp hx
  exact h y
theorem lay_is {l : List Int} : Lay 1 (dIs l) := lay_map fun _ => lay_int
theorem lay_bs {l : List Bool} : Lay 1 (dBs l) := lay_map fun _ => lay_bl
theorem lay_pl {p : List Mk} : Lay 1 (dPl p) := lay_map fun _ => lay_mk
theorem lay_pan {p : List (List Mk)} : Lay 2 (dPan p) := lay_map fun _ => lay_pl
theorem lay_pr {x : Int × Int} : Lay 1 (dPr x) := lay_tup fun y hy => by
  rcases List.mem_cons.mp hy with e | e
  · subst e
    exact lay_int
  · rcases List.mem_cons.mp e with e | e
    · subst e
      exact lay_int
    · cases e
theorem lay_sh {l : List (Int × Int)} : Lay 2 (dSh l) := lay_map fun _ => lay_pr
theorem lay_iss {l : List (List Int)} : Lay 2 (dIss l) := lay_map fun _ => lay_is
theorem Lay.sh {n : Nat} {d : PyData} (h : Lay n d) (hn : n ≤ 64 := by decide) : SeqAt.shaped d = true := shaped_plain h.c (Nat.le_trans h.d hn)
theorem Lay.rf {n : Nat} {d : PyData} (h : Lay n d) : PyData.eqv d d = true := SeqAt.eqv_refl d h.c
theorem eqv_map {α : Type} [DecidableEq α] {f : α → PyData} (h : ∀ x y, PyData.eqv (f x) (f y) = decide (x = y)) : ∀ a b : List α, PyData.eqvAll (a.map f) (b.map f) = decide (a = b)
  | [], [] => by simp [PyData.eqvAll]
  | [], _ :: _ => by simp [PyData.eqvAll]
  | _ :: _, [] => by simp [PyData.eqvAll]
  | x :: a, y :: b => by
    simp only [List.map_cons, PyData.eqvAll, h, eqv_map h a b]
    by_cases e : x = y
    · by_cases e2 : a = b
      · simp [e, e2]
      · simp [e, e2]
    · simp [e]
theorem eqv_list {α : Type} [DecidableEq α] {f : α → PyData} (h : ∀ x y, PyData.eqv (f x) (f y) = decide (x = y)) (a b : List α) : PyData.eqv (.list (a.map f)) (.list (b.map f)) = decide (a = b) := by
  rw [PyData.eqv]
  exact eqv_map h a b
theorem eqv_int (a b : Int) : PyData.eqv (.int a) (.int b) = decide (a = b) := by
  rw [PyData.eqv]
  by_cases h : a = b <;> simp [h]
theorem eqv_bl (a b : Bool) : PyData.eqv (.bool a) (.bool b) = decide (a = b) := by
  rw [PyData.eqv]
  by_cases h : a = b <;> simp [h]
theorem eqv_mk (a b : Mk) : PyData.eqv (dMk a) (dMk b) = decide (a = b) := by
  rw [PyData.eqv, ← mk_inj]
  by_cases h : a.s = b.s <;> simp [h]
theorem eqv_is (a b : List Int) : PyData.eqv (dIs a) (dIs b) = decide (a = b) := eqv_list eqv_int a b
theorem eqv_pl (a b : List Mk) : PyData.eqv (dPl a) (dPl b) = decide (a = b) := eqv_list eqv_mk a b
theorem eqv_bs (a b : List Bool) : PyData.eqv (dBs a) (dBs b) = decide (a = b) := eqv_list eqv_bl a b
theorem eqv_pan (a b : List (List Mk)) : PyData.eqv (dPan a) (dPan b) = decide (a = b) := eqv_list eqv_pl a b
theorem eqv_iss (a b : List (List Int)) : PyData.eqv (dIss a) (dIss b) = decide (a = b) := eqv_list eqv_is a b
theorem scal_map {α : Type} {f : α → PyData} (h : ∀ x, scalD (f x) = true) : ∀ l : List α, (l.map f).all scalD = true
  | [] => rfl
  | x :: l => by
    rw [List.map_cons, List.all_cons, h x, scal_map h l]
    rfl
theorem mk_map (l : List Mk) : dPl l = .list ((l.map Mk.s).map .str) := by rw [dPl, List.map_map]; rfl
theorem mk_mem (m : Mk) (l : List Mk) : decide (m.s ∈ l.map Mk.s) = decide (m ∈ l) := by
  by_cases h : m ∈ l
  · rw [decide_eq_true h, decide_eq_true (List.mem_map.mpr ⟨m, h, rfl⟩)]
  · rw [decide_eq_false h, decide_eq_false]
    intro z
    obtain ⟨x, hx, e⟩ := List.mem_map.mp z
    exact h (mk_inj' e ▸ hx)
theorem zip_same {α : Type} : ∀ {l : List α} {z : α × α}, z ∈ l.zip l → z.1 = z.2 ∧ z.1 ∈ l
  | [], z, h => by simp at h
  | x :: l, z, h => by
    rw [List.zip_cons_cons] at h
    rcases List.mem_cons.mp h with e | e
    · rw [e]
      exact ⟨rfl, List.mem_cons_self⟩
    · have := zip_same e
      exact ⟨this.1, List.mem_cons_of_mem _ this.2⟩
end Li

namespace Li
open PySem PySem.Spec PyProof.Rows L2
/-! probes -/
def partsTwo (fs : List Int) (k : Int) (a b : Mk) : Bool := fs.any fun f => litBy a (litM (shapeM f) k) != litBy b (litM (shapeM f) k)
/-- any two open marks of a stroke are told apart -/
def strokeOk (fs : List Int) (ms : List (List Mk)) (k : Nat) : Bool := decide (∀ a ∈ ms.getD k [], ∀ b ∈ ms.getD k [], a ≠ b → partsTwo fs (k : Int) a b = true)
def settlesM (fs : List Int) (ms : List (List Mk)) : Bool := (List.range 7).all fun k => strokeOk fs ms k
/-! the law's marks -/
def someM : List (List Mk) := [[.good], [.dead], [.stuck], [.good, .dead], [.good, .stuck], [.dead, .stuck], [.good, .dead, .stuck]]
def waysM : List (List Int) := [[6], [0, 3, 4, 6], [0, 1, 2, 3, 4, 5, 6], [0, 0, 0, 3, 4]]
def wayM (cell : Int) : List Int := waysM.getD (mixM cell 1 % 4).toNat []
def drawn1 (cell : Int) (k : Nat) : List Mk := someM.getD ((wayM cell).getD (mixM cell (20 + (k : Int)) / 7 % ((wayM cell).length : Int)).toNat 0).toNat []
def drawnM (cell : Int) : List (List Mk) := (List.range 7).map (drawn1 cell)
theorem way_mem (cell : Int) : wayM cell ∈ waysM := by
  unfold wayM
  have h1 : 0 ≤ mixM cell 1 % 4 := Int.emod_nonneg _ (by decide)
  have h2 : mixM cell 1 % 4 < 4 := Int.emod_lt_of_pos _ (by decide)
  rw [List.getD_eq_getElem?_getD, List.getElem?_eq_getElem (by show (mixM cell 1 % 4).toNat < 4; omega), Option.getD_some]
  exact List.getElem_mem _
theorem way_pos (cell : Int) : 0 < (wayM cell).length ∧ (wayM cell).length ≤ 7 := by
  have h := way_mem cell
  have : ∀ w ∈ waysM, 0 < w.length ∧ w.length ≤ 7 := by decide
  exact this _ h
theorem way_ix (cell : Int) (i : Nat) (h : i < (wayM cell).length) : 0 ≤ (wayM cell).getD i 0 ∧ (wayM cell).getD i 0 < 7 := by
  have hm := way_mem cell
  have : ∀ w ∈ waysM, ∀ x ∈ w, 0 ≤ x ∧ x < 7 := by decide
  rw [List.getD_eq_getElem?_getD, List.getElem?_eq_getElem h, Option.getD_some]
  exact this _ hm _ (List.getElem_mem _)
theorem drawn1_mem (cell : Int) (k : Nat) : drawn1 cell k ∈ someM := by
  unfold drawn1
  have hp := way_pos cell
  have h1 := Int.emod_nonneg (mixM cell (20 + (k : Int)) / 7) (b := ((wayM cell).length : Int)) (by omega)
  have h2 := Int.emod_lt_of_pos (mixM cell (20 + (k : Int)) / 7) (b := ((wayM cell).length : Int)) (by omega)
  have h3 := way_ix cell (mixM cell (20 + (k : Int)) / 7 % ((wayM cell).length : Int)).toNat (by omega)
  generalize (wayM cell).getD (mixM cell (20 + (k : Int)) / 7 % ((wayM cell).length : Int)).toNat 0 = z at h3
  rw [List.getD_eq_getElem?_getD, List.getElem?_eq_getElem (by show z.toNat < 7; omega), Option.getD_some]
  exact List.getElem_mem _
theorem some_nodup : ∀ l ∈ someM, l.Nodup ∧ l ≠ [] := by decide
theorem drawn_len (cell : Int) : (drawnM cell).length = 7 := by simp [drawnM]
theorem drawn_nd (cell : Int) : ∀ l ∈ drawnM cell, l.Nodup ∧ l ≠ [] := fun l h => by
  unfold drawnM at h
  obtain ⟨k, _, rfl⟩ := List.mem_map.mp h
  exact some_nodup _ (drawn1_mem cell k)
/-! the law's own look -/
def rowB (fs : List Int) (k : Int) (m : Mk) : List Bool := fs.map fun f => litBy m (litM (shapeM f) k)
theorem row_parts (fs : List Int) (k : Int) (a b : Mk) : decide (rowB fs k a = rowB fs k b) = !partsTwo fs k a b := by
  induction fs with
  | nil => rfl
  | cons f fs ih =>
    unfold rowB partsTwo at ih ⊢
    rw [List.map_cons, List.map_cons, List.any_cons, Bool.not_or, ← ih]
    by_cases h : litBy a (litM (shapeM f) k) = litBy b (litM (shapeM f) k)
    · simp [h]
    · simp [h]
theorem row_ne {fs : List Int} {k : Int} {a b : Mk} (h : rowB fs k a ≠ rowB fs k b) : partsTwo fs k a b = true := by
  have := row_parts fs k a b
  rw [decide_eq_false h] at this
  simpa using this.symm
theorem row_eq {fs : List Int} {k : Int} {a b : Mk} (h : rowB fs k a = rowB fs k b) : partsTwo fs k a b = false := by
  have := row_parts fs k a b
  rw [decide_eq_true h] at this
  simpa using this.symm
theorem parts_symm (fs : List Int) (k : Int) (a b : Mk) : partsTwo fs k a b = partsTwo fs k b a := by
  have h1 := row_parts fs k a b
  have h2 := row_parts fs k b a
  have : decide (rowB fs k a = rowB fs k b) = decide (rowB fs k b = rowB fs k a) := by
    by_cases h : rowB fs k a = rowB fs k b
    · simp [h]
    · have : ¬ rowB fs k b = rowB fs k a := fun z => h z.symm
      simp [h, this]
  rw [h1, h2] at this
  simpa using this
theorem rows_ok {fs : List Int} {ms : List (List Mk)} {k : Nat} (h : ∀ j, j < (ms.getD k []).length → ∀ i, i < j → rowB fs (k : Int) ((ms.getD k []).getD i .good) ≠ rowB fs (k : Int) ((ms.getD k []).getD j .good)) : strokeOk fs ms k = true := by
  refine decide_eq_true fun a ha b hb hne => ?_
  obtain ⟨i, hi, ei⟩ := List.mem_iff_getElem.mp ha
  obtain ⟨j, hj, ej⟩ := List.mem_iff_getElem.mp hb
  have gi : (ms.getD k []).getD i .good = a := by rw [List.getD_eq_getElem?_getD, List.getElem?_eq_getElem hi, Option.getD_some, ei]
  have gj : (ms.getD k []).getD j .good = b := by rw [List.getD_eq_getElem?_getD, List.getElem?_eq_getElem hj, Option.getD_some, ej]
  rcases Nat.lt_trichotomy i j with z | z | z
  · have := h j hj i z
    rw [gi, gj] at this
    exact row_ne this
  · subst z
    exact absurd (ei.symm.trans ej) hne
  · have := h i hi j z
    rw [gi, gj] at this
    rw [parts_symm]
    exact row_ne this
theorem rows_no {fs : List Int} {ms : List (List Mk)} {k i j : Nat} (hnd : (ms.getD k []).Nodup) (hj : j < (ms.getD k []).length) (hi : i < j) (h : rowB fs (k : Int) ((ms.getD k []).getD i .good) = rowB fs (k : Int) ((ms.getD k []).getD j .good)) : strokeOk fs ms k = false := by
  refine decide_eq_false fun z => ?_
  have hi' : i < (ms.getD k []).length := Nat.lt_trans hi hj
  have gi : (ms.getD k []).getD i .good = (ms.getD k [])[i] := by rw [List.getD_eq_getElem?_getD, List.getElem?_eq_getElem hi', Option.getD_some]
  have gj : (ms.getD k []).getD j .good = (ms.getD k [])[j] := by rw [List.getD_eq_getElem?_getD, List.getElem?_eq_getElem hj, Option.getD_some]
  rw [gi, gj] at h
  have hne : (ms.getD k [])[i] ≠ (ms.getD k [])[j] := fun e => Nat.ne_of_lt hi ((List.getElem_inj hnd).mp e)
  have := z _ (List.getElem_mem hi') _ (List.getElem_mem hj) hne
  rw [row_eq h] at this
  cases this
theorem rows_any {fs : List Int} {k : Int} {l : List Mk} {j : Nat} (hj : j < l.length) : ((l.map fun m => dBs (rowB fs k m)).take j).any (fun z => PyData.eqv z (dBs (rowB fs k (l.getD j .good)))) = true ↔ ∃ i, i < j ∧ rowB fs k (l.getD i .good) = rowB fs k (l.getD j .good) := by
  rw [List.any_eq_true]
  constructor
  · rintro ⟨z, hz, e⟩
    obtain ⟨i, hi, rfl⟩ := List.mem_iff_getElem.mp hz
    have hi' : i < j := by
      rw [List.length_take] at hi
      omega
    refine ⟨i, hi', ?_⟩
    rw [List.getElem_take, List.getElem_map, eqv_bs] at e
    have e := of_decide_eq_true e
    rw [← e, List.getD_eq_getElem?_getD, List.getElem?_eq_getElem (by omega), Option.getD_some]
  · rintro ⟨i, hi, e⟩
    refine ⟨dBs (rowB fs k (l.getD i .good)), ?_, ?_⟩
    · refine List.mem_iff_getElem.mpr ⟨i, by rw [List.length_take, List.length_map]; omega, ?_⟩
      rw [List.getElem_take, List.getElem_map, List.getD_eq_getElem?_getD, List.getElem?_eq_getElem (by omega), Option.getD_some]
    · rw [eqv_bs, e]
      exact decide_eq_true rfl
end Li

namespace Li
open PySem PySem.Spec PyProof.Rows L2
/-! numbers on a panel -/
def figsOf (x : Int) : Nat → List Int
  | 0 => []
  | k + 1 => (x / 10 ^ k % 10) :: figsOf x k
theorem figsOf_len (x : Int) : ∀ n, (figsOf x n).length = n
  | 0 => rfl
  | n + 1 => by simp [figsOf, figsOf_len x n]
theorem figsOf_ok (x : Int) : ∀ n, ∀ f ∈ figsOf x n, FigOk f
  | 0, f, h => by cases h
  | n + 1, f, h => by
    rcases List.mem_cons.mp h with e | e
    · subst e
      have h1 := Int.emod_nonneg (x / 10 ^ n) (b := 10) (by decide)
      have h2 := Int.emod_lt_of_pos (x / 10 ^ n) (b := 10) (by decide)
      exact ⟨h1, by omega⟩
    · exact figsOf_ok x n f e
theorem pow10_step (x : Int) (n : Nat) : x / 10 ^ n / 10 = x / 10 ^ (n + 1) := by
  rw [Int.ediv_ediv_of_nonneg (Int.pow_nonneg (by decide)), Int.pow_succ]
def shownM (x : Int) (panel : List (List Mk)) : List Int := ((figsOf x panel.length).zip panel).map fun z => seenM z.1 z.2
theorem zip_fig {x : Int} {panel : List (List Mk)} {n : Nat} {z : Int × List Mk} (hp : ∀ p ∈ panel, p.length = 7) (h : z ∈ (figsOf x n).zip panel) : FigOk z.1 ∧ z.2.length = 7 := by
  have := List.of_mem_zip h
  exact ⟨figsOf_ok _ _ _ this.1, hp _ this.2⟩
theorem shown_len (x : Int) (panel : List (List Mk)) : (shownM x panel).length = panel.length := by
  simp [shownM, figsOf_len]
def stepN (more ahead : List Int) : List Int := ahead.flatMap fun a => more.map fun f => 10 * a + f
def numsM (zs : List (Int × List Mk)) : List Int := zs.foldl (fun a z => stepN (mayBe z.1 z.2) a) [0]
theorem nums_snoc (zs : List (Int × List Mk)) (z : Int × List Mk) : numsM (zs ++ [z]) = stepN (mayBe z.1 z.2) (numsM zs) := by
  unfold numsM
  rw [List.foldl_append]
  rfl
theorem step_snoc (more ahead : List Int) (a : Int) : stepN more (ahead ++ [a]) = stepN more ahead ++ more.map fun f => 10 * a + f := by
  unfold stepN
  rw [List.flatMap_append]
  simp
theorem mayBe_len (look : Int) (p : List Mk) : (mayBe look p).length ≤ 10 := by
  unfold mayBe
  rw [List.length_map]
  exact Nat.le_trans (List.length_filter_le _ _) (by decide)
theorem step_len {more : List Int} (h : more.length ≤ 10) : ∀ ahead : List Int, (stepN more ahead).length ≤ 10 * ahead.length
  | [] => by simp [stepN]
  | a :: l => by
    have ih := step_len h l
    unfold stepN at ih ⊢
    rw [List.flatMap_cons, List.length_append, List.length_map, List.length_cons]
    omega
theorem nums_len (zs : List (Int × List Mk)) : (numsM zs).length ≤ 10 ^ zs.length := by
  suffices H : ∀ (zs : List (Int × List Mk)) (a : List Int), (zs.foldl (fun a z => stepN (mayBe z.1 z.2) a) a).length ≤ 10 ^ zs.length * a.length by
    have := H zs [0]
    simpa [numsM] using this
  intro zs
  induction zs with
  | nil => intro a; simp
  | cons z zs ih =>
    intro a
    rw [List.foldl_cons]
    have h1 := ih (stepN (mayBe z.1 z.2) a)
    have h2 := step_len (mayBe_len z.1 z.2) a
    refine Nat.le_trans h1 ?_
    refine Nat.le_trans (Nat.mul_le_mul_left _ h2) ?_
    rw [List.length_cons, Nat.pow_succ, ← Nat.mul_assoc]
    exact Nat.le_refl _
theorem nums_le {zs : List (Int × List Mk)} (h : zs.length ≤ 4) : (numsM zs).length ≤ 10000 := Nat.le_trans (nums_len zs) (Nat.pow_le_pow_right (by decide) h : 10 ^ zs.length ≤ 10 ^ 4)
theorem is_map {α : Type} {l : List α} {f : α → Int} : PyData.list (l.map fun x => PyData.int (f x)) = dIs (l.map f) := by
  rw [dIs, List.map_map]
  rfl
section
variable {K : PySem.W.Frag} {H0 : Hp} {Φ : Fm} {m : Md} {ss : List Sl} {te tb : TE} {D : Ends} {u : TS} {i : Nat}
/-- if c: x[k] = e; the rest shown once for either list -/
theorem q_ifsetix {α : Type} {en : α → PyData} {l : List α} {x1 : α} {c : TT} {b : Bool} {z : Int} (j : Nat) (h : EvT K H0 c ss b) (hi : ss[i]? = some (.ow (l.map en))) (h1 : b = true → Ev K H0 .f te ss (en x1)) (hx : b = true → Ev K H0 .r tb ss (.int z)) (hj : ixN l.length z = some j)
    (k : ∀ l' : List α, l'.length = l.length → Wp K H0 Φ u (ss.set i (.ow (l'.map en))) D) : Wp K H0 Φ (tSeq (tIfS c (tSeq (tAsg te (gSub (tVar i) tb rSetL)) tNext) tNext) u) ss D := by
  refine q_when h (fun hb => q_setix j hi (h1 hb) (hx hb) (by rw [List.length_map]; exact hj) (q_nx ?_)) (fun hb => ?_)
  · have := k (l.set j x1) (List.length_set ..)
    rw [List.map_set] at this
    exact this
  · have := k l rfl
    have e : ss.set i (.ow (l.map en)) = ss := by
      obtain ⟨hi', e⟩ := List.getElem?_eq_some_iff.mp hi
      rw [← e]
      exact List.set_getElem_self hi'
    rw [e] at this
    exact this
end
end Li

namespace Li
open PySem PySem.Spec PyProof.Rows L2
/-! open marks -/
def marks3 : List Mk := [.good, .dead, .stuck]
def fitM (k : Int) (m : Mk) (z : Int × Int) : Bool := decide (litBy m (litM (shapeM z.1) k) = litM z.2 k)
def openFor (k : Int) (l : List (Int × Int)) : List Mk := marks3.filter fun m => l.all (fitM k m)
def openM (l : List (Int × Int)) : List (List Mk) := (List.range 7).map fun (k : Nat) => openFor (k : Int) l
def fewM (l : List (Int × Int)) : Nat := ((openM l).filter fun ms => !decide (Mk.good ∈ ms)).length
instance {f : Int} : Decidable (FigOk f) := inferInstanceAs (Decidable (_ ∧ _))
/-- what open_marks and fewest answer -/
def OpenR (l : List (Int × Int)) (good : PyData) (r : Except Xc PyData) : Prop :=
  ((∀ z ∈ l, FigOk z.1) ∧ [] ∉ openM l ∧ r = .ok good) ∨ ((∀ z ∈ l, FigOk z.1) ∧ [] ∈ openM l ∧ r = .error .clash) ∨ ((∃ z ∈ l, ¬ FigOk z.1) ∧ r = .error .fig)
theorem OpenR.err {l : List (Int × Int)} {d d' : PyData} {c : Xc} (h : OpenR l d (.error c)) : OpenR l d' (.error c) := by
  rcases h with ⟨_, _, h⟩ | ⟨a, b, h⟩ | ⟨a, h⟩
  · cases h
  · exact .inr (.inl ⟨a, b, h⟩)
  · exact .inr (.inr ⟨a, h⟩)
theorem OpenR.ok {l : List (Int × Int)} {d d' : PyData} (h : OpenR l d (.ok d')) : (∀ z ∈ l, FigOk z.1) ∧ [] ∉ openM l ∧ d' = d := by
  rcases h with ⟨a, b, h⟩ | ⟨_, _, h⟩ | ⟨_, h⟩
  · cases h
    exact ⟨a, b, rfl⟩
  · cases h
  · cases h
theorem openR_ex (l : List (Int × Int)) (d : PyData) : ∃ r, OpenR l d r := by
  by_cases h : ∀ z ∈ l, FigOk z.1
  · by_cases h2 : [] ∈ openM l
    · exact ⟨_, .inr (.inl ⟨h, h2, rfl⟩)⟩
    · exact ⟨_, .inl ⟨h, h2, rfl⟩⟩
  · refine ⟨_, .inr (.inr ⟨?_, rfl⟩)⟩
    apply Decidable.byContradiction
    intro z
    exact h fun x hx => Decidable.byContradiction fun y => z ⟨x, hx, y⟩
theorem mem_marks3 (m : Mk) : m ∈ marks3 := by cases m <;> decide
theorem open_mem {k : Int} {l : List (Int × Int)} {m : Mk} : m ∈ openFor k l ↔ ∀ z ∈ l, fitM k m z = true := by
  unfold openFor
  rw [List.mem_filter, List.all_eq_true]
  exact ⟨fun h => h.2, fun h => ⟨mem_marks3 m, h⟩⟩
theorem open_len (l : List (Int × Int)) : (openM l).length = 7 := by simp [openM]
theorem open_get {l : List (Int × Int)} {k : Nat} (h : k < 7) : (openM l)[k]? = some (openFor (k : Int) l) := by
  unfold openM
  rw [List.getElem?_map, List.getElem?_range h]
  rfl
theorem openFor_len (k : Int) (l : List (Int × Int)) : (openFor k l).length ≤ 3 := List.length_filter_le _ _
theorem any_nil (l : List (List Mk)) : ((l.map dPl).any fun z => PyData.eqv z (.list [])) = decide ([] ∈ l) := by
  induction l with
  | nil => simp
  | cons x l ih =>
    rw [List.map_cons, List.any_cons, ih, show PyData.eqv (dPl x) (.list []) = decide (x = []) from eqv_pl x []]
    by_cases h : x = []
    · simp [h]
    · have : ¬ [] = x := fun z => h z.symm
      simp [h, this]
/-! bits -/
theorem bits_all : ∀ (b0 b1 b2 b3 b4 b5 b6 : Bool), ∀ k : Fin 7, litM ([b0, b1, b2, b3, b4, b5, b6].zipIdx.foldl (fun a z => if z.1 then a + 2 ^ z.2 else a) 0) (k.val : Int) = [b0, b1, b2, b3, b4, b5, b6].getD k.val false := by decide +kernel
theorem bits_lit (b : Nat → Bool) (k : Nat) (h : k < 7) : litM (bitsOf b) (k : Int) = b k := by
  have := bits_all (b 0) (b 1) (b 2) (b 3) (b 4) (b 5) (b 6) ⟨k, h⟩
  have e : bitsOf b = [b 0, b 1, b 2, b 3, b 4, b 5, b 6].zipIdx.foldl (fun a z => if z.1 then a + 2 ^ z.2 else a) 0 := by
    unfold bitsOf
    simp only [show List.range 7 = [0, 1, 2, 3, 4, 5, 6] from rfl, List.foldl, List.zipIdx]
  rw [e, this]
  rcases (show k = 0 ∨ k = 1 ∨ k = 2 ∨ k = 3 ∨ k = 4 ∨ k = 5 ∨ k = 6 by omega) with e | e | e | e | e | e | e <;> subst e <;> rfl
theorem seen_bit (f : Int) (p : List Mk) {k : Nat} (h : k < 7) : litM (seenM f p) (k : Int) = bitM f p k := bits_lit (bitM f p) k h
theorem seen_congr {f : Int} {p q : List Mk} (h : ∀ k < 7, bitM f p k = bitM f q k) : seenM f p = seenM f q := by
  unfold seenM
  simp only [show List.range 7 = [0, 1, 2, 3, 4, 5, 6] from rfl, List.foldl, h 0 (by decide), h 1 (by decide), h 2 (by decide), h 3 (by decide), h 4 (by decide), h 5 (by decide), h 6 (by decide)]
/-- showings of a place -/
def OwnL (p : List Mk) (l : List (Int × Int)) : Prop := ∀ z ∈ l, FigOk z.1 ∧ z.2 = seenM z.1 p
section
variable {p q : List Mk} {l : List (Int × Int)} {k : Nat}
theorem own_fit (h : OwnL p l) (hk : k < 7) {z : Int × Int} (hz : z ∈ l) (m : Mk) : fitM (k : Int) m z = decide (litBy m (litM (shapeM z.1) (k : Int)) = bitM z.1 p k) := by
  unfold fitM
  rw [(h z hz).2, seen_bit _ _ hk]
theorem own_open (h : OwnL p l) (hk : k < 7) : p.getD k .good ∈ openFor (k : Int) l := open_mem.mpr fun z hz => by
  rw [own_fit h hk hz]
  exact decide_eq_true rfl
theorem own_some (h : OwnL p l) : [] ∉ openM l := fun z => by
  unfold openM at z
  obtain ⟨k, hk, e⟩ := List.mem_map.mp z
  have := own_open h (List.mem_range.mp hk)
  rw [e] at this
  cases this
theorem own_explains (h : OwnL p l) (hq : ∀ k : Nat, k < 7 → q.getD k .good ∈ openFor (k : Int) l) : (l.all fun z => decide (seenM z.1 q = z.2)) = true := by
  rw [List.all_eq_true]
  intro z hz
  rw [(h z hz).2]
  refine decide_eq_true (seen_congr fun k hk => ?_)
  have := open_mem.mp (hq k hk) z hz
  rw [own_fit h hk hz] at this
  exact of_decide_eq_true this
theorem un_explains (hk : k < 7) (hq : q.getD k .good ∉ openFor (k : Int) l) : (l.all fun z => decide (seenM z.1 q = z.2)) = false := by
  cases e : l.all fun z => decide (seenM z.1 q = z.2) with
  | false => rfl
  | true =>
    exfalso
    apply hq
    refine open_mem.mpr fun z hz => ?_
    have := of_decide_eq_true (List.all_eq_true.mp e z hz)
    unfold fitM
    rw [← this, seen_bit _ _ hk]
    exact decide_eq_true rfl
end
theorem count_two {α : Type} {a b : α → Bool} : ∀ l : List α, (∀ x ∈ l, a x = true → b x = false) → l.countP a + l.countP b ≤ l.length
  | [], _ => by simp
  | x :: l, h => by
    have ih := count_two l fun y hy => h y (List.mem_cons_of_mem _ hy)
    have hx := h x List.mem_cons_self
    rw [List.countP_cons, List.countP_cons, List.length_cons]
    cases e : a x with
    | true =>
      rw [hx e]
      simp
      omega
    | false => cases b x <;> simp <;> omega
theorem place_map {p : List Mk} (h : p.length = 7) : p = (List.range 7).map fun k => p.getD k .good := by
  apply List.ext_getElem
  · simp [h]
  · intro i h1 h2
    simp [h1]
theorem fewM_le {p : List Mk} {l : List (Int × Int)} (h : OwnL p l) (h7 : p.length = 7) : fewM l + p.countP (fun m => decide (m = .good)) ≤ 7 := by
  have e : p.countP (fun m => decide (m = .good)) = (List.range 7).countP fun k => decide (p.getD k .good = .good) := by
    conv => lhs; rw [place_map h7, List.countP_map]
    rfl
  have e2 : fewM l = (List.range 7).countP fun (k : Nat) => !decide (Mk.good ∈ openFor (k : Int) l) := by
    unfold fewM openM
    rw [← List.countP_eq_length_filter, List.countP_map]
    rfl
  rw [e, e2]
  refine count_two (List.range 7) fun k hk ha => ?_
  cases hg : decide (p.getD k .good = .good) with
  | false => rfl
  | true =>
    have := own_open h (List.mem_range.mp hk)
    rw [of_decide_eq_true hg] at this
    simp [this] at ha
/-! the law's showings -/
def figW (ns : List Int) (s : Int) (k : Nat) : Int := mixM (pickM ns (s + (k : Int))) (k : Int) / 7 % 10
def shwM (ns : List Int) (p : List Mk) (s : Int) (k : Nat) : Int × Int := (figW ns s k, seenM (figW ns s k) p)
def showM (ns : List Int) (p : List Mk) (s : Int) (n : Nat) : List (Int × Int) := (List.range n).map (shwM ns p s)
theorem figW_ok (ns : List Int) (s : Int) (k : Nat) : FigOk (figW ns s k) := by
  have h1 := Int.emod_nonneg (mixM (pickM ns (s + (k : Int))) (k : Int) / 7) (b := 10) (by decide)
  have h2 := Int.emod_lt_of_pos (mixM (pickM ns (s + (k : Int))) (k : Int) / 7) (b := 10) (by decide)
  exact ⟨h1, by unfold figW; omega⟩
theorem show_own (ns : List Int) (p : List Mk) (s : Int) (n : Nat) : OwnL p (showM ns p s n) := fun z hz => by
  unfold showM at hz
  obtain ⟨k, _, rfl⟩ := List.mem_map.mp hz
  exact ⟨figW_ok ns s k, rfl⟩
theorem show_len (ns : List Int) (p : List Mk) (s : Int) (n : Nat) : (showM ns p s n).length = n := by simp [showM]
/-! k06: the places that are chosen -/
def chosenM (ns : List Int) (l : List (Int × Int)) (turn k : Nat) : Mk := (openFor (k : Int) l).getD (mixM (cellM ns 2) (10 * (turn : Int) + (k : Int)) / 7 % ((openFor (k : Int) l).length : Int)).toNat .good
theorem open_pos {p : List Mk} {l : List (Int × Int)} {k : Nat} (h : OwnL p l) (hk : k < 7) : 0 < (openFor (k : Int) l).length := List.length_pos_of_mem (own_open h hk)
theorem chosen_open {ns : List Int} {p : List Mk} {l : List (Int × Int)} {turn k : Nat} (h : OwnL p l) (hk : k < 7) : chosenM ns l turn k ∈ openFor (k : Int) l := by
  have hp := open_pos h hk
  have h1 := Int.emod_nonneg (mixM (cellM ns 2) (10 * (turn : Int) + (k : Int)) / 7) (b := ((openFor (k : Int) l).length : Int)) (by omega)
  have h2 := Int.emod_lt_of_pos (mixM (cellM ns 2) (10 * (turn : Int) + (k : Int)) / 7) (b := ((openFor (k : Int) l).length : Int)) (by omega)
  unfold chosenM
  rw [List.getD_eq_getElem?_getD, List.getElem?_eq_getElem (by omega), Option.getD_some]
  exact List.getElem_mem _
/-! rules -/
section
variable {K : PySem.W.Frag} {H0 : Hp} {m : Md} {ss : List Sl} {te ta tb tl : TE} {d : PyData} {ds : List PyData} {g : TG} {tt : TT} {vs : List Nat} {r : List V → Hp → VK → Prop}
theorem nv_lc (h : Nev K H0 tl ss) : Nev K H0 (tLc (iList K tl) g tt te vs) ss := fun σ H O Q s => h σ H O _ s
theorem nv_cb (h : Nev K H0 ta ss) : Nev K H0 (tCB r (tCons ta tNil)) ss := fun σ H O Q s => h σ H O _ s
/-- xs.count(x) -/
def rCntD (K : PySem.W.Frag) : V → List V → Hp → VK → Prop := fun x xs H Q => ∃ (a : Addr) (y : V) (d : PyData) (ds : List PyData), x = V.ref a ∧ xs = [y] ∧ Dp K H (V.ref a) (.list ds) ∧ Dp K H y d ∧
  SeqAt.shaped (.list ds) = true ∧ SeqAt.shaped d = true ∧ Q (.int ((ds.countP fun z => PyData.eqv z d : Nat) : Int)) H
theorem mt_countD {X : Cx} (hu : X.A.units + 65 < cLine) : MtR X "list.count" (rCntD X.K) := by
  intro pins s σ H x xs v us Q I rx rxs h
  obtain ⟨a, y, d, ds, rfl, rfl, hl, hy, sl, sd, q⟩ := h
  cases rx
  cases rxs with
  | cons ry rt =>
    rename_i uy ut
    cases rt
    obtain ⟨bs, r1⟩ := Dp.reads I d y uy hy ry
    have hxs : PyData.canLayAll0 ds = true := SeqAt.canLay_of_shaped sl
    have hroom : X.A.units + 1 + min (PyData.depthAll ds) d.depth < cLine := room_in_shaped sd hu
    cases hl with
    | lst hs ha =>
      obtain ⟨its, rv, ⟨⟨cls, dd, data, sls⟩, n, ho, hc, hdn, hdt⟩, hlen⟩ := I.list hs
      simp only at hc hdt
      subst hc hdt
      obtain ⟨as, h4⟩ := Dp.readsAll I ds _ its ha rv
      have hmap : its.map (SeqAt.readOf s.heap) = ds := SeqAt.readsAll_map ds its as hxs h4
      have ec : its.toArray.toList.countP (fun u => PyData.eqv (SeqAt.readOf s.heap u) d) = ds.countP fun z => PyData.eqv z d := by
        rw [← hmap, List.countP_map]
        rfl
      refine call_meets PySem.F.slot_list_count ⟨_, ho, rfl⟩ PySem.F.entry_list_count (PySem.F.args_list_count_2 _ _)
        (SeqAt.list_countAt a its.toArray n dd sls uy (fun u => PyData.eqv (SeqAt.readOf s.heap u) d)) ⟨ho, SeqAt.items_eqAt (vs := its.toArray) (show ReadsAll s.heap its.toArray.toList ds as from h4) r1 hxs (SeqAt.canLay_of_shaped sd) hroom, ?_⟩
      refine ⟨.int ((ds.countP fun z => PyData.eqv z d : Nat) : Int), H, I.tok _, ⟨s.toks, ?_⟩, q⟩
      show Value.int ((its.toArray.toList.countP (fun u => PyData.eqv (SeqAt.readOf s.heap u) d) : Nat) : Int) s.toks = Value.int ((ds.countP fun z => PyData.eqv z d : Nat) : Int) s.toks
      rw [ec]
theorem mt_countK {X : Cx} (K : PySem.W.Frag) {k : Nat} (hr : Room k X.A) (h : X.K = K := by rfl) : MtR X "list.count" (rCntD K) := by
  subst h
  exact mt_countD (by have := hr.un; omega)
theorem ev_count (ha : Ev K H0 .r ta ss (.list ds)) (hb : Ev K H0 .r tb ss d) (h1 : SeqAt.shaped (.list ds) = true) (h2 : SeqAt.shaped d = true) : Ev K H0 m (tBM K "list" (rCntD K) ta (tCons tb tNil)) ss (.int ((ds.countP fun z => PyData.eqv z d : Nat) : Int)) := fun σ H O Q s q =>
  ha σ H O _ s fun v H1 e1 r1 => by
    have r1' : Dp K H1 v (.list ds) := r1
    cases r1 with
    | lst g1 g2 => exact ⟨.inl ⟨rfl, _, g1⟩, hb σ H1 O _ (s.mono e1) fun y H2 e2 r2 => ⟨_, y, d, ds, rfl, rfl, dp_mono e2 _ _ r1', r2, h1, h2, q _ H2 (Evl.Ex.trans e1 e2) (Res.ofF (.int _))⟩⟩
theorem count_good (p : List Mk) : ((p.map dMk).countP fun z => PyData.eqv z (.str "good")) = p.countP fun m => decide (m = .good) := by
  rw [List.countP_map]
  congr 1
  funext m
  exact eqv_mk m .good
end
end Li

namespace Li
open PySem PySem.Spec PyProof.Rows L2
theorem list_addAt (l : Addr) (items : Array Value) (n : Nat) (dd : Option Addr) (sl : Array (Option Value)) (b : Addr) (items2 : Array Value) (n2 : Nat) (dd2 : Option Addr) (sl2 : Array (Option Value)) (hc0 : items.size + items2.size ≤ sizeLine) :
    Meets (Builtin.«list.__add__» ⟨[.ref l, .ref b], []⟩) (fun _ R s => s.heap.get? l = some { cls := .type "list", dict := dd, data := .seq items n, slots := sl } ∧ s.heap.get? b = some { cls := .type "list", dict := dd2, data := .seq items2 n2, slots := sl2 } ∧ R (.ok (.ret (Value.ref s.heap.objs.size))) { s with heap := s.heap.push { cls := Value.type "list", data := Data.seq (items ++ items2) }, toks := s.toks }) :=
  .of_wp fun prog w A R s h => by obtain ⟨hp, g, d, tk, os⟩ := s; obtain ⟨hl, hb, h⟩ := h; have f1 := PySem.AutoSeq1.idx_int; have f2 := PySem.AutoSeq1.sub_tuple_tuple; have f3 := PySem.AutoSeq1.sub_list_list; have f4 := PySem.AutoSeq1.sub_tuple_list; have f5 := PySem.AutoSeq1.sub_list_tuple; wp_walk using PySem.AutoSeq1.wpAny_loadPart' hl, PySem.AutoSeq1.wpAny_loadPart' hb; exact ⟨_, rfl, h⟩
def rCatQ (K : PySem.W.Frag) : R2 := fun x y H Q => ∃ l b xs zs, x = .ref l ∧ y = .ref b ∧ SqL K H l xs ∧ SqL K H b zs ∧ xs.length + zs.length ≤ sizeLine ∧ ∀ p, H p = none → Q (.ref p) (upd H p (.lst (xs ++ zs)))
theorem op_catQ {X : Cx} : OpR X (binaryOp .Add) (rCatQ X.K) := by
  intro pins s σ H x y v u Q I rx ry h
  obtain ⟨l, b, xs, zs, rfl, rfl, hH, hB, hz, q⟩ := h
  cases rx
  cases ry
  obtain ⟨its, r, ⟨⟨cls, dd, data, sl⟩, n, ho, hc, hdn, hd⟩, _⟩ := I.list hH
  obtain ⟨its2, r2, ⟨⟨cls2, dd2, data2, sl2⟩, n2, ho2, hc2, hdn2, hd2⟩, _⟩ := I.list hB
  simp only at hc hd hc2 hd2
  subst hc hd hc2 hd2
  have l1 := r.length
  have l2 := r2.length
  refine concat_meets ⟨_, ho, rfl⟩ ⟨_, ho2, rfl⟩ noFill_list_add seq_list_add F.slot_list_add F.entry_list_add (F.args_list_add_2 _ _) (list_addAt l its.toArray n dd sl b its2.toArray n2 dd2 sl2 (by rw [List.size_toArray, List.size_toArray]; omega)) ⟨ho, ho2, ?_⟩
  have ea : its.toArray ++ its2.toArray = (its ++ its2).toArray := by simp
  rw [ea]
  exact ⟨.ref _, _, I.lnew (t' := s.toks) (r.append r2) (by rw [List.length_append]; omega), rfl, q _ I.fresh⟩
theorem op_catK {X : Cx} (K : PySem.W.Frag) (h : X.K = K := by rfl) : OpR X (binaryOp .Add) (rCatQ K) := by
  subst h
  exact op_catQ
section
variable {K : PySem.W.Frag} {H0 : Hp} {Φ : Fm} {m : Md} {ss ss' : List Sl} {ta tb te : TE} {ds es : List PyData} {D : Ends} {u tw : TS}
theorem evn_catQ (ha : Ev K H0 .r ta ss (.list ds)) (hb : Ev K H0 .r tb ss (.list es)) (hk : ds.all scalD = true) (hk' : es.all scalD = true) (hz : ds.length + es.length ≤ 100000) : EvN K H0 (tOp (rCatQ K) ta tb) ss (ds ++ es) := fun σ H O Q s q =>
  ha σ H O _ s fun v H1 e1 r1 => hb σ H1 O _ (s.mono e1) fun y H2 e2 r2 => by
    have r1 := Res.mono (m := .r) (K := K) (H0 := H0) (O := O) e2 r1
    cases r1 with
    | @lst a xs _ h1 h2 =>
      cases r2 with
      | @lst b ys _ g1 g2 =>
        exact ⟨a, b, xs, ys, rfl, rfl, h1, g1, Evl.sz_of (by rw [dpa_len h2, dpa_len g2]; exact hz), fun l hl => q l _ _ (Evl.Ex.trans (Evl.Ex.trans e1 e2) (Evl.Ex.new hl)) (ex_none (Evl.Ex.trans e1 e2) hl) upd_same
          (dfa_mono (hide_new (Evl.Ex.new hl) hl) _ _ (dfa_app (H0 := H0) (H := hide O H2) (dpa_scal hk h2) (dpa_scal hk' g2)))⟩
/-- while -/
theorem q_while {α : Type} {c : TT} (Iv : α → List Sl) (Pr : α → Prop) (mu : α → Nat) (b : α → Bool) (x0 : α) (l0 : Le ss (Iv x0)) (p0 : Pr x0) (hc : ∀ x, Pr x → EvT K H0 c (Iv x) (b x))
    (hb : ∀ x, Pr x → b x = true → Wp K H0 Φ tw (Iv x) { D with nx := fun σ H => ∃ y, (Pr y ∧ mu y < mu x) ∧ Sta K H0 Φ (Iv y) σ H, ct := fun σ H => ∃ y, (Pr y ∧ mu y < mu x) ∧ Sta K H0 Φ (Iv y) σ H, bk := u D })
    (hd : ∀ x, Pr x → b x = false → Wp K H0 Φ u (Iv x) D) : Wp K H0 Φ (tSeq (tWhile c tw) u) ss D := fun σ H s => by
  refine ⟨fun m σ H => ∃ x, m = mu x ∧ Pr x ∧ Sta K H0 Φ (Iv x) σ H, ⟨_, x0, rfl, p0, s.weak l0⟩, ?_⟩
  rintro m σ H ⟨x, rfl, px, O, s, p⟩
  refine hc x px σ H O _ s fun H2 e => ?_
  cases hx : b x with
  | true => exact ⟨_, fun σ' H' ⟨y, ⟨py, l⟩, s'⟩ => ⟨_, l, y, rfl, py, s'⟩, hb x px hx σ H2 (Sta.go s p e)⟩
  | false => exact hd x px hx σ H2 (Sta.go s p e)
theorem q_endw {α : Type} {Iv : α → List Sl} {P : α → Prop} {bk ct : L2.St → Hp → Prop} {rt : VK} (y : α) (hy : P y) (l : Le ss (Iv y)) : Wp K H0 Φ tNext ss { nx := fun σ H => ∃ y, P y ∧ Sta K H0 Φ (Iv y) σ H, rt := rt, bk := bk, ct := ct } := fun σ H s => ⟨y, hy, s.weak l⟩
/-- list(range(n)) -/
theorem evn_listRg {n : Nat} (hn : n ≤ 1000) : EvN K H0 (tLstRg (tRg1 (tC (.int (n : Int))))) ss ((List.range n).map fun (k : Nat) => .int (k : Int)) := fun σ H O Q s q => by
  refine ⟨(n : Int), rfl, RgOk.of_le (by omega) (by omega) (by omega) (by omega), fun p hp => q p _ _ (Evl.Ex.new hp) hp upd_same ?_⟩
  have e1 : rgV 0 (n : Int) = ((List.range n).map fun (k : Nat) => (k : Int)).map V.int := by
    unfold rgV
    rw [List.map_map, show ((n : Int) - 0).toNat = n by omega]
    refine List.map_congr_left fun k _ => ?_
    show V.int (0 + (k : Int)) = V.int (k : Int)
    rw [Int.zero_add]
  have e2 : ((List.range n).map fun (k : Nat) => PyData.int (k : Int)) = ((List.range n).map fun (k : Nat) => (k : Int)).map PyData.int := by rw [List.map_map]; rfl
  rw [e1, e2]
  exact ints_dfa
end
theorem find_at {α : Type} {p : α → Bool} {l a b : List α} {x : α} (h : l = a ++ x :: b) (ha : ∀ y ∈ a, p y = false) (hx : p x = true) : l.find? p = some x := by
  rw [h, List.find?_append, List.find?_eq_none.mpr fun y hy => by rw [ha y hy]; decide, List.find?_cons_of_pos hx]
  rfl
end Li

namespace Li
open PySem PySem.Spec PyProof.Rows L2
section
variable {K : PySem.W.Frag} {H0 : Hp} {Φ : Fm} {m m' : Md} {ss ss' : List Sl} {te ta tb tl : TE} {d : PyData} {ds es : List PyData} {D : Ends} {t u tu tw : TS} {H H2 : Hp} {O A : List Addr} {σ : L2.St} {v : V} {i : Nat} {p : Addr} {vs : List V} {tg : TA} {E : XK} {cl : Xc → Addr}
/-! ### values with objects of one's own -/
theorem hide_newA (e : Ex H H2) (hn : ∀ a ∈ A, H a = none) : Ex (hide O H) (hide (A ++ O) H2) := fun b o q => by
  have hb : b ∉ O := fun z => by rw [hide_in z] at q; cases q
  rw [hide_not hb] at q
  rw [hide_not (fun z => by
    rcases List.mem_append.mp z with z | z
    · rw [hn b z] at q; cases q
    · exact hb z)]
  exact e b o q
theorem StO.growA (s : StO K H0 O ss σ H) (e : Ex H H2) (hn : ∀ a ∈ A, H a = none) (hp : ∀ a ∈ A, H2 a ≠ none) : StO K H0 (A ++ O) ss σ H2 := by
  obtain ⟨⟨O', h, k⟩, ex, tr⟩ := s
  refine ⟨⟨O', h.mono (hide_newA e hn) fun b hb => ex_at e (tr b (k b hb)), fun b hb => List.mem_append_right _ (k b hb)⟩, Evl.Ex.trans ex (hide_newA e hn), fun b hb => ?_⟩
  rcases List.mem_append.mp hb with z | z
  · exact hp b z
  · rw [ex_at e (tr b z)]
    exact tr b z
theorem StO.putGn {g : GP} (s : StO K H0 O ss σ H) (e : Ex H H2) (hn : ∀ a ∈ A, H a = none) (hp : ∀ a ∈ A, H2 a ≠ none) (q : g.P H0 (hide (A ++ O) H2) H2 v A) : StO K H0 (A ++ O) (ss.set i (.gn g)) (σ.set i (some v)) H2 := by
  have s' := s.growA e hn hp
  obtain ⟨⟨O1, h1, k1⟩, ex, tr⟩ := s
  have s1 : Slots K H0 (hide (A ++ O) H2) H2 σ ss O1 := h1.mono (hide_newA e hn) fun b hb => ex_at e (tr b (k1 b hb))
  obtain ⟨O2, h2, k2⟩ := Slots.setGn q (i := i) (fun a ha z => tr a (k1 a z) (hn a ha)) s1
  refine ⟨⟨O2, h2, fun b hb => ?_⟩, s'.ex, s'.tr⟩
  rcases List.mem_append.mp (k2 b hb) with z | z
  · exact List.mem_append_left _ z
  · exact List.mem_append_right _ (k1 b z)
theorem hide_off {H' : Hp} (ha : ∀ a ∈ A, a ∈ O) (h : ∀ b, b ∉ A → H' b = H b) : hide O H' = hide O H := by
  funext b
  unfold hide
  split
  · rfl
  · rename_i n
    exact h b fun z => n (ha b z)
theorem StO.getGn {g : GP} (s : StO K H0 O ss σ H) (hi : ss[i]? = some (.gn g)) : ∃ v A, σ[i]? = some (some v) ∧ (∀ a ∈ A, a ∈ O) ∧ g.P H0 (hide O H) H v A ∧
    ∀ (g' : GP) (H' : Hp), (∀ b, b ∉ A → H' b = H b) → (∀ b ∈ A, H' b ≠ none) → g'.P H0 (hide O H) H' v A → StO K H0 O (ss.set i (.gn g')) σ H' ∧ hide O H' = hide O H := by
  obtain ⟨⟨O', h, k⟩, ex, tr⟩ := s
  obtain ⟨v, A, q1, q2, q3, q4⟩ := h.get_gn hi
  refine ⟨v, A, q1, fun a ha => k a (q2 a ha), q3, fun g' H' h1 h2 h3 => ?_⟩
  have he : hide O H' = hide O H := hide_off (fun a ha => k a (q2 a ha)) h1
  refine ⟨⟨⟨O', ?_, k⟩, by rw [he]; exact ex, fun b hb => ?_⟩, he⟩
  · rw [he]
    exact q4 g' H' h1 h3
  · by_cases z : b ∈ A
    · exact h2 b z
    · rw [h1 b z]
      exact tr b hb
/-! ### a list of lists, the first of them apart; perhaps in a pair -/
structure OTr where
  w : Option PyData
  f : List PyData
  rs : List PyData
def OTr.lst (t : OTr) : PyData := .list (.list t.f :: t.rs)
def OTr.dat (t : OTr) : PyData := match t.w with
  | none => t.lst
  | some m => .tuple [t.lst, m]
def WrP (H0 G : Hp) (v : V) (L : Addr) : Option PyData → Prop
  | none => v = .ref L
  | some m => ∃ T v2, v = .ref T ∧ G T = some (.tup [.ref L, v2]) ∧ Df H0 G v2 m
def TreeAt (H0 G H : Hp) (L R : Addr) (f rs : List PyData) : Prop := L ≠ R ∧ ∃ ws fs, H L = some (.lst (.ref R :: ws)) ∧ H R = some (.lst fs) ∧ DfAll H0 G fs f ∧ DfAll H0 G ws rs
theorem TreeAt.mono {G G' H' : Hp} {L R : Addr} {f rs : List PyData} (eG : Ex G G') (hL : H' L = H L) (hR : H' R = H R) (h : TreeAt H0 G H L R f rs) : TreeAt H0 G' H' L R f rs := by
  obtain ⟨n, ws, fs, h1, h2, h3, h4⟩ := h
  exact ⟨n, ws, fs, hL.trans h1, hR.trans h2, dfa_mono eG _ _ h3, dfa_mono eG _ _ h4⟩
def treeP (t : OTr) : GP where
  P := fun H0 G H v A => ∃ L R, A = [L, R] ∧ TreeAt H0 G H L R t.f t.rs ∧ WrP H0 G v L t.w
  mono := by
    rintro H0 G G' H H' v A eG hA ⟨L, R, rfl, h, hw⟩
    refine ⟨L, R, rfl, h.mono eG (hA _ (by simp)) (hA _ (by simp)), ?_⟩
    cases e : t.w with
    | none =>
      rw [e] at hw
      exact hw
    | some m =>
      rw [e] at hw
      obtain ⟨T, v2, h1, h2, h3⟩ := hw
      exact ⟨T, v2, h1, eG _ _ h2, df_mono eG _ _ h3⟩
theorem tree_dp {L R : Addr} {f rs : List PyData} (h : TreeAt H0 (hide O H) H L R f rs) : Dp K H (.ref L) (.list (.list f :: rs)) := by
  obtain ⟨_, ws, fs, h1, h2, h3, h4⟩ := h
  exact .lst (SqL.of h1) (.cons (.lst (SqL.of h2) (dfa_dp _ _ (dfa_mono hide_le _ _ h3))) (dfa_dp _ _ (dfa_mono hide_le _ _ h4)))
theorem wr_dp {t : OTr} {L R : Addr} (h : TreeAt H0 (hide O H) H L R t.f t.rs) (hw : WrP H0 (hide O H) v L t.w) : Dp K H v t.dat := by
  unfold OTr.dat
  cases e : t.w with
  | none =>
    rw [e] at hw
    cases hw
    exact tree_dp h
  | some m =>
    rw [e] at hw
    obtain ⟨T, v2, rfl, h2, h3⟩ := hw
    exact .tup (SqT.of (hide_le _ _ h2)) (.cons (tree_dp h) (.cons (df_dp _ _ (df_mono hide_le _ _ h3)) .nil))
theorem ev_tree {t : OTr} (h : ss[i]? = some (.gn (treeP t))) : Ev K H0 .r (tVar i) ss t.dat := fun σ H O Q s q => by
  obtain ⟨v, A, h1, h2, ⟨L, R, rfl, h3, h4⟩, _⟩ := s.getGn h
  exact ⟨v, h1, q v H (Evl.Ex.refl H) (wr_dp h3 h4)⟩
/-- a new list of lists, nobody else's, nor its first one -/
def EvNT (K : PySem.W.Frag) (H0 : Hp) (te : TE) (ss : List Sl) (f rs : List PyData) : Prop := ∀ (σ : L2.St) (H : Hp) (O : List Addr) (Q : VK), StO K H0 O ss σ H →
  (∀ L R H2, Ex H H2 → H L = none → H R = none → TreeAt H0 (hide ([L, R] ++ O) H2) H2 L R f rs → Q (.ref L) H2) → te σ H Q
theorem tree_some {G : Hp} {L R : Addr} {f rs : List PyData} (h : TreeAt H0 G H L R f rs) : ∀ a ∈ [L, R], H a ≠ none := by
  obtain ⟨_, ws, fs, h1, h2, _⟩ := h
  intro a ha
  rcases List.mem_cons.mp ha with e | e
  · rw [e, h1]
    exact fun z => by cases z
  · rw [List.mem_singleton.mp e, h2]
    exact fun z => by cases z
theorem q_asgT {f rs : List PyData} (h : EvNT K H0 te ss f rs) (k : Wp K H0 Φ u (ss.set i (.gn (treeP ⟨none, f, rs⟩))) D) : Wp K H0 Φ (tSeq (tAsg te (gName i)) u) ss D := fun σ H ⟨O, s, p⟩ =>
  h σ H O _ s fun L R H2 e hL hR ht => by
    have hn : ∀ a ∈ [L, R], H a = none := fun a ha => by
      rcases List.mem_cons.mp ha with e | e
      · rw [e, hL]
      · rw [List.mem_singleton.mp e, hR]
    exact k _ _ ⟨[L, R] ++ O, s.putGn (A := [L, R]) e hn (tree_some ht) ⟨L, R, rfl, ht, rfl⟩, Φ.mono (hide_newA e hn) p⟩
theorem hide_two {L R : Addr} : hide ([L, R] ++ O) H = hide (R :: L :: O) H := by
  funext b
  unfold hide
  have e : b ∈ [L, R] ++ O ↔ b ∈ R :: L :: O := by simp [or_comm, or_left_comm, or_assoc]
  by_cases h : b ∈ [L, R] ++ O
  · rw [if_pos h, if_pos (e.mp h)]
  · rw [if_neg h, if_neg fun z => h (e.mpr z)]
theorem evnt_lc {α : Type} {wi : TI} {g : TG} {vs : List Nat} {x0 : α} {l : List α} {en : α → PyData} (f : α → List PyData) (sb : α → List Sl) (hi : EvI K H0 m wi ss ((x0 :: l).map en)) (hg : ∀ x ∈ x0 :: l, TgW K H0 vs m g (en x) (wipeS ss vs) (sb x))
    (he : ∀ x ∈ x0 :: l, EvN K H0 te (sb x) (f x)) (hz : l.length ≤ 90000 := by exact Nat.le_of_ble_eq_true rfl) : EvNT K H0 (tLc wi g tYes te vs) ss (f x0) (l.map fun x => .list (f x)) := fun σ H O Q s q => by
  refine hi σ H O _ s fun J H2 Ψ Y e mono hΨ w hY => ?_
  intro D hD
  have hlen : ((x0 :: l).map en).length = (x0 :: l).length := List.length_map _
  rw [hlen] at w
  have nD : H D = none := ex_none e hD
  have e1 : Ex H (upd H2 D (.lst [])) := Evl.Ex.trans e (Evl.Ex.new hD)
  refine lc_it w (fun i H' => Ex H H' ∧ ((i = 0 ∧ H' D = some (.lst []) ∧ Ψ (hide (D :: O) H')) ∨ ∃ j R ws fs, i = j + 1 ∧ H R = none ∧ D ≠ R ∧ H' D = some (.lst (.ref R :: ws)) ∧ H' R = some (.lst fs) ∧ DfAll H0 (hide (R :: D :: O) H') fs (f x0) ∧ DfAll H0 (hide (R :: D :: O) H') ws ((l.take j).map fun x => .list (f x)) ∧ Ψ (hide (R :: D :: O) H')))
    ⟨e1, .inl ⟨rfl, upd_same, mono _ _ (hide_new (Evl.Ex.new hD) hD) hΨ⟩⟩ (fun i H' _ h => ?_) (fun i x H' H'' hi y' y => ?_) (fun H' h => ?_)
  · obtain ⟨_, ⟨_, _, h⟩ | ⟨_, _, _, _, _, _, _, _, _, _, _, h⟩⟩ := h
    · exact mono _ _ hide_le h
    · exact mono _ _ hide_le h
  · have hx : (x0 :: l)[i]? = some (x0 :: l)[i] := List.getElem?_eq_getElem hi
    have hm : (x0 :: l)[i] ∈ x0 :: l := List.getElem_mem hi
    obtain ⟨ex, ⟨rfl, hDl, hp⟩ | ⟨j, R, ws, fs, rfl, hR, hDR, hDl, hRl, hdf, hdr, hp⟩⟩ := y'
    · have s' : StO K H0 (D :: O) (wipeS ss vs) (L2.wipe σ vs) H' := (s.grow ex nD (by rw [hDl]; exact fun z => by cases z)).wipe vs
      obtain ⟨e2, hr⟩ := hY 0 H' x H'' (en (x0 :: l)[0]) y s'.ex1 (by rw [List.getElem?_map, hx]; rfl)
      have r := hr (D :: O) s'.tr hp
      refine hg _ hm (L2.wipe σ vs) H'' (D :: O) x _ (s'.mono e2) r fun σ2 s2 hw => ⟨hw σ rfl, et_yes σ2 H'' (D :: O) _ s2 fun H3 e3 => ?_⟩
      have e23 : Ex H' H3 := Evl.Ex.trans e2 e3
      rw [if_pos rfl]
      refine he _ hm σ2 H3 (D :: O) _ (s2.mono e3) fun p vs0 H4 e4 hpn hpl hpd => ?_
      have e24 : Ex H' H4 := Evl.Ex.trans e23 e4
      have in' : D ∈ p :: D :: O := List.mem_cons_of_mem _ List.mem_cons_self
      have hDp : D ≠ p := fun z => by
        have := e23 _ _ hDl
        rw [z, hpn] at this
        cases this
      refine ⟨[], e24 _ _ hDl, Evl.sz_lt (by show 0 < _; decide), Evl.Ex.mut (Evl.Ex.trans ex e24) nD, .inr ⟨0, p, [], vs0, rfl, ex_none (Evl.Ex.trans ex e23) hpn, hDp, upd_same, (upd_ne (Ne.symm hDp)).trans hpl, ?_, .nil, ?_⟩⟩
      · rw [hide_upd in']
        exact hpd
      · rw [hide_upd in']
        exact mono _ _ (hide_new e24 (ex_none e23 hpn)) hp
    · have hn : ∀ a ∈ [R, D], H a = none := fun a ha => by
        rcases List.mem_cons.mp ha with e | e
        · rw [e, hR]
        · rw [List.mem_singleton.mp e, nD]
      have hs' : ∀ a ∈ [R, D], H' a ≠ none := fun a ha => by
        rcases List.mem_cons.mp ha with e | e
        · rw [e, hRl]
          exact fun z => by cases z
        · rw [List.mem_singleton.mp e, hDl]
          exact fun z => by cases z
      have s' : StO K H0 (R :: D :: O) (wipeS ss vs) (L2.wipe σ vs) H' := (s.growA (A := [R, D]) ex hn hs').wipe vs
      obtain ⟨e2, hr⟩ := hY (j + 1) H' x H'' (en (x0 :: l)[j + 1]) y s'.ex1 (by rw [List.getElem?_map, hx]; rfl)
      have r := hr (R :: D :: O) s'.tr hp
      refine hg _ hm (L2.wipe σ vs) H'' (R :: D :: O) x _ (s'.mono e2) r fun σ2 s2 hw => ⟨hw σ rfl, et_yes σ2 H'' (R :: D :: O) _ s2 fun H3 e3 => ?_⟩
      have e23 : Ex H' H3 := Evl.Ex.trans e2 e3
      rw [if_pos rfl]
      refine (he _ hm).f (m := .f) σ2 H3 (R :: D :: O) _ (s2.mono e3) fun y H4 e4 r4 => ?_
      have e24 : Ex H' H4 := Evl.Ex.trans e23 e4
      have in' : D ∈ R :: D :: O := List.mem_cons_of_mem _ List.mem_cons_self
      have hj : j < l.length := by
        have := hi
        simp at this
        exact this
      have lw : ws.length ≤ j := by
        rw [dfa_len hdr, List.length_map, List.length_take]
        exact Nat.min_le_left _ _
      have st : l.take (j + 1) = l.take j ++ [(x0 :: l)[j + 1]] := by
        rw [List.take_add_one, List.getElem?_eq_getElem hj]
        rfl
      refine ⟨.ref R :: ws, e24 _ _ hDl, Evl.sz_lt (by rw [List.length_cons]; omega), Evl.Ex.mut (Evl.Ex.trans ex e24) nD, .inr ⟨j + 1, R, ws ++ [y], fs, rfl, hR, hDR, upd_same, (upd_ne (Ne.symm hDR)).trans (e24 _ _ hRl), ?_, ?_, ?_⟩⟩
      · rw [hide_upd in']
        exact dfa_mono (hide_mono e24) _ _ hdf
      · rw [hide_upd in', st, List.map_append]
        exact dfa_app (dfa_mono (hide_mono e24) _ _ hdr) (.cons r4 .nil)
      · rw [hide_upd in']
        exact mono _ _ (hide_mono e24) hp
  · obtain ⟨ex, ⟨e, _⟩ | ⟨j, R, ws, fs, e, hR, hDR, hDl, hRl, hdf, hdr, hp⟩⟩ := h
    · simp at e
    · have e : j = l.length := by simpa using e.symm
      subst e
      rw [List.take_length] at hdr
      exact q D R H' ex nD hR ⟨hDR, ws, fs, hDl, hRl, by rw [hide_two]; exact hdf, by rw [hide_two]; exact hdr⟩
/-! ### promises of such a list -/
def RetT (H : Hp) (f rs : List PyData) (Q : VK) : Prop := ∀ L R H2, Ex H H2 → H L = none → H R = none → TreeAt H (hide [L, R] H2) H2 L R f rs → Q (.ref L) H2
abbrev Two := List PyData × List PyData
def EndT (cl : Xc → Addr) (H : Hp) (Q : VK) (E : XK) : Except Xc Two → Prop
  | .ok x => RetT H x.1 x.2 Q
  | .error c => RaiOk cl H c E
def spXT (K : PySem.W.Frag) (cl : Xc → Addr) (R : List PyData → Except Xc Two → Prop) : Sp := fun vs H Q E => ∃ ds r, DpAll K H vs ds ∧ R ds r ∧ EndT cl H Q E r
theorem hide_sub {A B : List Addr} (h : ∀ b ∈ A, b ∈ B) : Ex (hide B H) (hide A H) := hide_more h
theorem q_retT {f rs : List PyData} (h : EvNT K H0 te ss f rs) (k : RetT H0 f rs D.rt) : Wp K H0 Φ (tSeq (tRet te) u) ss D := fun σ H ⟨O, s, p⟩ =>
  h σ H O _ s fun L R H2 e hL hR ht => k L R H2 (Evl.Ex.trans s.ex1 e) (ex_none s.ex1 hL) (ex_none s.ex1 hR) (ht.mono (hide_more fun b hb => List.mem_append_left _ hb) rfl rfl)
theorem q_retoT {f rs : List PyData} (h : ss[i]? = some (.gn (treeP ⟨none, f, rs⟩))) (k : RetT H0 f rs D.rt) : Wp K H0 Φ (tSeq (tRet (tVar i)) u) ss D := fun σ H ⟨O, s, p⟩ => by
  obtain ⟨v, A, h1, h2, ⟨L, R, rfl, h3, h4⟩, _⟩ := s.getGn h
  cases h4
  have hn : ∀ a ∈ [L, R], H0 a = none := fun a ha => ex_none s.ex (hide_in (h2 a ha))
  exact ⟨.ref L, h1, k L R H s.ex1 (hn L (by simp)) (hn R (by simp)) (h3.mono (hide_more h2) rfl rfl)⟩
theorem hide_hideA : hide O (hide A H) = hide (A ++ O) H := by
  funext b
  unfold hide
  by_cases h : b ∈ O
  · rw [if_pos h, if_pos (List.mem_append_right _ h)]
  · rw [if_neg h]
    by_cases h2 : b ∈ A
    · rw [if_pos h2, if_pos (List.mem_append_left _ h2)]
    · rw [if_neg h2, if_neg (by simp [h, h2])]
theorem TreeAt.hid {L R : Addr} {f rs : List PyData} (s : StO K H0 O ss σ H) (h : TreeAt H (hide [L, R] H2) H2 L R f rs) : TreeAt H0 (hide ([L, R] ++ O) H2) H2 L R f rs := by
  obtain ⟨n, ws, fs, h1, h2, h3, h4⟩ := h
  refine ⟨n, ws, fs, h1, h2, ?_, ?_⟩
  · rw [← hide_hideA]
    exact dfa_hide s.ex1 s.tr _ _ h3
  · rw [← hide_hideA]
    exact dfa_hide s.ex1 s.tr _ _ h4
theorem evnt_callX {R : List PyData → Except Xc Two → Prop} {f rs : List PyData} (ha : EvA K H0 .r tg ss ds) (hR : R ds (.ok (f, rs))) : EvNT K H0 (tCall (spXT K cl R) [] E tg) ss f rs := fun σ H O Q s q =>
  ha σ H O _ s fun vs H2 e r => ⟨ds, .ok (f, rs), by rw [List.append_nil]; exact r, hR, fun L R H3 e3 hL hR' ht => q L R H3 (Evl.Ex.trans e e3) (ex_none e hL) (ex_none e hR') (ht.hid (s.mono e))⟩
theorem tree_df {L R : Addr} {f rs : List PyData} (hL : H L = none) (hR : H R = none) (h : TreeAt H (hide [L, R] H2) H2 L R f rs) : Df H H2 (.ref L) (.list (.list f :: rs)) := by
  obtain ⟨n, ws, fs, h1, h2, h3, h4⟩ := h
  exact .lst hL h1 (.cons (.lst hR h2 (dfa_mono hide_le _ _ h3)) (dfa_mono hide_le _ _ h4))
def datR : Except Xc Two → Except Xc PyData
  | .ok x => .ok (.list (.list x.1 :: x.2))
  | .error c => .error c
/-- the plain promise -/
theorem Cal.plain {P : Program} {w : World} {mg : Str → Option Value} {base : Heap} {CX : CXT} {k : Nat} {x : Str} {ps : List Str} {R : List PyData → Except Xc Two → Prop} {R' : List PyData → Except Xc PyData → Prop} (C : Cal P w K mg base CX k x ps (spXT K cl R)) (h : ∀ ds r, R' ds r → ∃ r', R ds r' ∧ r = datR r') : Cal P w K mg base CX k x ps (spX K cl R') := by
  obtain ⟨f, fd, h1, h2, h3, h4⟩ := C
  refine ⟨f, fd, h1, h2, h3, h4.imp fun vs H Q E ⟨ds, r, g1, g2, g3⟩ => ?_⟩
  obtain ⟨r', g4, rfl⟩ := h ds r g2
  refine ⟨ds, r', g1, g4, ?_⟩
  cases r' with
  | ok x => exact fun L R H2 e hL hR ht => g3 _ _ e (tree_df hL hR ht)
  | error c => exact g3
theorem cal_okXT {P : Program} {w : World} {mg : Str → Option Value} {base : Heap} {x : Str} {st : Stmt} {N ps : List Str} {k : Nat} {R : List PyData → Except Xc Two → Prop} (F : DefAt K mg x st ps) (S : FnScope N ps (defScope st)) (hlen : ∀ ds d, R ds d → ds.length = ps.length)
    (hb : ∀ (f : Addr) (cdv : Value) (A : Around) (outer : List Env) (s : Shared) (H : Hp) (E : XK), Room k (A.deeper (envOfC x (defScope st) s.heap.objs.size f cdv)) →
      ∃ t, PSs (cxOf (L2.CX P w) P w K mg base N x (defScope st) f cdv A outer s H E) (defBody st) t ∧ ∀ ds r, R ds r → ∀ D, EndT cl H D.rt E r → Wp K H Fm.top t (startS N ds) D) :
    Cal P w K mg base (L2.CX P w) (k + 1) x ps (spXT K cl R) := by
  obtain ⟨f, fd, F, gm, bd⟩ := F
  refine ⟨f, fd, gm, F.kp, bd, F.okX S (fun vs H Q E h => ?_) (fun cdv A outer s H vs Q E hr h => ?_)⟩
  · obtain ⟨ds, d, h1, h2, _⟩ := h
    rw [dpa_len h1]
    exact hlen ds d h2
  · obtain ⟨ds, d, h1, h2, h3⟩ := h
    obtain ⟨t, p1, p2⟩ := hb f cdv A outer s H E hr
    exact ⟨t, p1, p2 ds d h2 { nx := _, rt := Q } h3 _ _ (sta_start h1)⟩
/-! in a pair -/
def RetTT (H : Hp) (f rs : List PyData) (m : PyData) (Q : VK) : Prop := ∀ T L R v2 H2, Ex H H2 → H T = none → H L = none → H R = none → TreeAt H (hide [L, R] H2) H2 L R f rs → hide [L, R] H2 T = some (.tup [.ref L, v2]) → Df H (hide [L, R] H2) v2 m → Q (.ref T) H2
def EndTT (H : Hp) (m : PyData) (n : Xc → PyData) (Q : VK) : Except Xc Two → Prop
  | .ok x => RetTT H x.1 x.2 m Q
  | .error c => RetOk H (n c) Q
def spTT (K : PySem.W.Frag) (m : PyData) (n : Xc → PyData) (R : List PyData → Except Xc Two → Prop) : Sp := fun vs H Q _ => ∃ ds r, DpAll K H vs ds ∧ R ds r ∧ EndTT H m n Q r
theorem cal_okTT {P : Program} {w : World} {mg : Str → Option Value} {base : Heap} {x : Str} {st : Stmt} {N ps : List Str} {k : Nat} {mm : PyData} {nn : Xc → PyData} {R : List PyData → Except Xc Two → Prop} (F : DefAt K mg x st ps) (S : FnScope N ps (defScope st)) (hlen : ∀ ds d, R ds d → ds.length = ps.length)
    (hb : ∀ (f : Addr) (cdv : Value) (A : Around) (outer : List Env) (s : Shared) (H : Hp) (E : XK), Room k (A.deeper (envOfC x (defScope st) s.heap.objs.size f cdv)) →
      ∃ t, PSs (cxOf CX0 P w K mg base N x (defScope st) f cdv A outer s H E).nox (defBody st) t ∧ ∀ ds r, R ds r → ∀ D, EndTT H mm nn D.rt r → Wp K H Fm.top t (startS N ds) D) :
    Cal P w K mg base CX0 (k + 1) x ps (spTT K mm nn R) := by
  obtain ⟨f, fd, F, gm, bd⟩ := F
  refine ⟨f, fd, gm, F.kp, bd, F.ok S (fun vs H Q E h => ?_) (fun cdv A outer s H vs Q E hr h => ?_)⟩
  · obtain ⟨ds, d, h1, h2, _⟩ := h
    rw [dpa_len h1]
    exact hlen ds d h2
  · obtain ⟨ds, d, h1, h2, h3⟩ := h
    obtain ⟨t, p1, p2⟩ := hb f cdv A outer s H E hr
    exact ⟨t, p1, p2 ds d h2 _ h3 _ _ (sta_start h1)⟩
/-- return (found, marks) -/
theorem q_retTT {j : Nat} {f rs : List PyData} {mm : PyData} (h : ss[i]? = some (.gn (treeP ⟨none, f, rs⟩))) (hj : ss[j]? = some (.fr mm)) (k : RetTT H0 f rs mm D.rt) : Wp K H0 Φ (tSeq (tRet (tTup (tCons (tVar i) (tCons (tVar j) tNil)))) u) ss D := fun σ H ⟨O, s, p⟩ => by
  obtain ⟨v, A, h1, h2, ⟨L, R, rfl, h3, h4⟩, _⟩ := s.getGn h
  cases h4
  obtain ⟨O', hs, _⟩ := s.sl
  obtain ⟨v2, g1, g2⟩ := hs.get_fr hj
  have hn : ∀ a ∈ [L, R], H0 a = none := fun a ha => ex_none s.ex (hide_in (h2 a ha))
  refine ⟨.ref L, h1, v2, g1, (by show 2 ≤ sizeLine; decide), fun T hT => ?_⟩
  have e : Ex H (upd H T (.tup [.ref L, v2])) := Evl.Ex.new hT
  have nT : T ∉ [L, R] := fun z => tree_some h3 T z hT
  have ne : ∀ a ∈ [L, R], a ≠ T := fun a ha z => nT (z ▸ ha)
  refine k T L R v2 _ (Evl.Ex.trans s.ex1 e) (ex_none s.ex1 hT) (hn L (by simp)) (hn R (by simp)) (h3.mono (Evl.Ex.trans (hide_more h2) (hide_mono e)) (upd_ne (ne L (by simp))) (upd_ne (ne R (by simp)))) ?_ ?_
  · rw [hide_not nT]
    exact upd_same
  · exact df_mono (Evl.Ex.trans (hide_more h2) (hide_mono e)) _ _ g2
/-- told = f(..) -/
theorem q_asgTT {R : List PyData → Except Xc Two → Prop} {f rs : List PyData} {mm : PyData} {nn : Xc → PyData} (ha : EvA K H0 .r tg ss ds) (hR : R ds (.ok (f, rs))) (k : Wp K H0 Φ u (ss.set i (.gn (treeP ⟨some mm, f, rs⟩))) D) : Wp K H0 Φ (tSeq (tAsg (tCall (spTT K mm nn R) [] E tg) (gName i)) u) ss D := fun σ H ⟨O, s, p⟩ =>
  ha σ H O _ s fun vs H2 e r => ⟨ds, .ok (f, rs), by rw [List.append_nil]; exact r, hR, fun T L R v2 H3 e3 hT hL hR' ht h5 h6 => by
    have hn : ∀ a ∈ [L, R], H2 a = none := fun a ha => by
      rcases List.mem_cons.mp ha with e | e
      · rw [e, hL]
      · rw [List.mem_singleton.mp e, hR']
    have s2 := s.mono e
    have nT : T ∉ O := fun z => s2.tr T z hT
    have hd := df_hide s2.ex1 s2.tr _ _ h6
    rw [hide_hideA] at hd
    refine k _ _ ⟨[L, R] ++ O, s2.putGn (A := [L, R]) (v := .ref T) e3 hn (tree_some ht) ⟨L, R, rfl, ht.hid s2, T, v2, rfl, ?_, hd⟩, Φ.mono (Evl.Ex.trans (hide_mono e) (hide_newA e3 hn)) p⟩
    rw [← hide_hideA, hide_not nT]
    exact h5⟩
theorem ev_callTT {R : List PyData → Except Xc Two → Prop} {mm : PyData} {nn : Xc → PyData} {c : Xc} (ha : EvA K H0 .r tg ss ds) (hR : R ds (.error c)) : Ev K H0 m (tCall (spTT K mm nn R) [] E tg) ss (nn c) := fun σ H O Q s q =>
  ha σ H O _ s fun vs H2 e r => ⟨ds, .error c, by rw [List.append_nil]; exact r, hR, fun v H3 e3 hd => q v H3 (Evl.Ex.trans e e3) (Res.ofCall (s.mono e) e3 hd)⟩
/-! ### changes -/
theorem atI_zero {α : Type} (a : α) (l : List α) : atI (a :: l) 0 = some a := by
  unfold atI
  rw [show (0 : Int) = ((0 : Nat) : Int) from rfl, ixN_lit (by simp)]
  rfl
def tL (K : PySem.W.Frag) (i : Nat) : Option PyData → TE
  | none => tVar i
  | some _ => tOp (rIxT K) (tVar i) (tC (.int 0))
theorem tL_run {w : Option PyData} {L : Addr} {Q : VK} (h1 : σ[i]? = some (some v)) (h : WrP H0 (hide O H) v L w) (q : Q (.ref L) H) : tL K i w σ H Q := by
  cases w with
  | none =>
    cases h
    exact ⟨_, h1, q⟩
  | some m =>
    obtain ⟨T, v2, rfl, h2, h3⟩ := h
    exact ⟨_, h1, T, [.ref L, v2], 0, .ref L, rfl, rfl, SqT.of (hide_le _ _ h2), rfl, q⟩
theorem upd_some {L R p : Addr} {o : HO} (h : ∀ a ∈ [L, R], H a ≠ none) : ∀ a ∈ [L, R], upd H p o a ≠ none := fun a ha => by
  by_cases z : a = p
  · rw [z, upd_same]
    exact fun z => by cases z
  · rw [upd_ne z]
    exact h a ha
/-- told.append(e), told[0].append(e) -/
theorem q_mutL {t0 : OTr} (hi : ss[i]? = some (.gn (treeP t0))) (h : Ev K H0 .f te ss d) (k : Wp K H0 Φ u (ss.set i (.gn (treeP ⟨t0.w, t0.f, t0.rs ++ [d]⟩))) D) (hz : t0.rs.length < 90000) :
    Wp K H0 Φ (tSeq (tDrop (tBM K "list" rAppend (tL K i t0.w) (tCons te tNil))) u) ss D := fun σ H ⟨O, s, p⟩ => by
  obtain ⟨v, A, h1, h2, ⟨L, R, rfl, h3, h4⟩, _⟩ := s.getGn hi
  have hL : ∃ ws, H L = some (.lst ws) := by
    obtain ⟨_, ws, fs, g, _⟩ := h3
    exact ⟨_, g⟩
  obtain ⟨ws0, hws0⟩ := hL
  refine tL_run h1 h4 ⟨.inl ⟨rfl, ws0, SqL.of hws0⟩, h σ H O _ s fun y H2 e r => ?_⟩
  obtain ⟨v', A', h1', h2', ⟨L', R', rfl, h3', h4'⟩, h5'⟩ := (s.mono e).getGn hi
  have ev : v' = v := by
    have := h1'.symm.trans h1
    simpa using this
  subst ev
  have eL : L' = L := by
    cases e1 : t0.w with
    | none =>
      rw [e1] at h4 h4'
      cases h4
      cases h4'
      rfl
    | some mm =>
      rw [e1] at h4 h4'
      obtain ⟨T, v2, rfl, g2, _⟩ := h4
      obtain ⟨T', v2', e3, g2', _⟩ := h4'
      cases e3
      have := (hide_mono e _ _ g2).symm.trans g2'
      simp at this
      exact this.1.symm
  subst eL
  have hso := tree_some h3'
  obtain ⟨n, ws, fs, g1, g2, g3, g4⟩ := h3'
  refine ⟨L', .ref R' :: ws, y, rfl, rfl, g1, Evl.sz_lt (by rw [List.length_cons, dfa_len g4]; omega), ?_⟩
  obtain ⟨s', he⟩ := h5' (treeP ⟨t0.w, t0.f, t0.rs ++ [d]⟩) (upd H2 L' (.lst (.ref R' :: ws ++ [y]))) (fun b hb => upd_ne fun z => hb (by rw [z]; simp)) (upd_some hso)
    ⟨L', R', rfl, ⟨n, ws ++ [y], fs, upd_same, (upd_ne (Ne.symm n)).trans g2, g3, dfa_app g4 (.cons r .nil)⟩, h4'⟩
  exact k _ _ ⟨O, s', by rw [he]; exact Φ.mono (hide_mono e) p⟩
/-- told[0].append(e), told[0][0].append(e) -/
theorem q_mutF {t0 : OTr} (hi : ss[i]? = some (.gn (treeP t0))) (h : Ev K H0 .f te ss d) (k : Wp K H0 Φ u (ss.set i (.gn (treeP ⟨t0.w, t0.f ++ [d], t0.rs⟩))) D) (hz : t0.f.length < 90000) :
    Wp K H0 Φ (tSeq (tDrop (tBM K "list" rAppend (tOp (rIxL K) (tL K i t0.w) (tC (.int 0))) (tCons te tNil))) u) ss D := fun σ H ⟨O, s, p⟩ => by
  obtain ⟨v, A, h1, h2, ⟨L, R, rfl, h3, h4⟩, _⟩ := s.getGn hi
  have h3c := h3
  obtain ⟨_, ws0, fs0, g10, g20, _⟩ := h3c
  refine tL_run h1 h4 ⟨L, .ref R :: ws0, 0, .ref R, rfl, rfl, SqL.of g10, atI_zero _ _, .inl ⟨rfl, fs0, SqL.of g20⟩, h σ H O _ s fun y H2 e r => ?_⟩
  obtain ⟨v', A', h1', h2', ⟨L', R', rfl, h3', h4'⟩, h5'⟩ := (s.mono e).getGn hi
  have ev : v' = v := by
    have := h1'.symm.trans h1
    simpa using this
  subst ev
  have eL : L' = L := by
    cases e1 : t0.w with
    | none =>
      rw [e1] at h4 h4'
      cases h4
      cases h4'
      rfl
    | some mm =>
      rw [e1] at h4 h4'
      obtain ⟨T, v2, rfl, g2, _⟩ := h4
      obtain ⟨T', v2', e3, g2', _⟩ := h4'
      cases e3
      have := (hide_mono e _ _ g2).symm.trans g2'
      simp at this
      exact this.1.symm
  subst eL
  have hso := tree_some h3'
  obtain ⟨n, ws, fs, g1, g2, g3, g4⟩ := h3'
  have eR : R' = R := by
    have := (e _ _ g10).symm.trans g1
    simp at this
    exact this.1.symm
  subst eR
  refine ⟨R', fs, y, rfl, rfl, g2, Evl.sz_lt (by rw [dfa_len g3]; omega), ?_⟩
  obtain ⟨s', he⟩ := h5' (treeP ⟨t0.w, t0.f ++ [d], t0.rs⟩) (upd H2 R' (.lst (fs ++ [y]))) (fun b hb => upd_ne fun z => hb (by rw [z]; simp)) (upd_some hso)
    ⟨L', R', rfl, ⟨n, ws, fs ++ [y], (upd_ne n).trans g1, upd_same, dfa_app g3 (.cons r .nil), g4⟩, h4'⟩
  exact k _ _ ⟨O, s', by rw [he]; exact Φ.mono (hide_mono e) p⟩
/-- told[0][0] = e -/
theorem q_mutS {t0 : OTr} (hi : ss[i]? = some (.gn (treeP t0))) {z : Int} (j : Nat) (h : Ev K H0 .f te ss d) (hj : ixN t0.f.length z = some j) (k : Wp K H0 Φ u (ss.set i (.gn (treeP ⟨t0.w, t0.f.set j d, t0.rs⟩))) D) :
    Wp K H0 Φ (tSeq (tAsg te (gSub (tOp (rIxL K) (tL K i t0.w) (tC (.int 0))) (tC (.int z)) rSetL)) u) ss D := fun σ H ⟨O, s, p⟩ => by
  refine h σ H O _ s fun y H2 e r => ?_
  obtain ⟨v, A, h1, h2, ⟨L, R, rfl, h3, h4⟩, h5⟩ := (s.mono e).getGn hi
  have hso := tree_some h3
  obtain ⟨n, ws, fs, g1, g2, g3, g4⟩ := h3
  refine tL_run h1 h4 ⟨L, .ref R :: ws, 0, .ref R, rfl, rfl, SqL.of g1, atI_zero _ _, R, fs, z, j, rfl, rfl, g2, by rw [dfa_len g3]; exact hj, ?_⟩
  obtain ⟨s', he⟩ := h5 (treeP ⟨t0.w, t0.f.set j d, t0.rs⟩) (upd H2 R (.lst (fs.set j y))) (fun b hb => upd_ne fun z => hb (by rw [z]; simp)) (upd_some hso)
    ⟨L, R, rfl, ⟨n, ws, fs.set j y, (upd_ne n).trans g1, upd_same, dfa_set g3 r, g4⟩, h4⟩
  exact k _ _ ⟨O, s', by rw [he]; exact Φ.mono (hide_mono e) p⟩
end
end Li

namespace Li
open PySem PySem.Spec PyProof.Rows L2 TL
/-! ### a written dict, texts to texts -/
structure SDict (K : PySem.W.Frag) (w : World) (d : Addr) (get : Str → Option Str) : Prop where
  kd : ∃ es n, KDict K w d es n
  hit : ∀ z v, get z = some v → ∃ t, PySem.W.nsIn K d z = some (some (.str v t))
  miss : ∀ z, get z = none → PySem.W.nsIn K d z = some none
def get3 (k0 v0 k1 v1 k2 v2 : Str) (z : Str) : Option Str := if k0 = z then some v0 else if k1 = z then some v1 else if k2 = z then some v2 else none
theorem sdict_at {K : PySem.W.Frag} {w : World} {d : Addr} {n : Nat} {h0 h1 h2 : Int} {t0 t1 t2 u0 u1 u2 : Tok} {k0 v0 k1 v1 k2 v2 : Str}
    (l : K.lookup d = some ⟨.type "dict", none, .dict #[⟨h0, .str k0 t0, .str v0 u0⟩, ⟨h1, .str k1 t1, .str v1 u1⟩, ⟨h2, .str k2 t2, .str v2 u2⟩] n, #[]⟩)
    (lit : PySem.W.KeysLit w.params [⟨h0, .str k0 t0, .str v0 u0⟩, ⟨h1, .str k1 t1, .str v1 u1⟩, ⟨h2, .str k2 t2, .str v2 u2⟩]) (low : (d == sysModules) = false) : SDict K w d (get3 k0 v0 k1 v1 k2 v2) := by
  have key : ∀ z, PySem.W.nsIn K d z = some (if k0 = z then some (.str v0 u0) else if k1 = z then some (.str v1 u1) else if k2 = z then some (.str v2 u2) else none) := fun z => by
    unfold PySem.W.nsIn
    rw [l]
    simp only [List.find?, Value.isStr]
    by_cases e0 : k0 = z
    · simp [e0]
    · have b0 : (k0 == z) = false := beq_false_of_ne e0
      by_cases e1 : k1 = z
      · have b1 : (k1 == z) = true := by simp [e1]
        rw [if_neg e0, if_pos e1]
        simp only [b0, b1]
      · have b1 : (k1 == z) = false := beq_false_of_ne e1
        by_cases e2 : k2 = z
        · have b2 : (k2 == z) = true := by simp [e2]
          rw [if_neg e0, if_neg e1, if_pos e2]
          simp only [b0, b1, b2]
        · have b2 : (k2 == z) = false := beq_false_of_ne e2
          rw [if_neg e0, if_neg e1, if_neg e2]
          simp only [b0, b1, b2]
          simp [DictEntry.refKey]
  refine ⟨⟨_, _, l, lit, low⟩, fun z v h => ?_, fun z h => ?_⟩
  · rw [key z]
    unfold get3 at h
    by_cases e0 : k0 = z
    · rw [if_pos e0] at h ⊢
      cases h
      exact ⟨_, rfl⟩
    · rw [if_neg e0] at h ⊢
      by_cases e1 : k1 = z
      · rw [if_pos e1] at h ⊢
        cases h
        exact ⟨_, rfl⟩
      · rw [if_neg e1] at h ⊢
        by_cases e2 : k2 = z
        · rw [if_pos e2] at h ⊢
          cases h
          exact ⟨_, rfl⟩
        · rw [if_neg e2] at h
          cases h
  · rw [key z]
    unfold get3 at h
    by_cases e0 : k0 = z
    · rw [if_pos e0] at h
      cases h
    · rw [if_neg e0] at h ⊢
      by_cases e1 : k1 = z
      · rw [if_pos e1] at h
        cases h
      · rw [if_neg e1] at h ⊢
        by_cases e2 : k2 = z
        · rw [if_pos e2] at h
          cases h
        · rw [if_neg e2]
def rSdIx (d : Addr) (get : Str → Option Str) : R2 := fun x y H Q => ∃ z v, x = .ref d ∧ y = .str z ∧ get z = some v ∧ Q (.str v) H
def rSdNin (d : Addr) (get : Str → Option Str) : R2 := fun x y H Q => ∃ z, x = .str z ∧ y = .ref d ∧ Q (.bl (get z).isNone) H
section
variable {X : Cx} {K : PySem.W.Frag} {w : World} {d : Addr} {get : Str → Option Str}
theorem ix_sd (D : SDict X.K X.w d get) : IxR X (rSdIx d get) := by
  intro value slice pins s σ H x y v u Q I rx ry h hs
  obtain ⟨z, r, rfl, rfl, e, q⟩ := h
  obtain ⟨es, n, D1⟩ := D.kd
  obtain ⟨t, ht⟩ := D.hit z r e
  exact ix_kdict value slice pins s σ H _ _ v u Q I rx ry ⟨d, z, .str r, rfl, rfl, ⟨es, n, _, D1.at_, D1.lit, ht, t, rfl⟩, q⟩ hs
theorem pe_sdix {a b : Expr} {ta tb : TE} {pos : Pos} (D : SDict K w d get) (ha : PE X a ta) (hb : PE X b tb) (hs : PlainIx b := by intro _ _; rfl) (h : X.K = K := by rfl) (hw : X.w = w := by rfl) : PE X (.Subscript a b pos) (tOp (rSdIx d get) ta tb) := by
  subst h hw
  exact pe_ix (ix_sd D) ha hb hs
theorem op_sdnin (D : SDict K w d get) (h : X.K = K := by rfl) (hw : X.w = w := by rfl) : OpR X (compareOp .NotIn) (rSdNin d get) := by
  subst h hw
  intro pins s σ H x y v u Q I rx ry h
  obtain ⟨z, rfl, rfl, q⟩ := h
  obtain ⟨es, n, D1⟩ := D.kd
  cases e : get z with
  | none =>
    rw [e] at q
    exact op_notIn_kd D1 pins s σ H _ _ v u Q I rx ry ⟨z, none, rfl, rfl, D.miss z e, q⟩
  | some r =>
    rw [e] at q
    obtain ⟨t, ht⟩ := D.hit z r e
    exact op_notIn_kd D1 pins s σ H _ _ v u Q I rx ry ⟨z, some _, rfl, rfl, ht, q⟩
theorem mt_indexK (K : PySem.W.Frag) (h : X.K = K := by rfl) : MtR X "list.index" (rIndex K) := by
  subst h
  exact mt_index
abbrev rJoin (K : PySem.W.Frag) : V → List V → Hp → VK → Prop := fun x xs H Q => ∃ a p, ∃ ys : List Str, x = .str a ∧ xs = [.ref p] ∧ (SqL K H p (ys.map V.str) ∨ SqT K H p (ys.map V.str)) ∧ (ys.map (·.length)).sum + ys.length * a.length ≤ 16777216 ∧ Q (.str (Txt.join a ys)) H
abbrev rSplit : V → List V → Hp → VK → Prop := fun x xs H Q => ∃ a b, x = .str a ∧ xs = [.str b] ∧ (b.length == 0) = false ∧ a.length + 2 ≤ sizeLine ∧ rNewStrs (Txt.split a b) H Q
theorem pe_joinK (K : PySem.W.Frag) {o e : Expr} {to te : TE} {apos pos : Pos} (ho : PE X o to) (he : PE X e te) (hs : starEach [e] X.env = [(false, eval e X.env)] := by rfl) (hbase : attributeBase o "join" X.env (eval o X.env) = eval o X.env := by rfl) (hline : (apos.endLine == pos.line) = true := by rfl) (h : X.K = K := by rfl) :
    PE X (.Call (.Attribute o "join" apos) [e] [] pos) (tM1 (rJoin K) to te) := by
  subst h
  exact pe_join ho he hs hbase hline
end
section
variable {K : PySem.W.Frag} {H0 : Hp} {m : Md} {ss : List Sl} {ta tb te to : TE} {d : Addr} {get : Str → Option Str}
theorem ev_sdix {z v : Str} (hb : Ev K H0 .r tb ss (.str z)) (hv : get z = some v) : Ev K H0 m (tOp (rSdIx d get) (tC (.ref d)) tb) ss (.str v) := fun σ H O Q s q =>
  hb σ H O _ s fun y H1 e1 r1 => by
    cases r1
    exact ⟨z, v, rfl, rfl, hv, q _ H1 e1 (Res.ofF (.str _))⟩
theorem ev_sdnin {z : Str} (ha : Ev K H0 .r ta ss (.str z)) : Ev K H0 m (tOp (rSdNin d get) ta (tC (.ref d))) ss (.bool (get z).isNone) := fun σ H O Q s q =>
  ha σ H O _ s fun y H1 e1 r1 => by
    cases r1
    exact ⟨z, rfl, rfl, q _ H1 e1 (Res.ofF (.bl _))⟩
theorem ev_join {a : Str} {ys : List Str} (ha : Ev K H0 .r to ss (.str a)) (hb : Ev K H0 .r te ss (.list (ys.map .str))) (hz : (ys.map (·.length)).sum + ys.length * a.length ≤ 16777216) : Ev K H0 m (tM1 (rJoin K) to te) ss (.str (Txt.join a ys)) := fun σ H O Q s q =>
  ha σ H O _ s fun x H1 e1 r1 => by
    cases r1
    refine ⟨⟨a, rfl⟩, hb σ H1 O _ (s.mono e1) fun y H2 e2 r2 => ?_⟩
    cases r2 with
    | lst g1 g2 => exact ⟨a, _, ys, rfl, rfl, .inl (dpa_strs g2 ▸ g1), hz, q _ H2 (Evl.Ex.trans e1 e2) (Res.ofF (.str _))⟩
theorem strs_dfa {H : Hp} : ∀ {ns : List Str}, DfAll H0 H (ns.map .str) (ns.map .str)
  | [] => .nil
  | n :: ns => .cons (.str n) strs_dfa
theorem evn_split {a b : Str} (ha : Ev K H0 .r to ss (.str a)) (hb : Ev K H0 .r te ss (.str b)) (h0 : (b.length == 0) = false) (hz : a.length + 2 ≤ sizeLine) : EvN K H0 (tM1 rSplit to te) ss ((Txt.split a b).map .str) := fun σ H O Q s q =>
  ha σ H O _ s fun x H1 e1 r1 => by
    cases r1
    refine ⟨⟨a, rfl⟩, hb σ H1 O _ (s.mono e1) fun y H2 e2 r2 => ?_⟩
    cases r2
    exact ⟨a, b, rfl, rfl, h0, hz, fun p hp => q p _ _ (Evl.Ex.trans (Evl.Ex.trans e1 e2) (Evl.Ex.new hp)) (ex_none (Evl.Ex.trans e1 e2) hp) upd_same strs_dfa⟩
theorem ev_index {ns : List Str} {x : Str} {j : Nat} (ha : Ev K H0 .r ta ss (.list (ns.map .str))) (hb : Ev K H0 .r tb ss (.str x)) (hj : ns[j]? = some x) (hno : ∀ k < j, ns[k]? ≠ some x) : Ev K H0 m (tBM K "list" (rIndex K) ta (tCons tb tNil)) ss (.int (j : Int)) := fun σ H O Q s q =>
  ha σ H O _ s fun v H1 e1 r1 => by
    have r1' : Dp K H1 v (.list (ns.map .str)) := r1
    cases r1 with
    | lst g1 g2 =>
      refine ⟨.inl ⟨rfl, _, g1⟩, hb σ H1 O _ (s.mono e1) fun y H2 e2 r2 => ?_⟩
      cases r2
      rw [dpa_strs g2] at g1
      refine ⟨_, _, .str x, j, .str x, rfl, rfl, Evl.ex_l e2 g1, rfl, flat_strs ns, ?_, ?_, fun k z' hk hz => ?_, q _ H2 (Evl.Ex.trans e1 e2) (Res.ofF (.int _))⟩
      · rw [List.getElem?_map, hj]
        rfl
      · show (x == x) = true
        simp
      · rw [List.getElem?_map] at hz
        cases e : ns[k]? with
        | none =>
          rw [e] at hz
          cases hz
        | some y =>
          rw [e] at hz
          cases hz
          show (y == x) = false
          have := hno k hk
          rw [e] at this
          simpa using this
end
/-! ### signs -/
def Mk.c : Mk → Nat
  | .good => 46
  | .dead => 45
  | .stuck => 43
def Mk.g : Mk → Str
  | .good => "."
  | .dead => "-"
  | .stuck => "+"
theorem mk_g (m : Mk) : m.g = ⟨#[m.c]⟩ := by cases m <;> decide +kernel
def ofC (c : Nat) : Option Mk := if c = 46 then some .good else if c = 45 then some .dead else if c = 43 then some .stuck else none
theorem ofC_c (m : Mk) : ofC m.c = some m := by cases m <;> rfl
theorem ofC_some {c : Nat} {m : Mk} (h : ofC c = some m) : c = m.c := by
  unfold ofC at h
  by_cases h1 : c = 46
  · rw [if_pos h1] at h
    cases h
    exact h1
  · rw [if_neg h1] at h
    by_cases h2 : c = 45
    · rw [if_pos h2] at h
      cases h
      exact h2
    · rw [if_neg h2] at h
      by_cases h3 : c = 43
      · rw [if_pos h3] at h
        cases h
        exact h3
      · rw [if_neg h3] at h
        cases h
def marksG : Str → Option Str := get3 "good" "." "dead" "-" "stuck" "+"
def signsG : Str → Option Str := get3 "." "good" "-" "dead" "+" "stuck"
theorem marksG_is (m : Mk) : marksG m.s = some m.g := by cases m <;> decide +kernel
theorem one_eq (m : Mk) (c : Nat) : (m.g = ⟨#[c]⟩) ↔ m.c = c := by
  rw [mk_g]
  constructor
  · intro h
    injection h with h
    have := congrArg Array.toList h
    simpa using this
  · intro h
    rw [h]
theorem signsG_is (c : Nat) : signsG ⟨#[c]⟩ = (ofC c).map Mk.s := by
  unfold signsG get3
  have e1 : (("." : Str) = ⟨#[c]⟩) ↔ 46 = c := one_eq .good c
  have e2 : (("-" : Str) = ⟨#[c]⟩) ↔ 45 = c := one_eq .dead c
  have e3 : (("+" : Str) = ⟨#[c]⟩) ↔ 43 = c := one_eq .stuck c
  unfold ofC
  by_cases h1 : c = 46
  · rw [if_pos (e1.mpr h1.symm), if_pos h1]
    rfl
  · rw [if_neg (fun z => h1 (e1.mp z).symm), if_neg h1]
    by_cases h2 : c = 45
    · rw [if_pos (e2.mpr h2.symm), if_pos h2]
      rfl
    · rw [if_neg (fun z => h2 (e2.mp z).symm), if_neg h2]
      by_cases h3 : c = 43
      · rw [if_pos (e3.mpr h3.symm), if_pos h3]
        rfl
      · rw [if_neg (fun z => h3 (e3.mp z).symm), if_neg h3]
        rfl
/-- a place's word, a panel's text -/
def wordM (p : List Mk) : Str := ⟨(p.map Mk.c).toArray⟩
theorem tl_word (p : List Mk) : tl (wordM p) = p.map Mk.c := rfl
theorem word_len (p : List Mk) : (wordM p).length = p.length := by rw [len_tl, tl_word, List.length_map]
theorem joinL_nil : ∀ l : List (List Nat), joinL [] l = l.flatten
  | [] => rfl
  | [p] => by simp [joinL]
  | p :: q :: r => by
    have := joinL_nil (q :: r)
    show p ++ ([] ++ joinL [] (q :: r)) = _
    rw [this]
    simp
theorem join_word (p : List Mk) : Txt.join "" (p.map Mk.g) = wordM p := by
  apply ext_tl
  rw [join_eq, tl_join, show tl ("" : Str) = [] from by decide +kernel, joinL_nil, tl_word]
  induction p with
  | nil => rfl
  | cons m p ih =>
    rw [List.map_cons, List.map_cons, List.flatten_cons, ih, List.map_cons, mk_g]
    rfl
theorem word_snoc (p : List Mk) (m : Mk) : wordM p ++ m.g = wordM (p ++ [m]) := by
  apply ext_tl
  rw [tl_append, tl_word, tl_word, List.map_append, mk_g]
  rfl
def textM (pn : List (List Mk)) : Str := Txt.join " " (pn.map wordM)
theorem text_split {pn : List (List Mk)} (h : pn ≠ []) : Txt.split (textM pn) " " = pn.map wordM := by
  refine split_join (s := 32) (S := []) (by decide +kernel) (by decide +kernel) (by simpa using h) (fun p hp => ?_)
  obtain ⟨q, _, rfl⟩ := List.mem_map.mp hp
  rw [tl_word]
  intro z
  obtain ⟨m, _, e⟩ := List.mem_map.mp z
  cases m <;> cases e
theorem text_len {pn : List (List Mk)} (h7 : ∀ p ∈ pn, p.length = 7) : (textM pn).length ≤ 8 * pn.length := by
  unfold textM
  rw [join_eq]
  refine Nat.le_trans (StrLaws.join_length_le " " _) ?_
  have e1 : (" " : Str).length = 1 := by decide +kernel
  rw [e1, List.length_map, Nat.mul_one]
  have : ∀ l : List (List Mk), (∀ p ∈ l, p.length = 7) → ((l.map wordM).map (·.length)).sum = 7 * l.length := by
    intro l
    induction l with
    | nil => intro _; rfl
    | cons p l ih =>
      intro h
      rw [List.map_cons, List.map_cons, List.sum_cons, ih fun q hq => h q (List.mem_cons_of_mem _ hq), word_len, h p List.mem_cons_self, List.length_cons]
      omega
  rw [this pn h7]
  omega
end Li

namespace Li
open PySem PySem.Spec PyProof.Rows L2
/-! ### an error leaves a comprehension's element -/
theorem note_same {e : Value} {env env' : Env} (h : env'.frame = env.frame) : noteFrame e env' = noteFrame e env := by
  unfold noteFrame PySem.frameOf
  rw [h]
theorem pass_same {α : Type} {wh : String} {e : Value} {env env' : Env} (h : env'.frame = env.frame) : (PySem.passOn wh e env' : Sem α) = PySem.passOn wh e env := by
  unfold PySem.passOn
  rw [h]
def XF (X : Cx) (W : WX) (u : Value) (s' : Shared) : Prop :=
  ∃ (a : Addr) (B : Heap) (sI : Shared) (pins : List (Addr × Obj)) (σ : L2.St) (H : Hp) (cls : Value) (d : Option Addr),
    u = .ref a ∧ Inv X pins σ H sI ∧ (∀ b o, sI.heap.get? b = some o → b ∉ frs X.stack → B.get? b = some o) ∧ sI.heap.UpToSlots s'.heap ∧
      HandSPX.FlyingZ B X.stack a (Zc cls d) s'.heap ∧ H a = none ∧ s'.os = sI.os ∧ AllBare s'.gens ∧ W cls d σ H
section
variable {X : Cx} {pins : List (Addr × Obj)} {σ : L2.St} {H : Hp} {sI s s' : Shared} {B : Heap} {W : WX} {E : XK}
theorem XF.of_call (I : Inv X pins σ H s) (hW : ∀ cls d H', E cls d H' → W cls d σ H') {u : Value} (c : L2.CX X.prog X.w X.stack H s E u s') : XF X W u s' := by
  obtain ⟨a, B, H', cls, d, rfl, fl, hok, ub, na, os, ag, hE⟩ := c
  obtain ⟨G, g1, g2⟩ := restrict s'.heap fun b => (B.get? b).isSome || decide (b ∈ frs X.stack)
  have st : B.StaysIn s'.heap := fl.1
  have gB : ∀ b o, B.get? b = some o → G.get? b = some o := fun b o e => by
    rw [g1 b (by simp [e])]
    exact st b o e
  have gF : ∀ b, b ∈ frs X.stack → G.get? b = s'.heap.get? b := fun b hb => g1 b (by simp [hb])
  have og : ∀ b o, G.get? b = some o → s'.heap.get? b = some o ∧ ((B.get? b).isSome = true ∨ b ∈ frs X.stack) := fun b o e => by
    cases q : ((B.get? b).isSome || decide (b ∈ frs X.stack)) with
    | false => rw [g2 b q] at e; cases e
    | true =>
      rw [g1 b q] at e
      exact ⟨e, by simpa [Bool.or_eq_true] using q⟩
  refine ⟨a, B, { s with heap := G, gens := s'.gens, drawn := s'.drawn, toks := s'.toks }, pins, σ, H', cls, d, rfl, ?_, fun b o e hb => ?_, Heap.UpToSlots.of_keeps fun b o e => (og b o e).1, fl, na, os, ag, hW _ _ _ hE⟩
  · refine I.call (ch := []) ⟨fun b o e n hb _ => gB b o (ub.keep b o e n hb), fun b o e n hb _ => ?_, fun b o e n _ => ub.free b o e n, fun b o e _ => ?_, ub.tups, ub.frzs, ub.tbls⟩ (hok.kept gB) ag (fun _ z => nomatch z)
    · obtain ⟨sl, q⟩ := ub.slot b o e hb
      exact ⟨sl, by rw [gF b hb]; exact q⟩
    · by_cases hb : b ∈ frs X.stack
      · obtain ⟨sl, q⟩ := ub.slot b o e hb
        exact ⟨_, by rw [gF b hb]; exact q⟩
      · obtain ⟨o', q⟩ := ub.there b o e hb
        exact ⟨o', gB b o' q⟩
  · obtain ⟨e', h⟩ := og b o e
    rcases h with h | h
    · obtain ⟨o', q⟩ := Option.isSome_iff_exists.mp h
      have z := st b o' q
      rw [e'] at z; cases z
      exact q
    · exact absurd h hb
end
/-- behind the block: as compPost, the frame said -/
def compPostX (M : Model) (A : Around) (E : Value → Shared → Prop) (Q : Value → Shared → Prop) (fr : Option Addr) (acc : Value) (C : Addr) (r : Result) (s' : Shared) : Prop :=
  match r with
  | .ok _ => ∃ m, s'.heap.Ns C m ∧ ∀ h', Heap.SameBut C s'.heap h' → Q acc { s' with heap := h' }
  | .error x => ∃ m, s'.heap.Ns C m ∧ ∀ h', Heap.SameBut C s'.heap h' → ∀ cenv : Env, cenv.frame = fr → wpAny M A (PySem.passOn "comprehension.variables-let-go" x cenv : Sem Value) (fun _ _ => False) E { s' with heap := h' }
theorem compX {M : Model} {A : Around} {E : Value → Shared → Prop} {s : Shared} {env : Env} {e : Expr} {scope : Scope} {pos : Pos} {newAcc first : Sem Value} {g : Comprehension} {gs : List Comprehension} {cl : List (Str × Addr)}
    {Q : Value → Shared → Prop}
    (hcl : clausesOf e = g :: gs) (hs : ∀ x, foldedSetIterable g.iter env x = pure x) (hclos : closureFor scope env = pure cl)
    (hkind : scope.kind = .function) (hnames : ∀ x ∈ scope.names, x.2 = .local → scope.names.lookup x.1 = some .local)
    (h : wpAny M A first (fun x s₁ => wpAny M A (pyIter x) (fun it s₂ => wpAny M A newAcc (fun acc s₃ =>
      wpAny M A (newFunctionEnv scope env.globals cl [] env.qual none .none (some env)) (fun cenv s₄ =>
        cenv.frame = env.frame ∧ codeAny M A (.compStart e 0 it acc { cenv with scope := relabel scope env }) (compPostX M A E Q env.frame acc cenv.locals) s₄) E s₃) E s₂) E s₁) E s) :
    wpAny M A (comprehension e scope env pos newAcc false first none) Q E s := by
  unfold comprehension
  rw [hclos, hcl]
  refine wpAny_bind (wpAny_mono h (fun x s₁ h₁ => wpAny_bind (wpAny_standAt (wpAny_bind (wpAny_of_eq (hs x) (wpAny_bind (wpAny_holding (wpAny_mono h₁ (fun it s₂ h₂ =>
    wpAny_standIf (wpAny_bind (wpAny_mono h₂ (fun acc s₃ h₃ => wpAny_bind (wpAny_pure (wpAny_bind (wpAny_mono h₃ (fun cenv s₄ h₄ => ?_) fun _ _ h' => h')))) fun _ _ h' => h')))
      fun _ _ h' => h'))))))) fun _ _ h' => h')
  obtain ⟨hfr, h₄⟩ := h₄
  dsimp only
  have hv : ∀ x ∈ (scope.names.filter fun x => (x.2 == .local || x.2 == .cell) && x.1 != (".0" : Str)).reverse, x.2 = .local →
      Env.kindOf { cenv with scope := relabel scope env } x.1 = some .local := fun x hx hl => lookup_relabel_local (hnames x (List.mem_filter.mp (List.mem_reverse.mp hx)).1 hl)
  refine wpAny_holding (wpAny_bind (wpAny_attempt (wpAny_holding (wpAny_run (codeAny_mono h₄ fun r s' hr => ?_)))))
  cases r with
  | ok f =>
    obtain ⟨m, hn, hr⟩ := hr
    exact wpAny_bind (wpAny_holding (wpAny_comp_letGo (cenv := { cenv with scope := relabel scope env }) hkind _ s' m hv hn fun h' m' _ hs' => wpAny_pure (hr h' hs')))
  | error x =>
    obtain ⟨m, hn, hr⟩ := hr
    exact wpAny_bind (wpAny_holding (wpAny_comp_letGo (cenv := { cenv with scope := relabel scope env }) hkind _ s' m hv hn fun h' m' _ hs' => wpAny_mono (hr h' hs' { cenv with scope := relabel scope env } hfr) (fun _ _ f => f.elim) fun _ _ y => y))
theorem frames_but {h h' base base' : Heap} {C : Addr} (k : ∀ b, b ≠ C → h'.get? b = h.get? b) (hb : ∀ b, base.get? b = none → base'.get? b = none) : ∀ {l : List Env}, C ∉ frs l → h.FunFrames base l → h'.FunFrames base' l
  | [], _, _ => trivial
  | env :: rest, hC, h0 => by
    obtain ⟨hk, ⟨L, o, hf, hn, ho, hd⟩, hr⟩ := h0
    have hm : frs (env :: rest) = L :: frs rest := by
      unfold frs
      rw [List.filterMap_cons, hf]
    rw [hm] at hC
    have h1 : L ≠ C := fun z => hC (by rw [z]; exact List.mem_cons_self)
    exact ⟨hk, ⟨L, o, hf, hb _ hn, (k L h1).trans ho, hd⟩, frames_but k hb (fun z => hC (List.mem_cons_of_mem _ z)) hr⟩
section
variable {X : Cx}
theorem note_err {pins : List (Addr × Obj)} {σ : L2.St} {H3 : Hp} {s3 s' : Shared} {scope : Scope} {ce : Env} {fp : List Addr} {Wb W : WX} {u : Value} {Q : Value → Shared → Prop} {acc : Value}
    (I3 : Inv X pins σ H3 s3) (hs : X.stack = X.env :: X.outer) (hf : X.env.frame = some X.env.locals) (tk : Takes X W) (hW : ∀ cls d σ σ' H, Wb cls d σ H → W cls d σ' H)
    (f3 : ∀ b ∈ fp, FpOk X pins H3 b ∧ b < s3.heap.objs.size) (cL : ce.locals = s3.heap.objs.size) (hce : ce.frame = X.env.frame) (x : XF (X.blk s3 H3 scope ce fp) Wb u s') :
    notedBy (model X.prog X.w) X.A ce (fun e s' => compPostX (model X.prog X.w) X.A X.xe Q X.env.frame acc s3.heap.objs.size (.error e) s') u s' := by
  obtain ⟨a, B, sI, pins', σ', H', cls, d, rfl, I, nb, up, fl, na, os, ag, w⟩ := x
  have hfr : X.A.frames = some (X.env :: X.outer) := by rw [I3.ok.frames, hs]
  have fl' : HandSPX.FlyingZ B (X.env :: X.outer) a (Zc cls d) s'.heap := by
    rw [← hs]
    exact fl
  show wpAny _ _ (noteFrame (.ref a) ce) _ _ s'
  rw [note_same hce]
  refine HandSPX.looks_onZ Zc.steady hfr hf fl' fun h1 hh up1 => ?_
  have I7 : Inv X pins σ H' sI := I3.call' (ch := fp) I.os I.base I.hok I.bare fun b hb => ⟨(f3 b hb).1.2.2.2.1, (f3 b hb).1.2.1, (f3 b hb).1.2.2.2.2.1, (f3 b hb).1.2.2.2.2.2⟩
  generalize hC : s3.heap.objs.size = C at cL
  have nC : H' C = none := by
    have z : H' ce.locals = none := I.free
    rw [cL] at z
    exact z
  obtain ⟨m, hn, _⟩ := I.loc
  have hn : sI.heap.Ns ce.locals m := hn
  rw [cL] at hn
  have fC : FpOk X pins H' C := I3.fpOk (Nat.le_of_eq hC) nC
  have nCf : C ∉ frs X.stack := fun z => by
    rcases List.mem_cons.mp (I3.stkSub C z) with e | e
    · exact fC.2.1 e
    · exact fC.2.2.1 e
  obtain ⟨oC, es, ep, hoC, rC⟩ := hn
  have hB : B.get? C = some oC := nb C oC hoC nCf
  have h1C : h1.get? C = some oC := hh.1 C oC hB
  refine ⟨m, ⟨oC, es, ep, h1C, rC⟩, fun h' sb cenv hcf => ?_⟩
  rw [pass_same (env := X.env) hcf]
  have kB : ∀ b o, (PySem.W.hideAll B [C]).get? b = some o → B.get? b = some o ∧ b ≠ C := fun b o e => ⟨PySem.W.of_hideAll _ e, fun z => by
    rw [PySem.W.hideAll_none [C] (by simp [z])] at e
    cases e⟩
  have nB : ∀ b, B.get? b = none → (PySem.W.hideAll B [C]).get? b = none := fun b e => by
    cases q : (PySem.W.hideAll B [C]).get? b with
    | none => rfl
    | some o =>
      rw [(kB b o q).1] at e
      cases e
  have held : HandSPX.HeldZ (PySem.W.hideAll B [C]) (X.env :: X.outer) a (Zc cls d) X.env.locals h' := by
    obtain ⟨k1, k2, k3, oe, vs, T, oT, ts, he, hz, hd, hv, hnT, hTe, hT, hdT, h3⟩ := hh
    have ac : a ≠ C := fun z => by rw [z, hB] at k2; cases k2
    have tc : T ≠ C := fun z => by rw [z, hB] at hnT; cases hnT
    refine ⟨fun b o e => (sb.2 b (kB b o e).2).trans (k1 b o (kB b o e).1), nB a k2, frames_but sb.2 nB (by rw [← hs]; exact nCf) k3, oe, vs, T, oT, ts, (sb.2 a ac).trans he, hz, hd, hv, nB T hnT, hTe, (sb.2 T tc).trans hT, hdT, h3⟩
  obtain ⟨k1, k2, k3, oe, vs, T, oT, ts', he, hz, hd, hv, hr⟩ := id held
  unfold PySem.passOn
  refine wpAny_bind (wpAny_field he hd hv ?_)
  rw [if_neg (show ¬ ((Value.ref T == Value.none) = true) from by simp)]
  have I7' : Inv X pins σ H' { sI with heap := PySem.W.hideAll sI.heap [C], toks := sI.toks } := I7.turned (it := C) (fun b o hb e => PySem.W.hideAll_get _ e (by simp [hb])) nC fC.2.1 fC.2.2.2.1 fC.2.2.2.2.1 fC.2.2.2.2.2
  have fin : wpAny (model X.prog X.w) X.A (setFlight (.ref a) X.env.frame) (fun _ s4 => wpAny (model X.prog X.w) X.A (throw (.ref a) : Sem Value) (fun _ _ => False) X.xe s4) X.xe { s' with heap := h' } := by
    rw [hf]
    refine HandSPX.setFlight_onZ held fun h4 hh4 up4 => wpAny_throw (tk _ _ ?_)
    refine ⟨a, PySem.W.hideAll B [C], _, pins, σ, H', cls, d, rfl, I7', fun b o e hb => ?_, fun b o e hnf => ?_, .inr (.inr (by rw [hs]; exact hh4)), na, os, ag, hW _ _ _ _ _ w⟩
    · have e1 := PySem.W.of_hideAll [C] e
      have bc : b ≠ C := fun z => by
        have e : (PySem.W.hideAll sI.heap [C]).get? b = some o := e
        rw [PySem.W.hideAll_none [C] (by simp [z])] at e
        cases e
      exact PySem.W.hideAll_get _ (nb b o e1 hb) (by simp [bc])
    · have e1 := PySem.W.of_hideAll [C] e
      have bc : b ≠ C := fun z => by
        have e : (PySem.W.hideAll sI.heap [C]).get? b = some o := e
        rw [PySem.W.hideAll_none [C] (by simp [z])] at e
        cases e
      obtain ⟨sl1, q1⟩ := up b o e1 hnf
      obtain ⟨sl2, q2⟩ := up1 b _ q1 hnf
      obtain ⟨sl3, q3⟩ := up4 b _ ((sb.2 b bc).trans q2) hnf
      exact ⟨sl3, q3⟩
  first
    | exact wpAny_bind (wpAny_pure (wpAny_bind fin))
    | exact wpAny_bind fin
theorem lc_coreX {pins : List (Addr × Obj)} {s : Shared} {σ : L2.St} {H : Hp} {Q : VK} {elt tg iter : Expr} {ifs : List Expr} {scope : Scope} {own : List (Str × Nat)} {pos pos' : Pos} {wi : TI} {g : TG} {tt : TT} {te : TE} {Qf : Value → Shared → Prop} {Wx Wb : WX}
    (hc : X.calm = true) (hN : X.N.Nodup) (I : L2.Inv X pins σ H s) (hi : PI X tg iter wi) (ok : BlkOk X.N X.env.scope scope own)
    (hg : ∀ (s : Shared) (H : Hp) (C : Addr) (cl : List (Str × Addr)) (fp : List Addr), PG (X.blk s H scope (compEnvC scope cl C X.env) fp) tg g) (ht : ∀ (s : Shared) (H : Hp) (C : Addr) (cl : List (Str × Addr)) (fp : List Addr), PTs (X.blk s H scope (compEnvC scope cl C X.env) fp) ifs tt)
    (hs0 : X.stack = X.env :: X.outer) (hf0 : X.env.frame = some X.env.locals) (tk : Takes X Wx) (hW : ∀ cls d σ σ' H, Wb cls d σ H → Wx cls d σ' H)
    (he : ∀ (s : Shared) (H : Hp) (C : Addr) (cl : List (Str × Addr)) (fp : List Addr), PE ((X.blk s H scope (compEnvC scope cl C X.env) fp).wish (XF (X.blk s H scope (compEnvC scope cl C X.env) fp) Wb)) elt te) (hs : ∀ x, foldedSetIterable iter X.env x = pure x)
    (h : tLc wi g tt te (own.map (·.2)) σ H Q)
    (hRR : ∀ D C s' m H', L2.Inv X pins σ H' s' → Q (.ref D) H' → s'.heap.Ns C m → FpOk X pins H' C → compPostX (model X.prog X.w) X.A X.xe Qf X.env.frame (.ref D) C (.ok .next) s') :
    wpAny (model X.prog X.w) X.A (comprehension (.ListComp elt [⟨tg, iter, ifs, 0⟩] scope pos) scope X.env pos' (newList []) false (eval iter X.env) none) Qf X.xe s := by
  have hfree : ∀ y ∈ scope.names, y.2 = .free → ∃ c, X.env.cells.lookup y.1 = some c := fun y hy e => by
    rcases ok.free y hy e with k | k
    · exact I.ok.has _ (.inl k)
    · exact I.ok.has _ (.inr k)
  refine compX rfl hs (closure_ok hfree) ok.kind (fun y hy e => by rw [ok.uniq y hy, e])
    (thn (hi.run pins s σ H _ I h) fun xv s1 hx => thn hx fun itv s2 h2 => ?_)
  obtain ⟨it, fp, tn, J, H2, e, I2, T, st2, f2, q⟩ := h2
  subst e
  refine wpAny_newObj_type (newEnv_comp ⟨rfl, ?_⟩) (by show 0 ≤ sizeLine; decide)
  generalize hD : s2.heap.objs.size = D
  have hDn : H2 D = none := I2.hok.fresh (Nat.le_of_eq hD)
  obtain ⟨W, ⟨m0, w0⟩, turn⟩ := q D hDn
  -- the new list
  generalize hs3 : ({ s2 with heap := s2.heap.push { cls := .type "list", data := .seq ([] : List Value).toArray } } : Shared) = s3
  have I3 : L2.Inv X pins σ (upd H2 D (.lst [])) s3 := by
    rw [← hs3]
    refine I2.laid (t' := s2.toks) (fun b o e => Heap.get?_push_of_some _ e) (Nat.le_of_eq hD) ⟨Nat.zero_le _, [], 0, .nil, ?_⟩
    rw [← hD]
    exact Heap.get?_push_size _ rfl
  have h3 : s3.heap = s2.heap.push { cls := .type "list", data := .seq ([] : List Value).toArray } := by rw [← hs3]
  have sz : ∀ b ∈ fp, b < s2.heap.objs.size := fun b hb => by
    obtain ⟨o, e, _⟩ := T.obj _ _ st2 b hb
    exact Heap.lt_size e
  have f3 : ∀ b ∈ fp, FpOk X pins (upd H2 D (.lst [])) b ∧ b < s3.heap.objs.size := fun b hb => by
    have hlt := sz b hb
    refine ⟨⟨?_, (f2 b hb).2⟩, by rw [h3, Heap.size_push]; exact Nat.lt_succ_of_lt hlt⟩
    rw [upd_ne (by rw [← hD]; exact Nat.ne_of_lt hlt)]
    exact (f2 b hb).1
  have st3 : tn 0 s3.heap := T.keep _ _ _ st2 fun b _ o e => by rw [h3]; exact Heap.get?_push_of_some _ e
  have I4 := block_start I3 ok hN f3
  have pg := hg s3 (upd H2 D (.lst [])) s3.heap.objs.size (cellsFrom (s3.heap.objs.size + 1) scope.names (cloFrom X.env.cells scope.names [])) fp
  have pt := ht s3 (upd H2 D (.lst [])) s3.heap.objs.size (cellsFrom (s3.heap.objs.size + 1) scope.names (cloFrom X.env.cells scope.names [])) fp
  have pe := he s3 (upd H2 D (.lst [])) s3.heap.objs.size (cellsFrom (s3.heap.objs.size + 1) scope.names (cloFrom X.env.cells scope.names [])) fp
  show codeAny _ _ (.compStart (.ListComp elt [⟨tg, iter, ifs, 0⟩] scope pos) 0 (.ref it) (.ref D) (compEnvC scope (cellsFrom (s3.heap.objs.size + 1) scope.names (cloFrom X.env.cells scope.names [])) s3.heap.objs.size X.env)) (compPostX (model X.prog X.w) X.A X.xe Qf X.env.frame (.ref D) s3.heap.objs.size) { s3 with heap := pushCells (s3.heap.push { cls := .type "dict", data := .dict #[] }) scope.names }
  have nfp : ∀ b ∈ fp, (upd H2 D (.lst [])) b = none := fun b hb => (f3 b hb).1.1
  generalize hce : compEnvC scope (cellsFrom (s3.heap.objs.size + 1) scope.names (cloFrom X.env.cells scope.names [])) s3.heap.objs.size X.env = ce at I4 pg pt pe ⊢
  have cL : ce.locals = s3.heap.objs.size := by subst hce; rfl
  have cF : ce.frame = X.env.frame := by subst hce; rfl
  generalize hH3 : upd H2 D (.lst []) = H3 at I3 I4 pg pt pe w0 nfp f3
  generalize hs4 : ({ s3 with heap := pushCells (s3.heap.push { cls := .type "dict", data := .dict #[] }) scope.names } : Shared) = s4 at I4 ⊢
  have st4 : tn 0 s4.heap := T.keep _ _ _ st3 fun b _ o e => by rw [← hs4]; exact pushCells_keeps _ _ _ _ (Heap.get?_push_of_some _ e)
  have stat : ∀ {σ' : L2.St} {H' : Hp} {s' : Shared}, L2.Inv (X.blk s3 H3 scope ce fp) [] σ' H' s' → (∀ b ∈ fp, H' b = none) → ∀ b ∈ fp, FpOk (X.blk s3 H3 scope ce fp) [] H' b := fun {σ' H' s'} I' hn b hb =>
    ⟨hn b hb, (I'.ok.exf b hb).1, I'.ok.exfs b hb, .inl hb, fun x c e => (I'.ok.exf b hb).2 x c e, fun p hp => absurd (show p ∈ ([] : List (Addr × Obj)) ++ [] from hp) (by simp)⟩
  have loop : codeAny (model X.prog X.w) X.A (.compLoop (.ListComp elt [⟨tg, iter, ifs, 0⟩] scope pos) 0 (.ref it) (.ref D) ce) (compPostX (model X.prog X.w) X.A X.xe Qf X.env.frame (.ref D) s3.heap.objs.size) s4 := by
    refine compLoop_any (fun n s' => ∃ i H', L2.Inv (X.blk s3 H3 scope ce fp) [] (wipe σ (own.map (·.2))) H' s' ∧ tn i s'.heap ∧ (∀ b ∈ fp, H' b = none) ∧ W i n H') ?_ m0 ⟨0, H3, I4, st4, nfp, w0⟩
    rintro n s5 ⟨i, H5, I5, st5, n5, w5⟩
    rcases turn i n H5 w5 with ⟨stop, qq⟩ | ⟨go, Nx, hNx, step⟩
    · have td := T.done (X.blk s3 H3 scope ce fp) rfl rfl rfl hc i [] s5 _ H5 (fun _ _ => False) I5 (stat I5 n5) st5 stop
      refine thnF td fun r s6 ⟨hr, I6⟩ => ?_
      subst hr
      -- back in the def's context
      have I7 : L2.Inv X pins σ H5 s6 := I3.call' (ch := fp) I6.os I6.base I6.hok I6.bare fun b hb => ⟨(f3 b hb).1.2.2.2.1, (f3 b hb).1.2.1, (f3 b hb).1.2.2.2.2.1, (f3 b hb).1.2.2.2.2.2⟩
      have nC : H5 s3.heap.objs.size = none := by
        have z : H5 ce.locals = none := I6.free
        rw [cL] at z
        exact z
      obtain ⟨m, hn, _⟩ := I6.loc
      have hn : s6.heap.Ns ce.locals m := hn
      rw [cL] at hn
      exact hRR D s3.heap.objs.size s6 m H5 I7 qq hn (I3.fpOk (Nat.le_refl _) nC)
    · have ti := T.item (X.blk s3 H3 scope ce fp) rfl rfl rfl hc i [] s5 _ H5 (fun _ _ => False) I5 (stat I5 n5) st5 go
      refine thnF ti fun r s6 ⟨u, hr, h6⟩ => ?_
      subst hr
      refine thnF h6 fun _ s7 ⟨x, H7, I7, r7, y7, st7, n7⟩ => ?_
      have I7' := I7.pinned (stat I7 n7) (T.obj _ _ st7)
      refine thnF (pg.run _ s7 _ H7 x u _ I7' r7 (step x H7 y7)) fun _ s8 ⟨σ8, H8, I8, hw8, q8⟩ => ?_
      refine thnF (pt.run _ s8 σ8 H8 _ I8 q8) fun b s9 ⟨H9, I9, q9⟩ => ?_
      -- the turn's end
      have fin : ∀ {s' : Shared} {H' : Hp}, L2.Inv (X.blk s3 H3 scope ce fp) ([] ++ pinsAt fp s7.heap) σ8 H' s' → Nx H' → ∃ m, m < n ∧ ∃ i H', L2.Inv (X.blk s3 H3 scope ce fp) [] (wipe σ (own.map (·.2))) H' s' ∧ tn i s'.heap ∧ (∀ b ∈ fp, H' b = none) ∧ W i m H' := fun {s' H'} I' nx => by
        obtain ⟨m', hm, w'⟩ := hNx H' nx
        have pin' : ∀ b ∈ fp, ∀ o, s7.heap.get? b = some o → s'.heap.get? b = some o ∧ H' b = none := fun b hb o e =>
          let z := I'.pin (b, o) (List.mem_append_right _ (List.mem_append_right _ (mem_pinsAt hb e)))
          ⟨z.1, z.2.1⟩
        have hl : (wipe σ (own.map (·.2))).length = σ8.length := by rw [← hw8, wipe_length]
        refine ⟨m', hm, i + 1, H', (I'.unpinned (pins := [])).weak hl (fun j v e => ?_), T.keep _ _ _ st7 fun b hb o e => (pin' b hb o e).1, fun b hb => ?_, w'⟩
        · rw [← hw8] at e
          exact (wipe_some e).1
        · obtain ⟨o, e, _⟩ := T.obj _ _ st7 b hb
          exact (pin' b hb o e).2
      cases b with
      | false =>
        simp only [Bool.false_eq_true, if_false] at q9 ⊢
        exact fin I9 q9
      | true =>
        simp only [if_true] at q9 ⊢
        refine wpAny_mono (pe.run _ s9 σ8 H9 _ (I9.wish _) q9) (fun z s10 ⟨yv, H10, I10, r10, acc, hD10, hz10, nx⟩ => ?_) fun u s10 xf => ?_
        · exact app_ok (X := X.blk s3 H3 scope ce fp) I10.unwish hD10 hz10 r10 fun s11 I11 => fin I11 nx
        · exact note_err I3 hs0 hf0 tk hW f3 cL cF xf
  exact codeAny_compStart_list loop (T.self X.A 0 _ _ _ st4 loop)
theorem pe_lcX {elt tg iter : Expr} {ifs : List Expr} {scope : Scope} {own : List (Str × Nat)} {pos : Pos} {wi : TI} {g : TG} {tt : TT} {te : TE} {W Wb : WX} (hc : X.calm = true) (hN : X.N.Nodup) (hs0 : X.stack = X.env :: X.outer) (hf0 : X.env.frame = some X.env.locals) (tk : Takes X W) (hW : ∀ cls d σ σ' H, Wb cls d σ H → W cls d σ' H) (hi : PI X tg iter wi) (ok : BlkOk X.N X.env.scope scope own)
    (hg : ∀ (s : Shared) (H : Hp) (C : Addr) (cl : List (Str × Addr)) (fp : List Addr), PG (X.blk s H scope (compEnvC scope cl C X.env) fp) tg g) (ht : ∀ (s : Shared) (H : Hp) (C : Addr) (cl : List (Str × Addr)) (fp : List Addr), PTs (X.blk s H scope (compEnvC scope cl C X.env) fp) ifs tt)
    (he : ∀ (s : Shared) (H : Hp) (C : Addr) (cl : List (Str × Addr)) (fp : List Addr), PE ((X.blk s H scope (compEnvC scope cl C X.env) fp).wish (XF (X.blk s H scope (compEnvC scope cl C X.env) fp) Wb)) elt te) (hs : ∀ x, foldedSetIterable iter X.env x = pure x := by intro _; rfl) :
    PE X (.ListComp elt [⟨tg, iter, ifs, 0⟩] scope pos) (tLc wi g tt te (own.map (·.2))) := by
  refine ⟨fun pins s σ H Q I h => ?_⟩
  rw [eval_ListComp]
  refine lc_coreX hc hN I hi ok hg ht hs0 hf0 tk hW he hs h fun D C s' m H' I' q hn f => ⟨m, hn, fun h'' sb => ?_⟩
  obtain ⟨f0, f1, f2, f3, f4, f5⟩ := f
  exact ⟨.ref D, H', I'.turned (t' := s'.toks) (fun b o hb e => (sb.2 b hb).trans e) f0 f1 f3 f4 f5, rfl, q⟩
/-- a call in such an element -/
theorem passX {P : Program} {s0 : Shared} {H0 : Hp} {scope : Scope} {ce : Env} {fp : List Addr} {E : XK} : Passes (L2.CX X.prog X.w) ((X.blk s0 H0 scope ce fp).wish (XF (X.blk s0 H0 scope ce fp) fun cls d _ H => E cls d H)) E :=
  fun pins σ H s e s' I c => XF.of_call I.unwish (fun _ _ _ h => h) c
end
section
variable {K : PySem.W.Frag} {H0 : Hp} {m : Md} {ss : List Sl} {te ta tb to : TE}
/-- some element never comes to an end -/
theorem nv_lcE {α : Type} {wi : TI} {g : TG} {vs : List Nat} {l : List α} {en : α → PyData} (good : α → Prop) (f : α → PyData) (sb : α → List Sl) (hi : EvI K H0 m wi ss (l.map en)) (hg : ∀ x ∈ l, TgW K H0 vs m g (en x) (wipeS ss vs) (sb x))
    (he : ∀ x ∈ l, good x → Ev K H0 .f te (sb x) (f x)) (hn : ∀ x ∈ l, ¬ good x → Nev K H0 te (sb x)) (hx : ∃ x ∈ l, ¬ good x) (hz : l.length ≤ 90000) : Nev K H0 (tLc wi g tYes te vs) ss := fun σ H O Q s => by
  refine hi σ H O _ s fun J H2 Ψ Y e mono hΨ w hY => ?_
  intro D hD
  have hlen : (l.map en).length = l.length := List.length_map _
  rw [hlen] at w
  have nD : H D = none := ex_none e hD
  have e1 : Ex H (upd H2 D (.lst [])) := Evl.Ex.trans e (Evl.Ex.new hD)
  refine lc_it w (fun i H' => Ex H H' ∧ StO K H0 (D :: O) (wipeS ss vs) (L2.wipe σ vs) H' ∧ Ψ (hide (D :: O) H') ∧ (∃ acc, H' D = some (.lst acc) ∧ acc.length ≤ i) ∧ ∀ y ∈ l.take i, good y)
    ⟨e1, (s.grow e1 nD (by rw [upd_same]; exact fun z => by cases z)).wipe vs, mono _ _ (hide_new (Evl.Ex.new hD) hD) hΨ, ⟨[], upd_same, Nat.le_refl _⟩, fun y hy => by simp at hy⟩ (fun i H' _ h => mono _ _ hide_le h.2.2.1) (fun i x H' H'' hi y' y => ?_) (fun H' h => ?_)
  · obtain ⟨ex, s', hp, ⟨acc, hacc, hl⟩, hgd⟩ := y'
    have hxi : l[i]? = some l[i] := List.getElem?_eq_getElem hi
    have hm : l[i] ∈ l := List.getElem_mem hi
    obtain ⟨e2, hr⟩ := hY i H' x H'' (en l[i]) y s'.ex1 (by rw [List.getElem?_map, hxi]; rfl)
    have r := hr (D :: O) s'.tr hp
    refine hg _ hm (L2.wipe σ vs) H'' (D :: O) x _ (s'.mono e2) r fun σ2 s2 hw => ⟨hw σ rfl, et_yes σ2 H'' (D :: O) _ s2 fun H3 e3 => ?_⟩
    rw [if_pos rfl]
    by_cases hgood : good l[i]
    · refine he _ hm hgood σ2 H3 (D :: O) _ (s2.mono e3) fun y H4 e4 r4 => ?_
      have e24 : Ex H' H4 := Evl.Ex.trans (Evl.Ex.trans e2 e3) e4
      have in' : D ∈ D :: O := List.mem_cons_self
      have st : l.take (i + 1) = l.take i ++ [l[i]] := by
        rw [List.take_add_one, hxi]
        rfl
      refine ⟨acc, e24 _ _ hacc, Evl.sz_lt (by omega), Evl.Ex.mut (Evl.Ex.trans ex e24) nD, ?_, ?_, ⟨_, upd_same, by rw [List.length_append]; simp; omega⟩, fun z hz => ?_⟩
      · exact (s.grow (Evl.Ex.mut (Evl.Ex.trans ex e24) nD) nD (by rw [upd_same]; exact fun z => by cases z)).wipe vs
      · rw [hide_upd in']
        exact mono _ _ (hide_mono e24) hp
      · rw [st] at hz
        rcases List.mem_append.mp hz with hz | hz
        · exact hgd z hz
        · rw [List.mem_singleton.mp hz]
          exact hgood
    · exact hn _ hm hgood σ2 H3 (D :: O) _ (s2.mono e3)
  · obtain ⟨_, _, _, _, hgd⟩ := h
    rw [List.take_length] at hgd
    obtain ⟨x, hx1, hx2⟩ := hx
    exact absurd (hgd x hx1) hx2
/-! texts -/
abbrev rFind : V → List V → Hp → VK → Prop := fun x xs H Q => ∃ a b, x = .str a ∧ xs = [.str b] ∧ Q (.int (Txt.find a b)) H
theorem ev_find {a b : Str} (ha : Ev K H0 .r to ss (.str a)) (hb : Ev K H0 .r te ss (.str b)) : Ev K H0 m (tM1 rFind to te) ss (.int (Txt.find a b)) := fun σ H O Q s q =>
  ha σ H O _ s fun x H1 e1 r1 => by
    cases r1
    refine ⟨⟨a, rfl⟩, hb σ H1 O _ (s.mono e1) fun y H2 e2 r2 => ?_⟩
    cases r2
    exact ⟨a, b, rfl, rfl, q _ H2 (Evl.Ex.trans e1 e2) (Res.ofF (.int _))⟩
theorem ev_slTx {tl th : TO} {lo hi : Option Int} {z : Str} (ha : Ev K H0 .r ta ss (.str z)) (h1 : EvO K H0 tl ss lo) (h2 : EvO K H0 th ss hi) (hz : z.length ≤ sizeLine) : Ev K H0 m (tSl rSlS ta tl th) ss (.str (cutS z lo hi)) := fun σ H O Q s q =>
  ha σ H O _ s fun v H1 e1 r1 => h1 σ H1 O _ (s.mono e1) fun H2 e2 => h2 σ H2 O _ ((s.mono e1).mono e2) fun H3 e3 => by
    cases r1
    exact ⟨z, rfl, hz, q _ H3 (Evl.Ex.trans e1 (Evl.Ex.trans e2 e3)) (Res.ofF (.str _))⟩
end
section
variable {X : Cx} {o e : Expr} {to te ta : TE} {apos pos : Pos}
theorem pe_find (ho : PE X o to) (he : PE X e te) (hs : starEach [e] X.env = [(false, eval e X.env)] := by rfl) (hbase : attributeBase o "find" X.env (eval o X.env) = eval o X.env := by rfl) (hline : (apos.endLine == pos.line) = true := by rfl) :
    PE X (.Call (.Attribute o "find" apos) [e] [] pos) (tM1 rFind to te) := pe_m1 F.slot_str_find F.type_str_find mt_find ho he hs hbase hline
theorem pe_slS {lo hi : Option Expr} {tl th : TO} {p2 : Pos} (he : PE X e ta) (hl : PO X lo tl) (hu : PO X hi th) : PE X (.Subscript e (.Slice lo hi none p2) pos) (tSl rSlS ta tl th) := pe_slice sl_str he hl hu
end
/-! the words of a text -/
open TL
theorem cut_len (z : Str) (lo hi : Option Int) : (cutS z lo hi).length ≤ z.length := by
  rw [len_tl, len_tl z]
  show (((tl z).drop _).take _).length ≤ _
  rw [List.length_take, List.length_drop]
  omega
theorem cat_len (x y : Str) : (x ++ y).length = x.length + y.length := by rw [len_tl, tl_append, List.length_append, len_tl, len_tl]
theorem spl_bd (S : List Nat) : ∀ (r : List Nat) (k : Nat) (acc : List Nat), (spl S k acc r).length ≤ r.length + 1 ∧ ∀ p ∈ spl S k acc r, p.length ≤ acc.length + r.length
  | [], k, acc => by
    rw [spl_nil]
    exact ⟨by simp, fun p hp => by rw [List.mem_singleton.mp hp]; simp⟩
  | c :: r, 0, acc => by
    unfold spl
    split
    · obtain ⟨h1, h2⟩ := spl_bd S r (S.length - 1) []
      refine ⟨by rw [List.length_cons, List.length_cons]; omega, fun p hp => ?_⟩
      rcases List.mem_cons.mp hp with e | e
      · rw [e]
        omega
      · have := h2 p e
        rw [List.length_nil] at this
        rw [List.length_cons]
        omega
    · obtain ⟨h1, h2⟩ := spl_bd S r 0 (acc ++ [c])
      refine ⟨by rw [List.length_cons]; omega, fun p hp => ?_⟩
      have := h2 p hp
      rw [List.length_append, List.length_singleton] at this
      rw [List.length_cons]
      omega
  | c :: r, k + 1, acc => by
    unfold spl
    obtain ⟨h1, h2⟩ := spl_bd S r k acc
    refine ⟨by rw [List.length_cons]; omega, fun p hp => ?_⟩
    have := h2 p hp
    rw [List.length_cons]
    omega
def wordsT (z : Str) : List Str := Txt.split z " "
theorem words_bd (z : Str) : (wordsT z).length ≤ z.length + 1 ∧ ∀ w ∈ wordsT z, w.length ≤ z.length := by
  have hs : (wordsT z).map tl = spl (tl " ") 0 [] (tl z) := split_spl z " " (by decide +kernel) (kind_ok (by decide +kernel))
  obtain ⟨h1, h2⟩ := spl_bd (tl " ") (tl z) 0 []
  rw [← hs] at h1 h2
  rw [List.length_map] at h1
  refine ⟨by rw [len_tl z]; exact h1, fun w hw => ?_⟩
  have := h2 (tl w) (List.mem_map.mpr ⟨w, hw, rfl⟩)
  rw [len_tl, len_tl z]
  simpa using this
end Li

namespace Li
open PySem PySem.Spec PyProof.Rows L2
def topS (i : Nat) : Stmt := PySem.Challenge.pw_litfigures_k13_read.main.body.getD i (.Pass ⟨0, 0, 0, 0⟩)
abbrev s_place_of : Stmt := topS 8
abbrev s_read : Stmt := topS 9
abbrev s__law_cell_at : Stmt := topS 11
abbrev s__law_pick : Stmt := topS 12
abbrev s__law_mix : Stmt := topS 13
abbrev s__law_place : Stmt := topS 14
abbrev s__law_panel : Stmt := topS 15
abbrev s__law_text : Stmt := topS 16
abbrev s__law_rows_like : Stmt := topS 17
abbrev s__law_refused : Stmt := topS 18
abbrev s__law_told : Stmt := topS 19
abbrev s__law_due : Stmt := topS 20
abbrev s_law : Stmt := topS 21
section
variable {P : Program} {w : World} {K : PySem.W.Frag} {mg : Str → Option Value} {base : Heap} {cl : Xc → Addr}
/-- the built-in names that the text does not take -/
structure Blt (mg : Str → Option Value) : Prop where
  range : mg "range" = none
  len : mg "len" = none
  str : mg "str" = none
  int : mg "int" = none
  bool : mg "bool" = none
  list : mg "list" = none
  tuple : mg "tuple" = none
  isinstance : mg "isinstance" = none
  sum : mg "sum" = none
  all : mg "all" = none
  max : mg "max" = none
  min : mg "min" = none
  zip : mg "zip" = none
  enumerate : mg "enumerate" = none
  reversed : mg "reversed" = none
/-- an own error of the text -/
structure ExAt (K : PySem.W.Frag) (mg : Str → Option Value) (x : Str) (C : Addr) : Prop where
  e : PySem.W.excIn K C [.type "ValueError", .type "Exception", .type "BaseException", .type "object"] "ValueError.__new__" = true
  g : mg x = some (.ref C)
  k : PySem.W.keepIn K (.ref C) = true
  b : PySem.W.subIn K (.ref C) (.type "BaseException") = some true
  t : PySem.W.typeIn K (.ref C) = some (.type "type")

open TL
/-- the written dict -/
structure SignsAt (K : PySem.W.Frag) (w : World) (mg : Str → Option Value) (aS : Addr) : Prop where
  gS : mg "SIGNS" = some (.ref aS)
  dS : SDict K w aS signsG
theorem g_sum : ∀ p : List Mk, ((p.map Mk.g).map (·.length)).sum = p.length
  | [] => rfl
  | m :: p => by
    rw [List.map_cons, List.map_cons, List.sum_cons, g_sum p, List.length_cons, mk_g]
    show 1 + _ = _
    omega
theorem w_sum : ∀ l : List (List Mk), (∀ p ∈ l, p.length = 7) → ((l.map wordM).map (·.length)).sum = 7 * l.length
  | [], _ => rfl
  | p :: l, h => by
    rw [List.map_cons, List.map_cons, List.sum_cons, w_sum l fun q hq => h q (List.mem_cons_of_mem _ hq), word_len, h p List.mem_cons_self, List.length_cons]
    omega

/-! place_of -/
theorem sc_place_of : FnScope ["word", "sign"] ["word"] (defScope s_place_of) := ⟨rfl, rfl, rfl, by decide +kernel, rfl, by decide +kernel, by decide +kernel⟩
def ValidW (z : Str) : Prop := z.length = 7 ∧ ∀ c ∈ tl z, (ofC c).isSome = true
def marksW (z : Str) : List Mk := (tl z).map fun c => (ofC c).getD .good
def R_place_of (ds : List PyData) (r : Except Xc PyData) : Prop := ∃ z : Str, z.length ≤ 100000 ∧ ds = [.str z] ∧ ((ValidW z ∧ r = .ok (dPl (marksW z))) ∨ (¬ ValidW z ∧ r = .error .note))
theorem valid_word {p : List Mk} (h : p.length = 7) : ValidW (wordM p) := ⟨by rw [word_len, h], fun c hc => by
  rw [tl_word] at hc
  obtain ⟨m, _, rfl⟩ := List.mem_map.mp hc
  rw [ofC_c]
  rfl⟩
theorem marks_word (p : List Mk) : marksW (wordM p) = p := by
  unfold marksW
  rw [tl_word, List.map_map]
  conv => rhs; rw [← List.map_id p]
  refine List.map_congr_left fun m _ => ?_
  show (ofC m.c).getD .good = m
  rw [ofC_c]
  rfl
theorem ok_place_of (F : DefAt K mg "place_of" s_place_of ["word"]) (B : Blt mg) {aSIGNS : Addr} (N : SignsAt K w mg aSIGNS) (X : ExAt K mg "NoNote" (cl .note)) : Cal P w K mg base (L2.CX P w) 1 "place_of" ["word"] (spX K cl R_place_of) := by
  refine cal_okX F sc_place_of (by rintro _ _ ⟨_, _, rfl, _⟩; rfl) fun f cdv A outer s H E hr => ⟨_,
    (pss_cons (ps_if (pt_cmpR op_ne (pe_callB call_len_str (by rfl) B.len boot_len (pa_cons (pv 0) pa_nil)) pe_int (nomark _))
        (pss_cons (ps_rz rfl (takes_of rfl rfl rfl rfl) PySem.F.excBase_ValueError X.e X.g X.k (raises_own X.b X.t) (by rfl))
        pss_nil)
        pss_nil)
    (pss_cons (ps_for (passes_of rfl) rfl (pi_str (pv 0)) (pg_name (i := 1) sc_place_of.nd rfl (.inl rfl))
        (pss_cons (ps_if (pt_cmpR (op_sdnin N.dS) (pv 1) (pe_glob (v := .ref aSIGNS) (by rfl) N.gS rfl) (by rfl))
            (pss_cons (ps_rz rfl (takes_of rfl rfl rfl rfl) PySem.F.excBase_ValueError X.e X.g X.k (raises_own X.b X.t) (by rfl))
            pss_nil)
            pss_nil)
        pss_nil))
    (pss_cons (ps_ret (pe_lc (own := [("sign", 1)]) (g := (gName 1)) (tt := tYes) rfl sc_place_of.nd (pi_str (pv 0)) (blkOk_by (N := ["word", "sign"]) (sc := defScope s_place_of) (by decide +kernel)) (fun _ _ _ _ _ => (pg_name (i := 1) sc_place_of.nd rfl (.inl rfl))) (fun _ _ _ _ _ => pts_nil) (fun _ _ _ _ _ => (pe_sdix N.dS (pe_glob (v := .ref aSIGNS) (by rfl) N.gS rfl) (pv 1)))))
    pss_nil))), ?_⟩
  rintro _ r ⟨z, hz, rfl, h⟩ D hD
  refine q_when (et_test (ev_neI (ev_lenS (ev_rd rfl) (Nat.le_trans hz (by decide))) ev_int)) (fun h7 => ?_) (fun h7 => ?_)
  · rcases h with ⟨h1, _⟩ | ⟨_, rfl⟩
    · rw [h1.1] at h7
      simp at h7
    · exact q_raise hD
  have h7 : z.length = 7 := by
    have : decide ((z.length : Int) = 7) = true := by simpa using h7
    have := of_decide_eq_true this
    omega
  refine q_for (m := .f) (l := tl z) (en := fun c => .str ⟨#[c]⟩) (fun _ => [.rd (.str z), .no]) (fun pre => ∀ c ∈ pre, (ofC c).isSome = true) (fun _ c => [.rd (.str z), .fr (.str ⟨#[c]⟩)]) (ei_str (ev_rd rfl)) ?_ (fun c hc => by cases hc) (fun pre c post he => tg_name) (fun Φ pre c post he hp => ?_) (fun hp => ?_)
  · exact .eq rfl (.no .nil)
  · refine q_when ((et_test (ev_sdnin (ev_fr rfl))).to (b' := (ofC c).isNone) (by rw [signsG_is]; cases ofC c <;> rfl)) (fun hc => ?_) (fun hc => ?_)
    · rcases h with ⟨h1, _⟩ | ⟨_, rfl⟩
      · have := h1.2 c (by rw [he]; simp)
        cases e : ofC c with
        | none =>
          rw [e] at this
          cases this
        | some m =>
          rw [e] at hc
          cases hc
      · exact q_raise hD
    · refine q_end (fun c' hc' => ?_) (.eq rfl (.no .nil))
      rcases List.mem_append.mp hc' with hc' | hc'
      · exact hp c' hc'
      · rw [List.mem_singleton.mp hc']
        cases e : ofC c with
        | none =>
          rw [e] at hc
          cases hc
        | some m => rfl
  · rcases h with ⟨h1, rfl⟩ | ⟨h1, _⟩
    · refine q_ret (evn_lcA (m := .f) (l := tl z) (en := fun c => .str ⟨#[c]⟩) (fun c => dMk ((ofC c).getD .good)) _ (ei_str (ev_rd rfl)) (fun c hx => tgw_name) (fun c hx => (ev_sdix (ev_fr rfl) ?_)) (by rw [← len_tl, h7]; decide)).f hD (by unfold marksW; rw [dPl, List.map_map]; rfl)
      rw [signsG_is]
      have := hp c hx
      cases e : ofC c with
      | none =>
        rw [e] at this
        cases this
      | some m => rfl
    · exact absurd ⟨h7, hp⟩ h1

/-! read -/
theorem sc_read : FnScope ["text", "words", "word"] ["text"] (defScope s_read) := ⟨rfl, rfl, rfl, by decide +kernel, rfl, by decide +kernel, by decide +kernel⟩
def ValidT (z : Str) : Prop := (wordsT z).length ≤ 4 ∧ ∀ w ∈ wordsT z, ValidW w
def panelT (z : Str) : List (List Mk) := (wordsT z).map marksW
def R_read (ds : List PyData) (r : Except Xc PyData) : Prop := ∃ z : Str, z.length ≤ 1000 ∧ ds = [.str z] ∧ ((ValidT z ∧ r = .ok (dPan (panelT z))) ∨ (¬ ValidT z ∧ r = .error .note))
theorem ok_read (F : DefAt K mg "read" s_read ["text"]) (B : Blt mg) (X : ExAt K mg "NoNote" (cl .note)) (C_place_of : Cal P w K mg base (L2.CX P w) 1 "place_of" ["word"] (spX K cl R_place_of)) : Cal P w K mg base (L2.CX P w) 2 "read" ["text"] (spX K cl R_read) := by
  refine cal_okX F sc_read (by rintro _ _ ⟨_, _, rfl, _⟩; rfl) fun f cdv A outer s H E hr => ⟨_,
    (pss_cons (ps_set (i := 1) sc_read.nd rfl (.inl rfl) (pe_split (pv 0) pe_str))
    (pss_cons (ps_if (pt_cmpR op_gt (pe_callB (call_lenK K) (by rfl) B.len boot_len (pa_cons (pv 1) pa_nil)) pe_int (nomark _))
        (pss_cons (ps_rz rfl (takes_of rfl rfl rfl rfl) PySem.F.excBase_ValueError X.e X.g X.k (raises_own X.b X.t) (by rfl))
        pss_nil)
        pss_nil)
    (pss_cons (ps_ret (pe_lcX (Wb := fun cls d _ H => E cls d H) (own := [("word", 2)]) (g := (gName 2)) (tt := tYes) rfl sc_read.nd rfl rfl (takes_of rfl rfl rfl rfl) (fun _ _ _ _ _ h => h) (pi_listK K (pv 1)) (blkOk_by (N := ["text", "words", "word"]) (sc := defScope s_read) (by decide +kernel)) (fun _ _ _ _ _ => (pg_name (i := 2) sc_read.nd rfl (.inl rfl))) (fun _ _ _ _ _ => pts_nil) (fun _ _ _ _ _ => (pe_cal C_place_of hr rfl (fun pins σ H s e s' I c => XF.of_call I.unwish (fun _ _ _ h => h) c) (pa_cons (pv 2) pa_nil)))))
    pss_nil))), ?_⟩
  rintro _ r ⟨z, hz, rfl, h⟩ D hD
  have hb := words_bd z
  refine q_asg (m := .f) (evn_split (ev_rd rfl) ev_str (by decide +kernel) (by show _ ≤ 16777216; omega)).f ?_
  refine q_when (et_test (ev_gt ((ev_len (ev_fr rfl)).to (congrArg (fun n : Nat => PyData.int (n : Int)) (List.length_map _))) ev_int)) (fun h4 => ?_) (fun h4 => ?_)
  · have h4 : ¬ (wordsT z).length ≤ 4 := by
      have := of_decide_eq_true h4
      unfold wordsT
      omega
    rcases h with ⟨h1, _⟩ | ⟨_, rfl⟩
    · exact absurd h1.1 h4
    · exact q_raise hD
  have h4 : (wordsT z).length ≤ 4 := by
    have := of_decide_eq_false h4
    unfold wordsT
    omega
  have hpo : ∀ w ∈ wordsT z, ValidW w → R_place_of [.str w] (.ok (dPl (marksW w))) := fun w hw hv => ⟨w, by have := hb.2 w hw; omega, rfl, .inl ⟨hv, rfl⟩⟩
  have hpe : ∀ w ∈ wordsT z, ¬ ValidW w → R_place_of [.str w] (.error .note) := fun w hw hv => ⟨w, by have := hb.2 w hw; omega, rfl, .inr ⟨hv, rfl⟩⟩
  rcases h with ⟨h1, rfl⟩ | ⟨h1, rfl⟩
  · refine q_ret (evn_lcA (m := .f) (l := wordsT z) (en := .str) (fun w => dPl (marksW w)) _ (ei_listF (ev_fr rfl)) (fun w hw => tgw_name) (fun w hw => (ev_callX (ea_cons (ev_fr rfl) ea_nil) (hpo w hw (h1.2 w hw)))) (by omega)).f hD ?_
    unfold panelT
    rw [dPan, List.map_map]
    rfl
  · refine q_nevR (nv_lcE (m := .f) (l := wordsT z) (en := .str) ValidW (fun w => dPl (marksW w)) _ (ei_listF (ev_fr rfl)) (fun w hw => tgw_name) (fun w hw hv => (ev_callX (ea_cons (ev_fr rfl) ea_nil) (hpo w hw hv))) (fun w hw hv => (nv_callX (ea_cons (ev_fr rfl) ea_nil) (hpe w hw hv) hD)) ?_ (by omega))
    apply Classical.byContradiction
    intro hn
    exact h1 ⟨h4, fun w hw => Classical.byContradiction fun hv => hn ⟨w, hw, hv⟩⟩

/-! _law_text -/
theorem sc__law_text : FnScope ["panel", "words", "place", "word", "mark"] ["panel"] (defScope s__law_text) := ⟨rfl, rfl, rfl, by decide +kernel, rfl, by decide +kernel, by decide +kernel⟩
def R__law_text (ds : List PyData) (d : PyData) : Prop := ∃ pn : List (List Mk), (∀ p ∈ pn, p.length = 7) ∧ pn.length ≤ 1000 ∧ ds = [dPan pn] ∧ d = .str (textM pn)
def dotsT : Str := ".-+"
def Mk.n : Mk → Nat
  | .good => 0
  | .dead => 1
  | .stuck => 2
def names3 : List Str := ["good", "dead", "stuck"]
theorem names_at : ∀ m : Mk, names3[m.n]? = some m.s ∧ ∀ k < m.n, names3[k]? ≠ some m.s := by
  intro m
  cases m <;> decide +kernel
theorem dots_at (m : Mk) : dotsT.cps.toList[m.n]? = some m.c := by cases m <;> decide +kernel
theorem mk_n (m : Mk) : m.n < 3 := by cases m <;> decide
theorem ok__law_text (F : DefAt K mg "_law_text" s__law_text ["panel"]) (B : Blt mg) : Cal P w K mg base CX0 1 "_law_text" ["panel"] (spOf K R__law_text) := by
  refine cal_ok F sc__law_text (by rintro _ _ ⟨_, _, _, rfl, _⟩; rfl) fun f cdv A outer s H E hr => ⟨_,
    (pss_cons (ps_set (i := 1) sc__law_text.nd rfl (.inl rfl) (pe_lst pa_nil))
    (pss_cons (ps_for PassesOwn.never rfl (pi_listK K (pv 0)) (pg_name (i := 2) sc__law_text.nd rfl (.inl rfl))
        (pss_cons (ps_set (i := 3) sc__law_text.nd rfl (.inl rfl) pe_str)
        (pss_cons (ps_for PassesOwn.never rfl (pi_listK K (pv 2)) (pg_name (i := 4) sc__law_text.nd rfl (.inl rfl))
            (pss_cons (ps_set (i := 3) sc__law_text.nd rfl (.inl rfl) (pe_op op_add_str (pv 3) (pe_ixS pe_str (pe_bm PySem.F.plainAttrs_list PySem.F.slot_list_index PySem.F.type_list_index (mt_indexK K) (pe_lst (pa_cons pe_str (pa_cons pe_str (pa_cons pe_str pa_nil)))) (pa_cons (pv 4) pa_nil)))))
            pss_nil))
        (pss_cons (ps_expr (pe_bm PySem.F.plainAttrs_list PySem.F.slot_list_append PySem.F.type_list_append mt_append (pv 1) (pa_cons (pv 3) pa_nil)))
        pss_nil))))
    (pss_cons (ps_ret (pe_joinK K pe_str (pv 1)))
    pss_nil))), ?_⟩
  rintro _ _ ⟨pn, hp, hn, rfl, rfl⟩ D hD
  refine q_own (evn_lst ea_nil) ?_
  refine q_forN (m := .g) (l := pn) (en := dPl) (fun pre => [.rd (dPan pn), .ow ((pre.map wordM).map .str), .no, .no, .no]) (ei_listG (ev_rd rfl)) ?_ (fun Φ pre p post he => ?_) ?_
  · exact .eq rfl (.eq rfl (.no (.no (.no .nil))))
  · have hp7 : p.length = 7 := hp p (by rw [he]; simp)
    refine q_asg (m := .f) ev_str ?_
    refine q_forN (m := .g) (l := p) (en := dMk) (fun pm => [.rd (dPan pn), .ow ((pre.map wordM).map .str), .rd (dPl p), .fr (.str (wordM pm)), .no]) (ei_listG (ev_rd rfl)) ?_ (fun Φ pm m pmL hem => ?_) ?_
    · exact .eq rfl (.eq rfl (.eq rfl (.eq rfl (.no .nil))))
    · have hpm : pm.length ≤ 7 := by
        have := congrArg List.length hem
        simp at this
        omega
      have hna := names_at m
      have hn3 := mk_n m
      refine q_asg (m := .f) ((ev_cat_str (ev_fr rfl) ((ev_ixS (z := dotsT) m.n ev_str (ev_index (ns := names3) (ev_lst (ea_cons ev_str (ea_cons ev_str (ea_cons ev_str ea_nil)))) (ev_rd rfl) hna.1 hna.2) (by decide +kernel) (ixN_lit hn3) (dots_at m)).to (d' := .str m.g) (congrArg PyData.str (mk_g m).symm)) (by rw [word_len, mk_g]; show pm.length + 1 ≤ _; exact Nat.le_trans (Nat.succ_le_succ hpm) (by decide))).to (congrArg PyData.str (word_snoc pm m))) ?_
      exact q_end trivial (.eq rfl (.eq rfl (.eq rfl (.eq rfl (.no .nil)))))
    · refine q_app rfl (ev_fr rfl) ?_ ?_
      · refine q_end trivial (.eq rfl (.eq ?_ (.no (.no (.no .nil)))))
        rw [List.map_append, List.map_append]
        rfl
      · rw [List.length_map, List.length_map]
        have := congrArg List.length he
        simp at this
        omega
  · refine q_ret (ev_join (ys := pn.map wordM) ev_str (ev_ow rfl) ?_) hD
    rw [w_sum pn hp, List.length_map, show (" " : Str).length = 1 from by decide +kernel]
    omega

/-! _law_due -/
theorem sc__law_due : FnScope ["text", "found", "word", "place", "sign"] ["text"] (defScope s__law_due) := ⟨rfl, rfl, rfl, by decide +kernel, rfl, by decide +kernel, by decide +kernel⟩
noncomputable def dueT (z : Str) : PyData := open Classical in if ValidT z then dPan (panelT z) else .none
theorem due_no {z : Str} (h : ¬ ValidT z) : dueT z = .none := if_neg h
theorem due_yes {z : Str} (h : ValidT z) : dueT z = dPan (panelT z) := if_pos h
def R__law_due (ds : List PyData) (d : PyData) : Prop := ∃ z : Str, z.length ≤ 1000 ∧ ds = [.str z] ∧ d = dueT z
def signs3 : List Str := [".", "-", "+"]
theorem sign_in (c : Nat) : decide ((⟨#[c]⟩ : Str) ∈ signs3) = (ofC c).isSome := by
  have e1 : ((⟨#[c]⟩ : Str) = ".") ↔ c = 46 := ⟨fun h => ((one_eq .good c).mp h.symm).symm, fun h => ((one_eq .good c).mpr h.symm).symm⟩
  have e2 : ((⟨#[c]⟩ : Str) = "-") ↔ c = 45 := ⟨fun h => ((one_eq .dead c).mp h.symm).symm, fun h => ((one_eq .dead c).mpr h.symm).symm⟩
  have e3 : ((⟨#[c]⟩ : Str) = "+") ↔ c = 43 := ⟨fun h => ((one_eq .stuck c).mp h.symm).symm, fun h => ((one_eq .stuck c).mpr h.symm).symm⟩
  unfold signs3 ofC
  simp only [List.mem_cons, List.not_mem_nil, or_false, e1, e2, e3]
  by_cases h1 : c = 46
  · simp [h1]
  · by_cases h2 : c = 45
    · simp [h2]
    · by_cases h3 : c = 43
      · simp [h3]
      · simp [h1, h2, h3]
theorem find_sign (m : Mk) : Txt.find dotsT ⟨#[m.c]⟩ = (m.n : Int) := by cases m <;> decide +kernel
theorem ok__law_due (F : DefAt K mg "_law_due" s__law_due ["text"]) (B : Blt mg) : Cal P w K mg base CX0 1 "_law_due" ["text"] (spOf K R__law_due) := by
  refine cal_ok F sc__law_due (by rintro _ _ ⟨_, _, rfl, _⟩; rfl) fun f cdv A outer s H E hr => ⟨_,
    (pss_cons (ps_set (i := 1) sc__law_due.nd rfl (.inl rfl) (pe_lst pa_nil))
    (pss_cons (ps_for PassesOwn.never rfl (pi_listK K (pe_split (pv 0) pe_str)) (pg_name (i := 2) sc__law_due.nd rfl (.inl rfl))
        (pss_cons (ps_set (i := 3) sc__law_due.nd rfl (.inl rfl) (pe_lst pa_nil))
        (pss_cons (ps_for PassesOwn.never rfl (pi_str (pv 2)) (pg_name (i := 4) sc__law_due.nd rfl (.inl rfl))
            (pss_cons (ps_if (pt_cmpR (op_ninK K) (pv 4) (pe_tup (pa_cons pe_str (pa_cons pe_str (pa_cons pe_str pa_nil)))) (by rfl))
                (pss_cons (ps_ret pe_non)
                pss_nil)
                pss_nil)
            (pss_cons (ps_expr (pe_bm PySem.F.plainAttrs_list PySem.F.slot_list_append PySem.F.type_list_append mt_append (pv 3) (pa_cons (pe_ixL K (pe_lst (pa_cons pe_str (pa_cons pe_str (pa_cons pe_str pa_nil)))) (pe_find pe_str (pv 4))) pa_nil)))
            pss_nil)))
        (pss_cons (ps_if (pt_cmpR op_ne (pe_callB (call_lenK K) (by rfl) B.len boot_len (pa_cons (pv 3) pa_nil)) pe_int (nomark _))
            (pss_cons (ps_ret pe_non)
            pss_nil)
            pss_nil)
        (pss_cons (ps_expr (pe_bm PySem.F.plainAttrs_list PySem.F.slot_list_append PySem.F.type_list_append mt_append (pv 1) (pa_cons (pv 3) pa_nil)))
        pss_nil)))))
    (pss_cons (ps_if (pt_cmpR op_gt (pe_callB (call_lenK K) (by rfl) B.len boot_len (pa_cons (pv 1) pa_nil)) pe_int (nomark _))
        (pss_cons (ps_ret pe_non)
        pss_nil)
        pss_nil)
    (pss_cons (ps_ret (pv 1))
    pss_nil)))), ?_⟩
  rintro _ _ ⟨z, hz, rfl, rfl⟩ D hD
  have hb := words_bd z
  refine q_own (evn_lst ea_nil) ?_
  refine q_for (m := .f) (l := wordsT z) (en := .str) (fun pre => [.rd (.str z), .ow ((pre.map marksW).map dPl), .no, .no, .no]) (fun pre => ∀ w ∈ pre, ValidW w) (fun pre w => [.rd (.str z), .ow ((pre.map marksW).map dPl), .fr (.str w), .no, .no]) (ei_listF (evn_split (ev_rd rfl) ev_str (by decide +kernel) (by show _ ≤ 16777216; omega)).f) ?_ (fun w hw => by cases hw) (fun pre w post he => tg_name) (fun Φ pre w post he hp => ?_) (fun hp => ?_)
  · exact .eq rfl (.eq rfl (.no (.no (.no .nil))))
  · have hwm : w ∈ wordsT z := by rw [he]; simp
    have hwl := hb.2 w hwm
    refine q_own (evn_lst ea_nil) ?_
    refine q_for (m := .f) (l := TL.tl w) (en := fun c => .str ⟨#[c]⟩) (fun pc => [.rd (.str z), .ow ((pre.map marksW).map dPl), .fr (.str w), .ow ((pc.map fun c => (ofC c).getD .good).map dMk), .no]) (fun pc => ∀ c ∈ pc, (ofC c).isSome = true) (fun pc c => [.rd (.str z), .ow ((pre.map marksW).map dPl), .fr (.str w), .ow ((pc.map fun c => (ofC c).getD .good).map dMk), .fr (.str ⟨#[c]⟩)]) (ei_str (ev_fr rfl)) ?_ (fun c hc => by cases hc) (fun pc c post he => tg_name) (fun Φ pc c pcL hec hpc => ?_) (fun hpc => ?_)
    · exact .eq rfl (.eq rfl (.eq rfl (.eq rfl (.no .nil))))
    · have hcm : c ∈ TL.tl w := by rw [hec]; simp
      refine q_when ((et_test (ev_ninT (n := ⟨#[c]⟩) (ns := signs3) (ev_fr rfl) (ev_tup (ea_cons ev_str (ea_cons ev_str (ea_cons ev_str ea_nil)))))).to (congrArg Bool.not (sign_in c))) (fun h => ?_) (fun h => ?_)
      · refine q_ret ev_non hD (due_no fun hv => ?_).symm
        have := (hv.2 w hwm).2 c hcm
        rw [this] at h
        cases h
      · cases ho : ofC c with
        | none =>
          rw [ho] at h
          cases h
        | some m =>
        have hc := ofC_some ho
        subst hc
        refine q_app rfl ((ev_ixL (ds := names3.map .str) m.n (ev_lst (ea_cons ev_str (ea_cons ev_str (ea_cons ev_str ea_nil)))) ((ev_find (a := dotsT) ev_str (ev_fr rfl)).to (congrArg PyData.int (find_sign m))) (ixN_lit (by show m.n < 3; exact mk_n m)) (map_get (names_at m).1)).to (d' := dMk m) rfl) ?_ ?_
        · refine q_end (fun c' hc' => ?_) (.eq rfl (.eq rfl (.eq rfl (.eq ?_ (.no .nil)))))
          · rcases List.mem_append.mp hc' with hc' | hc'
            · exact hpc c' hc'
            · rw [List.mem_singleton.mp hc', ho]
              rfl
          · rw [List.map_append, List.map_append]
            show _ = Sl.ow (_ ++ [dMk ((ofC m.c).getD .good)])
            rw [ho]
            rfl
        · rw [List.length_map, List.length_map]
          have := congrArg List.length hec
          rw [← TL.len_tl] at this
          simp at this
          omega
    · refine q_when (et_test (ev_neI ((ev_len (ev_ow rfl)).to (congrArg (fun n : Nat => PyData.int (n : Int)) (show _ = w.length by rw [List.length_map, List.length_map, TL.len_tl]))) ev_int)) (fun h => ?_) (fun h => ?_)
      · refine q_ret ev_non hD (due_no fun hv => ?_).symm
        have := (hv.2 w hwm).1
        rw [this] at h
        simp at h
      · have hw7 : w.length = 7 := by
          have : decide ((w.length : Int) = 7) = true := by simpa using h
          have := of_decide_eq_true this
          omega
        refine q_weak (ss' := [.rd (.str z), .ow ((pre.map marksW).map dPl), .no, .fr (dPl (marksW w)), .no]) (.eq rfl (.eq rfl (.no (.sh rfl (.no .nil))))) ?_
        refine q_app rfl (ev_fr rfl) ?_ ?_
        · refine q_end (fun w' hw' => ?_) (.eq rfl (.eq ?_ (.no (.no (.no .nil)))))
          · rcases List.mem_append.mp hw' with hw' | hw'
            · exact hp w' hw'
            · rw [List.mem_singleton.mp hw']
              exact ⟨hw7, hpc⟩
          · rw [List.map_append, List.map_append]
            rfl
        · rw [List.length_map, List.length_map]
          have := congrArg List.length he
          simp at this
          omega
  · refine q_when (et_test (ev_gt ((ev_len (ev_ow rfl)).to (congrArg (fun n : Nat => PyData.int (n : Int)) (show _ = (wordsT z).length by rw [List.length_map, List.length_map]))) ev_int)) (fun h => ?_) (fun h => ?_)
    · refine q_ret ev_non hD (due_no fun hv => ?_).symm
      have := hv.1
      have := of_decide_eq_true h
      omega
    · refine q_reto rfl hD (due_yes ⟨?_, hp⟩).symm
      have := of_decide_eq_false h
      omega

/-! _law_cell_at -/
theorem sc__law_cell_at : FnScope ["script", "k"] ["script", "k"] (defScope s__law_cell_at) := ⟨rfl, rfl, rfl, by decide +kernel, rfl, by decide +kernel, by decide +kernel⟩
def R__law_cell_at (ds : List PyData) (d : PyData) : Prop := ∃ (ns : List Int) (k : Int), 0 ≤ k ∧ ds = [dIs ns, .int k] ∧ d = .int (cellM ns k)
theorem cell_get {ns : List Int} {k : Int} (h0 : 0 ≤ k) (h : k < (ns.length : Int)) : (ns.map PyData.int)[k.toNat]? = some (.int (ns.getD k.toNat 0)) := map_get (getElem?_getD' 0 (by omega))
theorem ok__law_cell_at (F : DefAt K mg "_law_cell_at" s__law_cell_at ["script", "k"]) (B : Blt mg) : Cal P w K mg base CX0 1 "_law_cell_at" ["script", "k"] (spOf K R__law_cell_at) := by
  refine cal_ok F sc__law_cell_at (by rintro _ _ ⟨_, _, _, rfl, _⟩; rfl) fun f cdv A outer s H E hr => ⟨_,
    (pss_cons (ps_if (pt_cmpR op_lt (pv 1) (pe_callB (call_lenK K) (by rfl) B.len boot_len (pa_cons (pv 0) pa_nil)) (nomark _))
        (pss_cons (ps_ret (pe_ixL K (pv 0) (pv 1)))
        pss_nil)
        pss_nil)
    (pss_cons (ps_ret pe_int)
    pss_nil)), ?_⟩
  rintro _ _ ⟨ns, k, h0, rfl, rfl⟩ D hD
  refine q_when (et_test (ev_lt (ev_rd rfl) (ev_len (ev_rd rfl)))) (fun h => ?_) (fun h => ?_)
  · have h := of_decide_eq_true h
    rw [List.length_map] at h
    exact q_ret (ev_ixL k.toNat (ev_rd rfl) (ev_rd rfl) (ixN_of h0 (by rw [List.length_map]; exact h)) (cell_get h0 h)) hD
  · have h := of_decide_eq_false h
    rw [List.length_map] at h
    refine q_ret ev_int hD ?_
    unfold cellM
    rw [List.getD_eq_getElem?_getD, List.getElem?_eq_none (by omega)]
    rfl

/-! _law_pick -/
theorem sc__law_pick : FnScope ["script", "k"] ["script", "k"] (defScope s__law_pick) := ⟨rfl, rfl, rfl, by decide +kernel, rfl, by decide +kernel, by decide +kernel⟩
def R__law_pick (ds : List PyData) (d : PyData) : Prop := ∃ (ns : List Int) (k : Int), 0 ≤ k ∧ ds = [dIs ns, .int k] ∧ d = .int (pickM ns k)
theorem ok__law_pick (F : DefAt K mg "_law_pick" s__law_pick ["script", "k"]) (B : Blt mg) (C__law_cell_at : Cal P w K mg base CX0 1 "_law_cell_at" ["script", "k"] (spOf K R__law_cell_at)) : Cal P w K mg base CX0 2 "_law_pick" ["script", "k"] (spOf K R__law_pick) := by
  refine cal_ok F sc__law_pick (by rintro _ _ ⟨_, _, _, rfl, _⟩; rfl) fun f cdv A outer s H E hr => ⟨_,
    (pss_cons (ps_if (pt_cmpR op_lt (pv 1) (pe_callB (call_lenK K) (by rfl) B.len boot_len (pa_cons (pv 0) pa_nil)) (nomark _))
        (pss_cons (ps_ret (pe_ixL K (pv 0) (pv 1)))
        pss_nil)
        pss_nil)
    (pss_cons (ps_ret (pe_op op_fdiv (pe_op op_mod (pe_op op_mul (pe_op op_add (pe_op op_add (pe_cal C__law_cell_at hr rfl pass0 (pa_cons (pv 0) (pa_cons pe_int pa_nil))) (pe_op op_mul pe_int (pv 1))) pe_int) pe_int) pe_int) pe_int))
    pss_nil)), ?_⟩
  rintro _ _ ⟨ns, k, h0, rfl, rfl⟩ D hD
  refine q_when (et_test (ev_lt (ev_rd rfl) (ev_len (ev_rd rfl)))) (fun h => ?_) (fun h => ?_)
  · have h := of_decide_eq_true h
    rw [List.length_map] at h
    refine q_ret (ev_ixL k.toNat (ev_rd rfl) (ev_rd rfl) (ixN_of h0 (by rw [List.length_map]; exact h)) (cell_get h0 h)) hD ?_
    unfold pickM
    rw [if_pos h]
  · have h := of_decide_eq_false h
    rw [List.length_map] at h
    refine q_ret (ev_fdiv (ev_mod (ev_mul (ev_add (ev_add (ev_call (ea_cons (ev_rd rfl) (ea_cons ev_int ea_nil)) ⟨_, _, by decide, rfl, rfl⟩) (ev_mul ev_int (ev_rd rfl) (.inl (by decide)))) ev_int) ev_int (.inr (by decide))) ev_int) ev_int) hD ?_
    unfold pickM
    rw [if_neg h]

/-! _law_mix -/
theorem sc__law_mix : FnScope ["cell", "k", "mixed"] ["cell", "k"] (defScope s__law_mix) := ⟨rfl, rfl, rfl, by decide +kernel, rfl, by decide +kernel, by decide +kernel⟩
def R__law_mix (ds : List PyData) (d : PyData) : Prop := ∃ cell k : Int, ds = [.int cell, .int k] ∧ d = .int (mixM cell k)
theorem cmul_mod {x n y : Int} (h1 : 0 < n) (h2 : n < 2 ^ 64) : CMul (x % n) y := by
  have a := Int.emod_nonneg x (Int.ne_of_gt h1)
  have b := Int.emod_lt_of_pos x h1
  exact .inl ⟨by omega, by omega⟩
theorem ok__law_mix (F : DefAt K mg "_law_mix" s__law_mix ["cell", "k"]) : Cal P w K mg base CX0 1 "_law_mix" ["cell", "k"] (spOf K R__law_mix) := by
  refine cal_ok F sc__law_mix (by rintro _ _ ⟨_, _, rfl, _⟩; rfl) fun f cdv A outer s H E hr => ⟨_,
    (pss_cons (ps_set (i := 2) sc__law_mix.nd rfl (.inl rfl) (pe_op op_mod (pe_op op_add (pe_op op_add (pe_op op_mul (pv 0) pe_int) (pe_op op_mul pe_int (pv 1))) pe_int) pe_int))
    (pss_cons (ps_set (i := 2) sc__law_mix.nd rfl (.inl rfl) (pe_op op_mod (pe_op op_add (pe_op op_add (pe_op op_mul (pv 2) (pv 2)) (pe_op op_mul pe_int (pv 2))) (pv 1)) pe_int))
    (pss_cons (ps_ret (pe_op op_mod (pe_op op_add (pe_op op_add (pe_op op_mul (pv 2) (pv 2)) (pe_op op_mul pe_int (pv 2))) (pe_op op_mul pe_int (pv 1))) pe_int))
    pss_nil))), ?_⟩
  rintro _ _ ⟨cell, k, rfl, rfl⟩ D hD
  refine q_asg (m := .f) (ev_mod (ev_add (ev_add (ev_mul (ev_rd rfl) ev_int (.inr (by decide))) (ev_mul ev_int (ev_rd rfl) (.inl (by decide)))) ev_int) ev_int) ?_
  refine q_asg (m := .f) (ev_mod (ev_add (ev_add (ev_mul (ev_fr rfl) (ev_fr rfl) (cmul_mod (by decide) (by decide))) (ev_mul ev_int (ev_fr rfl) (.inl (by decide)))) (ev_rd rfl)) ev_int) ?_
  exact q_ret (ev_mod (ev_add (ev_add (ev_mul (ev_fr rfl) (ev_fr rfl) (cmul_mod (by decide) (by decide))) (ev_mul ev_int (ev_fr rfl) (.inl (by decide)))) (ev_mul ev_int (ev_rd rfl) (.inl (by decide)))) ev_int) hD

theorem mod_nn {x n : Int} (h : 0 < n) : 0 ≤ x % n ∧ x % n < n := ⟨Int.emod_nonneg _ (Int.ne_of_gt h), Int.emod_lt_of_pos _ h⟩
theorem mod_ix {x : Int} {n : Nat} (h : 0 < n) : ixN n (x % (n : Int)) = some (x % (n : Int)).toNat ∧ (x % (n : Int)).toNat < n := by
  have := mod_nn (x := x) (n := (n : Int)) (by omega)
  exact ⟨ixN_of this.1 this.2, by omega⟩

/-! _law_place -/
theorem sc__law_place : FnScope ["cell", "rare", "found", "stroke", "mixed", "mark"] ["cell"] (defScope s__law_place) := ⟨rfl, rfl, rfl, by decide +kernel, rfl, by decide +kernel, by decide +kernel⟩
def R__law_place (ds : List PyData) (d : PyData) : Prop := ∃ cell : Int, ds = [.int cell] ∧ d = dPl (placeM cell)
theorem ok__law_place (F : DefAt K mg "_law_place" s__law_place ["cell"]) (B : Blt mg) (C__law_mix : Cal P w K mg base CX0 1 "_law_mix" ["cell", "k"] (spOf K R__law_mix)) : Cal P w K mg base CX0 2 "_law_place" ["cell"] (spOf K R__law_place) := by
  refine cal_ok F sc__law_place (by rintro _ _ ⟨_, rfl, _⟩; rfl) fun f cdv A outer s H E hr => ⟨_,
    (pss_cons (ps_set (i := 1) sc__law_place.nd rfl (.inl rfl) (pe_ixL K (pe_lst (pa_cons pe_int (pa_cons pe_int (pa_cons pe_int pa_nil)))) (pe_op op_mod (pe_cal C__law_mix hr rfl pass0 (pa_cons (pv 0) (pa_cons pe_int pa_nil))) pe_int)))
    (pss_cons (ps_set (i := 2) sc__law_place.nd rfl (.inl rfl) (pe_lst pa_nil))
    (pss_cons (ps_for PassesOwn.never rfl (pi_range1 (by rfl) B.range (pa_cons pe_int pa_nil)) (pg_name (i := 3) sc__law_place.nd rfl (.inl rfl))
        (pss_cons (ps_set (i := 4) sc__law_place.nd rfl (.inl rfl) (pe_op op_fdiv (pe_cal C__law_mix hr rfl pass0 (pa_cons (pv 0) (pa_cons (pe_op op_add pe_int (pv 3)) pa_nil))) pe_int))
        (pss_cons (ps_set (i := 5) sc__law_place.nd rfl (.inl rfl) pe_str)
        (pss_cons (ps_if (pt_cmpR op_eq (pe_op op_mod (pv 4) (pv 1)) pe_int (nomark _))
            (pss_cons (ps_set (i := 5) sc__law_place.nd rfl (.inl rfl) (pe_ixL K (pe_lst (pa_cons pe_str (pa_cons pe_str pa_nil))) (pe_op op_mod (pe_op op_fdiv (pv 4) (pv 1)) pe_int)))
            pss_nil)
            pss_nil)
        (pss_cons (ps_expr (pe_bm PySem.F.plainAttrs_list PySem.F.slot_list_append PySem.F.type_list_append mt_append (pv 2) (pa_cons (pv 5) pa_nil)))
        pss_nil)))))
    (pss_cons (ps_ret (pv 2))
    pss_nil)))), ?_⟩
  rintro _ _ ⟨cell, rfl, rfl⟩ D hD
  have hr0 : 0 < rareM cell ∧ rareM cell < 1073741824 := by rcases rare_is cell with h | h | h <;> rw [h] <;> decide
  have hm3 := mod_ix (x := mixM cell 9) (n := 3) (by decide)
  refine q_asg (m := .f) (ev_ixL (ds := ([3, 6, 20] : List Int).map .int) (mixM cell 9 % 3).toNat (ev_lst (ea_cons ev_int (ea_cons ev_int (ea_cons ev_int ea_nil)))) (ev_mod (ev_call (ea_cons (ev_rd rfl) (ea_cons ev_int ea_nil)) ⟨_, _, rfl, rfl⟩) ev_int) hm3.1 (map_get (getElem?_getD' 3 hm3.2))) ?_
  refine q_own (evn_lst ea_nil) ?_
  refine q_forN (m := .f) (fun pre => [.rd (.int cell), .fr (.int (rareM cell)), .ow (pre.map fun k => dMk (markM cell k)), .no, .no, .no]) (ei_range1 ev_int (by decide)) ?_ (fun Φ pre x post hl => ?_) ?_
  · exact .eq rfl (.eq rfl (.eq rfl (.no (.no (.no .nil)))))
  · obtain ⟨hx, hx7, _⟩ := range_split hl
    have hx7 : x < 7 := hx7
    refine q_asg (m := .f) (ev_fdiv (ev_call (ea_cons (ev_rd rfl) (ea_cons (ev_add ev_int (ev_fr rfl)) ea_nil)) ⟨_, _, rfl, rfl⟩) ev_int) ?_
    refine q_asg (m := .f) ev_str ?_
    refine q_when (et_test (ev_eqI (ev_mod (ev_fr rfl) (ev_fr rfl) hr0.1) ev_int)) (fun h => ?_) (fun h => ?_)
    · have hm2 := mod_ix (x := mixM cell (10 + (x : Int)) / 7 / rareM cell) (n := 2) (by decide)
      refine q_asg (m := .f) (ev_ixL (ds := ([.dead, .stuck] : List Mk).map dMk) (mixM cell (10 + (x : Int)) / 7 / rareM cell % 2).toNat (ev_lst (ea_cons ev_str (ea_cons ev_str ea_nil))) (ev_mod (ev_fdiv (ev_fr rfl) (ev_fr rfl) hr0) ev_int) hm2.1 (map_get (getElem?_getD' .good hm2.2))) ?_
      refine q_nx (q_app rfl (ev_fr rfl) ?_ (by rw [List.length_map]; omega))
      refine q_end trivial (.eq rfl (.eq rfl (.eq ?_ (.no (.no (.no .nil))))))
      rw [List.map_append]
      refine congrArg (fun z => Sl.ow (_ ++ [dMk z])) ?_
      have h := of_decide_eq_true h
      unfold markM
      simp only [h, if_true]
      have h2 := mod_nn (x := mixM cell (10 + (x : Int)) / 7 / rareM cell) (n := 2) (by decide)
      by_cases e : mixM cell (10 + (x : Int)) / 7 / rareM cell % 2 = 0
      · rw [if_pos e]
        show [Mk.dead, Mk.stuck].getD (mixM cell (10 + (x : Int)) / 7 / rareM cell % 2).toNat .good = _
        rw [e]
        rfl
      · rw [if_neg e]
        show [Mk.dead, Mk.stuck].getD (mixM cell (10 + (x : Int)) / 7 / rareM cell % 2).toNat .good = _
        have e1 : mixM cell (10 + (x : Int)) / 7 / rareM cell % 2 = 1 := by omega
        rw [e1]
        rfl
    · refine q_app rfl (ev_fr rfl) ?_ (by rw [List.length_map]; omega)
      refine q_end trivial (.eq rfl (.eq rfl (.eq ?_ (.no (.no (.no .nil))))))
      rw [List.map_append]
      refine congrArg (fun z => Sl.ow (_ ++ [dMk z])) (a₁ := .good) ?_
      have h := of_decide_eq_false h
      unfold markM
      rw [if_neg h]
  · refine q_reto rfl hD ?_
    unfold placeM
    rw [dPl, List.map_map]
    rfl

/-! _law_panel -/
theorem sc__law_panel : FnScope ["script", "start", "places", "k"] ["script", "start", "places"] (defScope s__law_panel) := ⟨rfl, rfl, rfl, by decide +kernel, rfl, by decide +kernel, by decide +kernel⟩
def R__law_panel (ds : List PyData) (d : PyData) : Prop := ∃ (ns : List Int) (start : Int) (n : Int), 0 ≤ start ∧ 0 ≤ n ∧ n ≤ 1000 ∧ ds = [dIs ns, .int start, .int n] ∧ d = dPan (panelM ns start n.toNat)
theorem ok__law_panel (F : DefAt K mg "_law_panel" s__law_panel ["script", "start", "places"]) (B : Blt mg) (C__law_pick : Cal P w K mg base CX0 2 "_law_pick" ["script", "k"] (spOf K R__law_pick)) (C__law_place : Cal P w K mg base CX0 2 "_law_place" ["cell"] (spOf K R__law_place)) :
    Cal P w K mg base CX0 3 "_law_panel" ["script", "start", "places"] (spOf K R__law_panel) := by
  refine cal_ok F sc__law_panel (by rintro _ _ ⟨_, _, _, _, _, _, rfl, _⟩; rfl) fun f cdv A outer s H E hr => ⟨_,
    (pss_cons (ps_ret (pe_lc (own := [("k", 3)]) (g := (gName 3)) (tt := tYes) (te := tCall (spOf K R__law_place) [] E0 (tCons (tCall (spOf K R__law_pick) [] E0 (tCons (tVar 0) (tCons (tOp (rI0 fun i j => .int (i + j)) (tVar 1) (tVar 3)) tNil))) tNil)) rfl sc__law_panel.nd (pi_range1 (by rfl) B.range (pa_cons (pv 2) pa_nil)) (blkOk_by (N := ["script", "start", "places", "k"]) (sc := defScope s__law_panel) (by decide +kernel)) (fun _ _ _ _ _ => (pg_name (i := 3) sc__law_panel.nd rfl (.inl rfl))) (fun _ _ _ _ _ => pts_nil) (fun _ _ _ _ _ => (pe_cal C__law_place hr rfl pass0 (pa_cons (pe_cal C__law_pick hr rfl pass0 (pa_cons (pv 0) (pa_cons (pe_op op_add (pv 1) (pv 3)) pa_nil))) pa_nil)))))
    pss_nil), ?_⟩
  rintro _ _ ⟨ns, start, n, h0, h1, h2, rfl, rfl⟩ D hD
  refine q_ret (evn_lcA (m := .f) (fun k : Nat => dPl (placeM (pickM ns (start + (k : Int))))) (fun k => [.rd (dIs ns), .rd (.int start), .rd (.int n), .fr (.int (k : Int))]) (ei_range1 (ev_rd rfl) ⟨by omega, by omega⟩) (fun x hx => tgw_name) (fun x hx => (ev_call (ea_cons (ev_call (ea_cons (ev_rd rfl) (ea_cons (ev_add (ev_rd rfl) (ev_fr rfl)) ea_nil)) ⟨_, _, by omega, rfl, rfl⟩) ea_nil) ⟨_, rfl, rfl⟩)) (by rw [List.length_range]; omega)).f hD ?_
  unfold panelM
  rw [dPan, List.map_map]
  rfl

/-! _law_rows_like -/
theorem sc__law_rows_like : FnScope ["found", "due", "one", "own", "mark"] ["found", "due"] (defScope s__law_rows_like) := ⟨rfl, rfl, rfl, by decide +kernel, rfl, by decide +kernel, by decide +kernel⟩
def R__law_rows_like (ds : List PyData) (d : PyData) : Prop := ∃ ms : List (List Mk), ms.length ≤ 1000 ∧ (∀ l ∈ ms, l.length ≤ 1000) ∧ ds = [dPan ms, dPan ms] ∧ d = .bool true
theorem ok__law_rows_like (F : DefAt K mg "_law_rows_like" s__law_rows_like ["found", "due"]) (B : Blt mg) : Cal P w K mg base CX0 1 "_law_rows_like" ["found", "due"] (spOf K R__law_rows_like) := by
  refine cal_ok F sc__law_rows_like (by rintro _ _ ⟨_, _, _, rfl, _⟩; rfl) fun f cdv A outer s H E hr => ⟨_,
    (pss_cons (ps_if (PW.pt (pw_or (pt_not (pt_val (pe_callB (call_isiK' K) (by rfl) B.isinstance boot_isinstance (pa_cons (pv 0) (pa_cons (pe_bltn (v := .ty "list") (by rfl) B.list boot_list rfl) pa_nil))))) (pw_or1 (pt_cmpR op_ne (pe_callB (call_lenK K) (by rfl) B.len boot_len (pa_cons (pv 0) pa_nil)) (pe_callB (call_lenK K) (by rfl) B.len boot_len (pa_cons (pv 1) pa_nil)) (nomark _)))))
        (pss_cons (ps_ret pe_bl)
        pss_nil)
        pss_nil)
    (pss_cons (ps_for PassesOwn.never rfl (pi_zipK K (by rfl) B.zip (pa_cons (pv 0) (pa_cons (pv 1) pa_nil))) (pg_pairK K rfl (pg_name (i := 2) sc__law_rows_like.nd rfl (.inl rfl)) (pg_name (i := 3) sc__law_rows_like.nd rfl (.inl rfl)))
        (pss_cons (ps_if (PW.pt (pw_or (pt_not (pt_val (pe_callB (call_isiK' K) (by rfl) B.isinstance boot_isinstance (pa_cons (pv 2) (pa_cons (pe_bltn (v := .ty "list") (by rfl) B.list boot_list rfl) pa_nil))))) (pw_or (pt_cmpR (op_neK K hr) (pv 2) (pv 3) (nomark _)) (pw_or1 (pt_not (pt_val (pe_callB (cr_allK K rfl) (by rfl) B.all boot_all (pa_cons (pe_lc (own := [("mark", 4)]) (g := (gName 4)) (tt := tYes) rfl sc__law_rows_like.nd (pi_listK K (pv 2)) (blkOk_by (N := ["found", "due", "one", "own", "mark"]) (sc := defScope s__law_rows_like) (by decide +kernel)) (fun _ _ _ _ _ => (pg_name (i := 4) sc__law_rows_like.nd rfl (.inl rfl))) (fun _ _ _ _ _ => pts_nil) (fun _ _ _ _ _ => (pe_callB (call_isiK' K) (by rfl) B.isinstance boot_isinstance (pa_cons (pv 4) (pa_cons (pe_bltn (v := .ty "str") (by rfl) B.str boot_str rfl) pa_nil))))) pa_nil))))))))
            (pss_cons (ps_ret pe_bl)
            pss_nil)
            pss_nil)
        pss_nil))
    (pss_cons (ps_ret pe_bl)
    pss_nil))), ?_⟩
  rintro _ _ ⟨ms, hz, hzl, rfl, rfl⟩ D hD
  refine q_when (et_or (et_not (et_B (ev_isi (b := true) "list" (ev_rd (d := dPan ms) rfl) rfl (by decide +kernel)))) fun h => (et_test (ev_neI (ev_len (ev_rd rfl)) (ev_len (ev_rd rfl))))) (fun h => ?_) (fun h => ?_)
  · simp at h
  refine q_for (m := .g) (l := ms.zip ms) (en := fun x => .tuple [dPl x.1, dPl x.2]) (fun _ => [.rd (dPan ms), .rd (dPan ms), .no, .no, .no]) (fun _ => True) (fun _ z => [.rd (dPan ms), .rd (dPan ms), .rd (dPl z.1), .rd (dPl z.2), .no]) (ei_zip (ev_rd rfl) (ev_rd rfl)) ?_ trivial (fun pre x post he => tg_pair) (fun Φ pre z post he _ => ?_) (fun _ => ?_)
  · exact .eq rfl (.eq rfl (.no (.no (.no .nil))))
  · have hm : z ∈ ms.zip ms := by rw [he]; simp
    have hzz : z.1 = z.2 ∧ z.1 ∈ ms := zip_same hm
    have hl1 := hzl z.1 hzz.2
    refine q_when (et_or (et_not (et_B (ev_isi (b := true) "list" (ev_rd (d := dPl z.1) rfl) rfl (by decide +kernel)))) fun h => (et_or (et_test (ev_neD (ev_rd (d := dPl z.1) rfl) (ev_rd (d := dPl z.2) rfl) lay_pl.sh lay_pl.sh)) fun h => (et_not (et_B (ev_all (bs := z.1.map fun _ => true) ((evn_lcA (m := .g) (l := z.1) (en := dMk) (fun _ => .bool true) _ (ei_listG (ev_rd rfl)) (fun x hx => tgw_name) (fun x hx => (ev_isi (b := true) "str" (ev_rd (d := dMk x) rfl) rfl (by decide +kernel))) (by omega)).f.to (by rw [List.map_map]; rfl))))))) (fun h => ?_) (fun h => ?_)
    · rw [hzz.1, lay_pl.rf] at h
      simp at h
    · exact q_end trivial (.eq rfl (.eq rfl (.no (.no (.no .nil)))))
  · exact q_ret ev_bl hD

/-! _law_refused -/
theorem sc__law_refused : FnScope ["marks", "which", "k"] ["marks", "which"] (defScope s__law_refused) := ⟨rfl, rfl, rfl, by decide +kernel, rfl, by decide +kernel, by decide +kernel⟩
def Xc.n : Xc → Nat
  | .fig => 0
  | .num => 1
  | .clash => 2
  | .note => 3
def refM (c : Xc) : List Bool := ((List.range 4).map fun k => decide (k = c.n)) ++ [true]
def R__law_refused (ds : List PyData) (d : PyData) : Prop := ∃ c : Xc, ds = [dBs (refM c), .int (c.n : Int)] ∧ d = .bool true
theorem ok__law_refused (F : DefAt K mg "_law_refused" s__law_refused ["marks", "which"]) (B : Blt mg) : Cal P w K mg base CX0 1 "_law_refused" ["marks", "which"] (spOf K R__law_refused) := by
  refine cal_ok F sc__law_refused (by rintro _ _ ⟨_, rfl, _⟩; rfl) fun f cdv A outer s H E hr => ⟨_,
    (pss_cons (ps_ret (pe_cmpR (op_eqK K hr) (pv 0) (pe_op op_cat (pe_lc (own := [("k", 2)]) (g := (gName 2)) (tt := tYes) (te := tOp rEq (tVar 2) (tVar 1)) rfl sc__law_refused.nd (pi_range1 (by rfl) B.range (pa_cons pe_int pa_nil)) (blkOk_by (N := ["marks", "which", "k"]) (sc := defScope s__law_refused) (by decide +kernel)) (fun _ _ _ _ _ => (pg_name (i := 2) sc__law_refused.nd rfl (.inl rfl))) (fun _ _ _ _ _ => pts_nil) (fun _ _ _ _ _ => (pe_cmpR op_eq (pv 2) (pv 1) (nomark _)))) (pe_lst (pa_cons pe_bl pa_nil))) (nomark _)))
    pss_nil), ?_⟩
  rintro _ _ ⟨c, rfl, rfl⟩ D hD
  refine q_ret (ev_eqD (ev_rd rfl) (evn_cat (evn_lcA (m := .f) (fun k : Nat => .bool (decide ((k : Int) = (c.n : Int)))) (fun k => [.rd (dBs (refM c)), .rd (.int (c.n : Int)), .fr (.int (k : Int))]) (ei_range1 ev_int (by decide)) (fun x hx => tgw_name) (fun x hx => (ev_eqI (ev_fr rfl) (ev_rd rfl)))).f (ev_lst (ea_cons ev_bl ea_nil)) (by rw [List.length_map]; decide)).f ?_ ?_) hD (congrArg PyData.bool ?_)
  · cases c <;> decide +kernel
  · cases c <;> decide +kernel
  · cases c <;> decide +kernel

/-! what a law's try tells of an own error -/
def Xc.nm : Xc → Str
  | .fig => "NoFigure"
  | .num => "NoNumber"
  | .clash => "Clash"
  | .note => "NoNote"
structure ErrAt (K : PySem.W.Frag) (mg : Str → Option Value) (cl : Xc → Addr) (CL : Addr) : Prop where
  gL : mg "LitError" = some (.ref CL)
  gV : mg "ValueError" = none
  g : ∀ c : Xc, mg c.nm = some (.ref (cl c))
  ex : ∀ c : Xc, PySem.W.exmOne K (.ref (cl c)) (.ref CL) = some true
  ec : ∀ c : Xc, ExcC K (cl c)
  kit : ∀ c c' : Xc, PySem.W.kitOne K (.ref (cl c)) (.ref (cl c')) = some (decide (c = c'))
  kv : ∀ c : Xc, PySem.W.kitOne K (.ref (cl c)) (.type "ValueError") = some true
theorem kit_no {C D : Addr} (hd : PySem.W.hasDictIn K D = true) (ht : PySem.W.typeIn K (.ref D) = some (.type "type")) (h4 : PySem.W.subIn K (.ref C) (.ref D) = some false) (h5 : PySem.W.subIn K (.ref C) (.ref C) = some true) : PySem.W.kitOne K (.ref C) (.ref D) = some false := by
  have ne : C ≠ D := fun e => by
    rw [e, ← e, h5] at h4
    cases h4
  have e1 : ((Value.ref C) == (Value.ref D)) = false := by simpa using ne
  unfold PySem.W.kitOne PySem.W.kitCls
  rw [e1, if_neg Bool.false_ne_true]
  obtain ⟨cd, hc, _⟩ := PySem.W.any_some hd
  have e2 : ((PySem.W.clsIn K D).isSome && PySem.W.typeIn K (.ref D) == some (.type "type")) = true := by
    rw [hc, ht]
    rfl
  show (if ((PySem.W.clsIn K D).isSome && PySem.W.typeIn K (.ref D) == some (.type "type")) = true then PySem.W.subIn K (.ref C) (.ref D) else none) = some false
  rw [if_pos e2]
  exact h4
theorem kit_val {C : Addr} (h : PySem.W.subIn K (.ref C) (.type "ValueError") = some true) : PySem.W.kitOne K (.ref C) (.type "ValueError") = some true := by
  have e1 : ((Value.ref C) == (Value.type "ValueError")) = false := rfl
  unfold PySem.W.kitOne PySem.W.kitCls
  rw [e1, if_neg Bool.false_ne_true]
  show (if PySem.W.kitMeta "ValueError" = true then PySem.W.subIn K (.ref C) (.type "ValueError") else none) = some true
  rw [if_pos (by decide +kernel)]
  exact h
def rIsX (K : PySem.W.Frag) (cls : Value) (d : Option Addr) (a : Addr) : List V → Hp → VK → Prop := fun xs H Q => ∃ D, cls = .ref D ∧ d = none ∧ ExcC K D ∧ rIsE K D a xs H Q
theorem call_isX {X : Cx} (K : PySem.W.Frag) {a : Addr} {cls : Value} {d : Option Addr} {oe : Obj} {pn : List (Addr × Obj)} (hz : Zc cls d oe) (hf : ∃ vs, oe.data = .fields vs) (h : X.K = K := by rfl) : CallR (X.suite a ((a, oe) :: pn)) (.builtin "isinstance") (rIsX K cls d a) := by
  subst h
  intro pins s σ H xs us Q I r hq
  obtain ⟨D, rfl, rfl, C, q⟩ := hq
  exact call_isE C hz hf pins s σ H xs us Q I r q
def tIsx (K : PySem.W.Frag) (cls : Value) (d : Option Addr) (a : Addr) (ie : Nat) (v : V) : TE := tCB (rIsX K cls d a) (tCons (tVar ie) (tCons (tC v) tNil))
def tSuite (K : PySem.W.Frag) (cl : Xc → Addr) (jm ie : Nat) (a : Addr) (cls : Value) (d : Option Addr) : TS :=
  tSeq (tAsg (tLst (tCons (tIsx K cls d a ie (.ref (cl .fig))) (tCons (tIsx K cls d a ie (.ref (cl .num))) (tCons (tIsx K cls d a ie (.ref (cl .clash))) (tCons (tIsx K cls d a ie (.ref (cl .note))) tNil))))) (gName jm))
    (tSeq (tDrop (tBM K "list" rAppend (tVar jm) (tCons (tIsx K cls d a ie (.ty "ValueError")) tNil))) tNext)
theorem isx_own {CL : Addr} (E : ErrAt K mg cl CL) {σ : L2.St} {H : Hp} {ie : Nat} {a : Addr} (he : σ[ie]? = some (some (.ref a))) (c c' : Xc) {Q : VK} (q : Q (.bl (decide (c = c'))) H) : tIsx K (.ref (cl c)) none a ie (.ref (cl c')) σ H Q :=
  ⟨_, he, cl c, rfl, rfl, E.ec c, .ref (cl c'), .ref (cl c'), _, rfl, fun u h => h, E.kit c c', q⟩
theorem isx_val {CL : Addr} (E : ErrAt K mg cl CL) {σ : L2.St} {H : Hp} {ie : Nat} {a : Addr} (he : σ[ie]? = some (some (.ref a))) (c : Xc) {Q : VK} (q : Q (.bl true) H) : tIsx K (.ref (cl c)) none a ie (.ty "ValueError") σ H Q :=
  ⟨_, he, cl c, rfl, rfl, E.ec c, .ty "ValueError", .type "ValueError", _, rfl, fun u h => h, E.kv c, q⟩
theorem suite_run {CL : Addr} (E : ErrAt K mg cl CL) {H0 H : Hp} {O : List Addr} {ss : List Sl} {σ : L2.St} {ie jm : Nat} {a : Addr} (c : Xc) {D : Ends} (s : StO K H0 O ss σ H) (he : σ[ie]? = some (some (.ref a))) (hne : ie ≠ jm) (hj : jm < ss.length)
    (k : ∀ (σ' : L2.St) (H' : Hp) (O' : List Addr), StO K H0 O' (ss.set jm (.ow ((refM c).map .bool))) σ' H' → Ex (hide O H) (hide O' H') → D.nx σ' H') : tSuite K cl jm ie a (.ref (cl c)) none D σ H := by
  refine isx_own E he c .fig (isx_own E he c .num (isx_own E he c .clash (isx_own E he c .note ⟨(by show 4 ≤ sizeLine; decide), fun p hp => ?_⟩)))
  have hd : DfAll H0 (hide (p :: O) (upd H p (.lst [.bl (decide (c = .fig)), .bl (decide (c = .num)), .bl (decide (c = .clash)), .bl (decide (c = .note))]))) [.bl (decide (c = .fig)), .bl (decide (c = .num)), .bl (decide (c = .clash)), .bl (decide (c = .note))]
      ([.bool (decide (c = .fig)), .bool (decide (c = .num)), .bool (decide (c = .clash)), .bool (decide (c = .note))] : List PyData) := .cons (.bl _) (.cons (.bl _) (.cons (.bl _) (.cons (.bl _) .nil)))
  have s2 := s.putOw (i := jm) (Evl.Ex.new hp) hp upd_same hd
  have hl : σ.length = ss.length := by
    obtain ⟨⟨O', h, _⟩, _, _⟩ := s
    exact h.length
  have h1 : (σ.set jm (some (.ref p)))[jm]? = some (some (.ref p)) := List.getElem?_set_self (by omega)
  have he2 : (σ.set jm (some (.ref p)))[ie]? = some (some (.ref a)) := by rw [List.getElem?_set_ne (Ne.symm hne)]; exact he
  have h3 : (ss.set jm (.ow ([.bool (decide (c = .fig)), .bool (decide (c = .num)), .bool (decide (c = .clash)), .bool (decide (c = .note))] : List PyData)))[jm]? = some (.ow [.bool (decide (c = .fig)), .bool (decide (c = .num)), .bool (decide (c = .clash)), .bool (decide (c = .note))]) := List.getElem?_set_self hj
  refine ⟨.ref p, h1, .inl ⟨rfl, _, SqL.of upd_same⟩, isx_val E he2 c ⟨p, _, .bl true, rfl, rfl, upd_same, (by show 4 < sizeLine; decide), ?_⟩⟩
  obtain ⟨s4, e4⟩ := s2.up (vs := []) (ws := [.bl (decide (c = .fig)), .bl (decide (c = .num)), .bl (decide (c = .clash)), .bl (decide (c = .note)), .bl true]) (es := (refM c).map .bool) h3 h1 (by
    cases c <;> exact .cons (.bl _) (.cons (.bl _) (.cons (.bl _) (.cons (.bl _) (.cons (.bl _) .nil)))))
  rw [List.set_set] at s4
  refine k _ _ (p :: O) s4 ?_
  have z : Ex (hide O H) (hide (p :: O) (upd H p (.lst [.bl (decide (c = .fig)), .bl (decide (c = .num)), .bl (decide (c = .clash)), .bl (decide (c = .note))]))) := hide_new (Evl.Ex.new hp) hp
  rw [← e4] at z
  exact z
/-- found = f(..) in a try of the law; then the rest, both ways -/
theorem q_told {CL : Addr} (E : ErrAt K mg cl CL) {H0 : Hp} {Φ : Fm} {ss : List Sl} {D : Ends} {u : TS} {R : List PyData → Except Xc PyData → Prop} {r : Except Xc PyData} {ds : List PyData} {tg : TA} {jf jm ie : Nat} (ha : EvA K H0 .r tg ss ds) (hR : R ds r)
    (hne : ie ≠ jm) (hj : jm < ss.length) (hie : ie < ss.length)
    (hok : ∀ d, r = .ok d → Wp K H0 Φ u (ss.set jf (.fr d)) D) (herr : ∀ c, r = .error c → Wp K H0 Φ u (((ss.set ie .no).set jm (.ow ((refM c).map .bool))).set ie .no) D) :
    Wp K H0 Φ (tSeq (fun D σ H => (fun W : WX => tSeq (tAsg (tCallS (spX K cl R) (WE W) tg) (gName jf)) tNext) (wAs K (.ref CL) ie (tSuite K cl jm ie) (fun _ _ _ _ => False) D) D σ H) u) ss D := fun σ H ⟨O, s, p⟩ => by
  show tg σ H _
  refine ha σ H O _ s fun vs H2 e ra => ⟨ds, r, ra, hR, ?_⟩
  cases r with
  | ok d => exact fun v H3 e3 hd => hok d rfl _ _ ⟨O, ((s.mono e).mono e3).put (m := .f) (Res.ofCall (m := .f) (s.mono e) e3 hd), Φ.mono (hide_mono (Evl.Ex.trans e e3)) p⟩
  | error c =>
    intro H3 e3
    have s3 := (s.mono e).mono e3
    refine ⟨true, E.ex c, fun _ a ha => ?_, fun q => Bool.noConfusion q⟩
    have hl : σ.length = ss.length := by
      obtain ⟨⟨O', h, _⟩, _, _⟩ := s
      exact h.length
    have s4 : StO K H0 O (ss.set ie .no) (σ.set ie (some (.ref a))) H3 := by
      obtain ⟨⟨O', h, k⟩, ex, tr⟩ := s3
      obtain ⟨O2, h2, k2⟩ := Slots.set (s := .no) (v := .ref a) (fun h => .no h) (i := ie) h
      exact ⟨⟨O2, h2, fun b hb => k _ (k2 _ hb)⟩, ex, tr⟩
    refine suite_run E c s4 (List.getElem?_set_self (by omega)) hne (by rw [List.length_set]; exact hj) fun σ' H' O' s' e' => ?_
    have s5 : StO K H0 O' (((ss.set ie .no).set jm (.ow ((refM c).map .bool))).set ie .no) (σ'.set ie none) H' := by
      obtain ⟨⟨O'', h, k⟩, ex, tr⟩ := s'
      obtain ⟨O2, h2, k2⟩ := h.clear (i := ie)
      exact ⟨⟨O2, h2, fun b hb => k _ (k2 _ hb)⟩, ex, tr⟩
    exact herr c rfl _ _ ⟨O', s5, Φ.mono (Evl.Ex.trans (hide_mono (Evl.Ex.trans e e3)) e') p⟩
/-- what a try of the law tells: what was found, or the error's marks -/
def toldD : Except Xc PyData → PyData
  | .ok d => .tuple [d, dBs []]
  | .error c => .tuple [.none, dBs (refM c)]
def R_told (R : List PyData → Except Xc PyData → Prop) (ds : List PyData) (d : PyData) : Prop := ∃ r, R ds r ∧ d = toldD r

/-! _law_told -/
theorem sc__law_told : FnScope ["text", "found", "marks", "e"] ["text"] (defScope s__law_told) := ⟨rfl, rfl, rfl, by decide +kernel, rfl, by decide +kernel, by decide +kernel⟩
theorem ok__law_told {CL : Addr} (F : DefAt K mg "_law_told" s__law_told ["text"]) (B : Blt mg) (Z : ErrAt K mg cl CL) (C_read : Cal P w K mg base (L2.CX P w) 2 "read" ["text"] (spX K cl R_read)) : Cal P w K mg base CX0 3 "_law_told" ["text"] (spOf K (R_told R_read)) := by
  refine cal_ok F sc__law_told (by rintro _ _ ⟨_, ⟨_, _, rfl, _⟩, _⟩; rfl) fun f cdv A outer s H E hr => ⟨_,
    (pss_cons (ps_set (i := 1) sc__law_told.nd rfl (.inl rfl) pe_non)
    (pss_cons (ps_set (i := 2) sc__law_told.nd rfl (.inl rfl) (pe_lst pa_nil))
    (pss_cons (ps_try_as (i := 3) (tb := fun W => tSeq (tAsg (tCallS (spX K cl R_read) (WE W) (tCons (tVar 0) tNil)) (gName 1)) tNext) (ts := tSuite K cl 2 3) (Wout := fun _ _ _ _ => False) rfl rfl sc__law_told.nd rfl rfl ⟨rfl, by decide, .inl Z.gL⟩ takes0
      (fun W pn xe tk _ => pss_cons (ps_set (i := 1) sc__law_told.nd rfl (.inl rfl) (pe_calS C_read hr rfl (fun σ => passAt tk σ) (pa_cons (pv 0) pa_nil))) pss_nil)
      (fun a oe cls d pn hz hf => pss_cons (ps_set (i := 2) sc__law_told.nd rfl (.inl rfl) (pe_lst
          (pa_cons (pe_callB (call_isX K hz hf) (by rfl) B.isinstance boot_isinstance (pa_cons (pv 3) (pa_cons (pe_glob (v := .ref (cl .fig)) (by rfl) (Z.g .fig) rfl) pa_nil)))
          (pa_cons (pe_callB (call_isX K hz hf) (by rfl) B.isinstance boot_isinstance (pa_cons (pv 3) (pa_cons (pe_glob (v := .ref (cl .num)) (by rfl) (Z.g .num) rfl) pa_nil)))
          (pa_cons (pe_callB (call_isX K hz hf) (by rfl) B.isinstance boot_isinstance (pa_cons (pv 3) (pa_cons (pe_glob (v := .ref (cl .clash)) (by rfl) (Z.g .clash) rfl) pa_nil)))
          (pa_cons (pe_callB (call_isX K hz hf) (by rfl) B.isinstance boot_isinstance (pa_cons (pv 3) (pa_cons (pe_glob (v := .ref (cl .note)) (by rfl) (Z.g .note) rfl) pa_nil))) pa_nil))))))
        (pss_cons (ps_expr (pe_bm PySem.F.plainAttrs_list PySem.F.slot_list_append PySem.F.type_list_append mt_append (pv 2) (pa_cons (pe_callB (call_isX K hz hf) (by rfl) B.isinstance boot_isinstance (pa_cons (pv 3) (pa_cons (pe_bltn (v := .ty "ValueError") (by rfl) Z.gV (by decide +kernel : bootBuiltins "ValueError" = some (.type "ValueError")) rfl) pa_nil))) pa_nil))) pss_nil)))
    (pss_cons (ps_ret (pe_tup (pa_cons (pv 1) (pa_cons (pv 2) pa_nil))))
    pss_nil)))), ?_⟩
  rintro _ _ ⟨r, ⟨z, hz, rfl, h⟩, rfl⟩ D hD
  refine q_asg (m := .f) ev_non ?_
  refine q_own (evn_lst ea_nil) ?_
  refine q_told Z (ea_cons (ev_rd rfl) ea_nil) ⟨z, hz, rfl, h⟩ (by decide) (Nat.le_of_ble_eq_true rfl) (Nat.le_of_ble_eq_true rfl) (fun d e => ?_) (fun c e => ?_)
  · subst e
    refine q_weak (ss' := [.rd (.str z), .fr d, .fr (dBs []), .no]) (.eq rfl (.eq rfl (.sh rfl (.eq rfl .nil)))) ?_
    exact q_ret (ev_tup (ea_cons (ev_fr rfl) (ea_cons (ev_fr rfl) ea_nil))) hD
  · subst e
    refine q_weak (ss' := [.rd (.str z), .fr .none, .fr (dBs (refM c)), .no]) (.eq rfl (.eq rfl (.sh rfl (.eq rfl .nil)))) ?_
    exact q_ret (ev_tup (ea_cons (ev_fr rfl) (ea_cons (ev_fr rfl) ea_nil))) hD

/-! law -/
theorem sc_law : FnScope ["script", "text", "way", "at", "put", "some", "due", "told"] ["script"] (defScope s_law) := ⟨rfl, rfl, rfl, by decide +kernel, rfl, by decide +kernel, by decide +kernel⟩
def R_law (ds : List PyData) (d : PyData) : Prop := ∃ ns : List Int, ns.length ≤ 63 ∧ ds = [dIs ns] ∧ d = .bool true
theorem q_ifk3 {α : Type} {H0 : Hp} {Φ : Fm} {ss : List Sl} {D : Ends} {u tu tw : TS} {c : TT} {b : Bool} (Iv : α → List Sl) (Pr : α → Prop) (h : EvT K H0 c ss b) (k : ∀ y, Pr y → Wp K H0 Φ u (Iv y) D) (h1 : b = true → (∀ y, Pr y → Wp K H0 Φ u (Iv y) D) → Wp K H0 Φ tu ss { D with nx := u D }) (h2 : b = false → (∀ y, Pr y → Wp K H0 Φ u (Iv y) D) → Wp K H0 Φ tw ss { D with nx := u D }) :
    Wp K H0 Φ (tSeq (tIfS c tu tw) u) ss D := q_if h (fun hb => h1 hb k) fun hb => h2 hb k
def putsT : Str := ".-+ ,0g_*:"
def someT : List Str := ["", " ", ".......", "...... .", "....... ", " .......", "--------", ".-+.-+.  .-+.-+."]
theorem some_len : ∀ w ∈ someT, w.length ≤ 50 := by decide +kernel
theorem dueT_isn {K : PySem.W.Frag} {H : Hp} {v : V} {z : Str} (h : Dp K H v (dueT z)) (hv : ValidT z) : decide (v = .non) = false := by
  rw [due_yes hv] at h
  cases h
  rfl
theorem dueT_isn' {K : PySem.W.Frag} {H : Hp} {v : V} {z : Str} (h : Dp K H v (dueT z)) (hv : ¬ ValidT z) : decide (v = .non) = true := by
  rw [due_no hv] at h
  cases h
  rfl
theorem ok_law {fl : Addr} {fdl : FuncData} (F : Fun K "law" "law" s_law fl fdl) (B : Blt mg) (C__law_cell_at : Cal P w K mg base CX0 1 "_law_cell_at" ["script", "k"] (spOf K R__law_cell_at)) (C__law_panel : Cal P w K mg base CX0 3 "_law_panel" ["script", "start", "places"] (spOf K R__law_panel)) (C__law_text : Cal P w K mg base CX0 1 "_law_text" ["panel"] (spOf K R__law_text)) (C__law_rows_like : Cal P w K mg base CX0 1 "_law_rows_like" ["found", "due"] (spOf K R__law_rows_like)) (C__law_refused : Cal P w K mg base CX0 1 "_law_refused" ["marks", "which"] (spOf K R__law_refused)) (C__law_told : Cal P w K mg base CX0 3 "_law_told" ["text"] (spOf K (R_told R_read))) (C__law_due : Cal P w K mg base CX0 1 "_law_due" ["text"] (spOf K R__law_due)) : FnOk P w K mg base CX0 4 fl fdl ["script"] (spOf K R_law) := by
  refine fn_okE F sc_law (by rintro _ _ ⟨_, _, rfl, _⟩; rfl) fun f cdv A outer s H E hr => ⟨_,
    (pss_cons (ps_set (i := 1) sc_law.nd rfl (.inl rfl) (pe_cal C__law_text (hr.mono (by decide)) rfl pass0 (pa_cons (pe_cal C__law_panel (hr.mono (by decide)) rfl pass0 (pa_cons (pv 0) (pa_cons pe_int (pa_cons (pe_op op_add pe_int (pe_op op_mod (pe_cal C__law_cell_at (hr.mono (by decide)) rfl pass0 (pa_cons (pv 0) (pa_cons pe_int pa_nil))) pe_int)) pa_nil)))) pa_nil)))
    (pss_cons (ps_set (i := 2) sc_law.nd rfl (.inl rfl) (pe_op op_mod (pe_cal C__law_cell_at (hr.mono (by decide)) rfl pass0 (pa_cons (pv 0) (pa_cons pe_int pa_nil))) pe_int))
    (pss_cons (ps_set (i := 3) sc_law.nd rfl (.inl rfl) (pe_op op_mod (pe_cal C__law_cell_at (hr.mono (by decide)) rfl pass0 (pa_cons (pv 0) (pa_cons pe_int pa_nil))) (pe_op op_add (pe_callB call_len_str (by rfl) B.len boot_len (pa_cons (pv 1) pa_nil)) pe_int)))
    (pss_cons (ps_set (i := 4) sc_law.nd rfl (.inl rfl) (pe_ixS pe_str (pe_op op_mod (pe_cal C__law_cell_at (hr.mono (by decide)) rfl pass0 (pa_cons (pv 0) (pa_cons pe_int pa_nil))) pe_int)))
    (pss_cons (ps_if (pt_cmpR op_lt (pv 2) pe_int (nomark _))
        (pss_cons (ps_set (i := 1) sc_law.nd rfl (.inl rfl) (pe_op op_add_str (pe_op op_add_str (pe_slS (pv 1) po_none (po_some (pv 3))) (pv 4)) (pe_slS (pv 1) (po_some (pv 3)) po_none)))
        pss_nil)
        (pss_cons (ps_if (pt_cmpR op_lt (pv 2) pe_int (nomark _))
            (pss_cons (ps_set (i := 1) sc_law.nd rfl (.inl rfl) (pe_op op_add_str (pe_op op_add_str (pe_slS (pv 1) po_none (po_some (pv 3))) (pv 4)) (pe_slS (pv 1) (po_some (pe_op op_add (pv 3) pe_int)) po_none)))
            pss_nil)
            (pss_cons (ps_if (pt_cmpR op_lt (pv 2) pe_int (nomark _))
                (pss_cons (ps_set (i := 1) sc_law.nd rfl (.inl rfl) (pe_op op_add_str (pe_slS (pv 1) po_none (po_some (pv 3))) (pe_slS (pv 1) (po_some (pe_op op_add (pv 3) pe_int)) po_none)))
                pss_nil)
                (pss_cons (ps_if (pt_cmpR op_eq (pv 2) pe_int (nomark _))
                    (pss_cons (ps_set (i := 5) sc_law.nd rfl (.inl rfl) (pe_lst (pa_cons pe_str (pa_cons pe_str (pa_cons pe_str (pa_cons pe_str (pa_cons pe_str (pa_cons pe_str (pa_cons pe_str (pa_cons pe_str pa_nil))))))))))
                    (pss_cons (ps_set (i := 1) sc_law.nd rfl (.inl rfl) (pe_ixL K (pv 5) (pe_op op_mod (pe_cal C__law_cell_at (hr.mono (by decide)) rfl pass0 (pa_cons (pv 0) (pa_cons pe_int pa_nil))) pe_int)))
                    pss_nil))
                    pss_nil)
                pss_nil))
            pss_nil))
        pss_nil))
    (pss_cons (ps_set (i := 6) sc_law.nd rfl (.inl rfl) (pe_cal C__law_due (hr.mono (by decide)) rfl pass0 (pa_cons (pv 1) pa_nil)))
    (pss_cons (ps_set (i := 7) sc_law.nd rfl (.inl rfl) (pe_cal C__law_told (hr.mono (by decide)) rfl pass0 (pa_cons (pv 1) pa_nil)))
    (pss_cons (ps_if (pt_cmp (pc_isN (pv 6)))
        (pss_cons (ps_ret (pe_cal C__law_refused (hr.mono (by decide)) rfl pass0 (pa_cons (pe_ixT K (pv 7) pe_int) (pa_cons pe_int pa_nil))))
        pss_nil)
        pss_nil)
    (pss_cons (ps_ret (pe_and (pe_cmpR (op_eqK K hr) (pe_ixT K (pv 7) pe_int) (pe_lst pa_nil) (nomark _)) (pe_one (pe_cal C__law_rows_like (hr.mono (by decide)) rfl pass0 (pa_cons (pe_ixT K (pv 7) pe_int) (pa_cons (pv 6) pa_nil))))))
    pss_nil))))))))), ?_⟩
  rintro _ _ ⟨ns, hns, rfl, rfl⟩ D hD
  have hm5 := mod_nn (x := cellM ns 0) (n := 5) (by decide)
  obtain ⟨n, hn⟩ : ∃ n : Nat, 1 + cellM ns 0 % 5 = (n : Int) := ⟨(1 + cellM ns 0 % 5).toNat, by omega⟩
  have hn5 : n ≤ 5 := by omega
  refine q_asg (m := .f) (ev_call (ea_cons (ev_call (d := dPan (panelM ns 4 n)) (ea_cons (ev_rd rfl) (ea_cons ev_int (ea_cons ((ev_add ev_int (ev_mod (ev_call (ea_cons (ev_rd rfl) (ea_cons ev_int ea_nil)) ⟨ns, 0, by decide, rfl, rfl⟩) ev_int)).to (congrArg PyData.int hn)) ea_nil))) ⟨ns, 4, n, by decide, by omega, by omega, rfl, rfl⟩) ea_nil) ⟨_, fun p h => panel_mem h, by rw [panel_len]; omega, rfl, rfl⟩) ?_
  have hl0 := text_len (pn := panelM ns 4 n) fun p h => panel_mem h
  rw [panel_len] at hl0
  generalize textM (panelM ns 4 n) = z0 at hl0
  have hl0 : z0.length ≤ 40 := by omega
  refine q_asg (m := .f) (ev_mod (ev_call (ea_cons (ev_rd rfl) (ea_cons ev_int ea_nil)) ⟨ns, 1, by decide, rfl, rfl⟩) ev_int) ?_
  refine q_asg (m := .f) (ev_mod (ev_call (ea_cons (ev_rd rfl) (ea_cons ev_int ea_nil)) ⟨ns, 2, by decide, rfl, rfl⟩) (ev_add (ev_lenS (ev_fr rfl) (Nat.le_trans hl0 (by decide))) ev_int) (by omega)) ?_
  have hp10 := mod_ix (x := cellM ns 3) (n := 10) (by decide)
  have hput : putsT.cps.toList.length = 10 := by decide +kernel
  refine q_asg (m := .f) (ev_ixS (z := putsT) (c := putsT.cps.toList.getD (cellM ns 3 % 10).toNat 0) (cellM ns 3 % 10).toNat ev_str (ev_mod (ev_call (ea_cons (ev_rd rfl) (ea_cons ev_int ea_nil)) ⟨ns, 3, by decide, rfl, rfl⟩) ev_int) (by decide +kernel) (by rw [hput]; exact hp10.1) (getElem?_getD' 0 (by rw [hput]; exact hp10.2))) ?_
  generalize putsT.cps.toList.getD (cellM ns 3 % 10).toNat 0 = c0
  generalize cellM ns 1 % 10 = way
  generalize cellM ns 2 % ((z0.length : Int) + 1) = at_
  have sz : ∀ x : Str, x.length ≤ 200 → x.length ≤ sizeLine := fun x h => Nat.le_trans h (by decide)
  have c1 : (⟨#[c0]⟩ : Str).length = 1 := rfl
  have hcut : ∀ lo hi, (cutS z0 lo hi).length ≤ 40 := fun lo hi => Nat.le_trans (cut_len z0 lo hi) hl0
  have big : ∀ n : Nat, n ≤ 200 → n ≤ sizeLine := fun n h => Nat.le_trans h (by decide)
  have cl : ∀ x y : Str, (x ++ y).length = x.length + y.length := cat_len
  refine q_ifk3 (α := Str) (fun z => [.rd (dIs ns), .fr (.str z), .no, .no, .no, .no, .no, .no]) (fun z => z.length ≤ 200) (et_test (ev_lt (ev_fr rfl) ev_int)) (fun z hz => ?_) (fun h k => ?_) (fun h k => ?_)
  case refine_2 =>
    refine q_asg (m := .f) (ev_cat_str (ev_cat_str (ev_slTx (ev_fr rfl) eo_none (eo_some (ev_fr rfl)) (big _ (by omega))) (ev_fr rfl) ?_) (ev_slTx (ev_fr rfl) (eo_some (ev_fr rfl)) eo_none (big _ (by omega))) ?_) ?_
    · exact big _ (by have := hcut none (some at_); omega)
    · exact big _ (by have := hcut none (some at_); have := hcut (some at_) none; rw [cl]; omega)
    refine q_nx (q_weak (.eq rfl (.eq rfl (.no (.no (.no (.no (.no (.no .nil)))))))) (k _ ?_))
    have := hcut none (some at_); have := hcut (some at_) none; rw [cl, cl]; omega
  case refine_3 =>
    refine q_if (et_test (ev_lt (ev_fr rfl) ev_int)) (fun h => ?_) (fun h => ?_)
    · refine q_asg (m := .f) (ev_cat_str (ev_cat_str (ev_slTx (ev_fr rfl) eo_none (eo_some (ev_fr rfl)) (big _ (by omega))) (ev_fr rfl) ?_) (ev_slTx (ev_fr rfl) (eo_some (ev_add (ev_fr rfl) ev_int)) eo_none (big _ (by omega))) ?_) ?_
      · exact big _ (by have := hcut none (some at_); omega)
      · exact big _ (by have := hcut none (some at_); have := hcut (some (at_ + 1)) none; rw [cl]; omega)
      refine q_nx (q_nx (q_weak (.eq rfl (.eq rfl (.no (.no (.no (.no (.no (.no .nil)))))))) (k _ ?_)))
      have := hcut none (some at_); have := hcut (some (at_ + 1)) none; rw [cl, cl]; omega
    refine q_if (et_test (ev_lt (ev_fr rfl) ev_int)) (fun h => ?_) (fun h => ?_)
    · refine q_asg (m := .f) (ev_cat_str (ev_slTx (ev_fr rfl) eo_none (eo_some (ev_fr rfl)) (big _ (by omega))) (ev_slTx (ev_fr rfl) (eo_some (ev_add (ev_fr rfl) ev_int)) eo_none (big _ (by omega))) ?_) ?_
      · exact big _ (by have := hcut none (some at_); have := hcut (some (at_ + 1)) none; omega)
      refine q_nx (q_nx (q_nx (q_weak (.eq rfl (.eq rfl (.no (.no (.no (.no (.no (.no .nil)))))))) (k _ ?_))))
      have := hcut none (some at_); have := hcut (some (at_ + 1)) none; rw [cl]; omega
    refine q_when (et_test (ev_eqI (ev_fr rfl) ev_int)) (fun h => ?_) (fun h => ?_)
    · have hi8 := mod_ix (x := cellM ns 3) (n := 8) (by decide)
      refine q_asg (m := .f) ((ev_lst (ea_cons ev_str (ea_cons ev_str (ea_cons ev_str (ea_cons ev_str (ea_cons ev_str (ea_cons ev_str (ea_cons ev_str (ea_cons ev_str ea_nil))))))))).to (d' := .list (someT.map .str)) rfl) ?_
      refine q_asg (m := .f) (ev_ixL (cellM ns 3 % 8).toNat (ev_fr rfl) (ev_mod (ev_call (ea_cons (ev_rd rfl) (ea_cons ev_int ea_nil)) ⟨ns, 3, by decide, rfl, rfl⟩) ev_int) hi8.1 (map_get (getElem?_getD' (l := someT) "" hi8.2))) ?_
      refine q_nx (q_weak (.eq rfl (.eq rfl (.no (.no (.no (.no (.no (.no .nil)))))))) (k (someT.getD (cellM ns 3 % 8).toNat "") ?_))
      exact Nat.le_trans (some_len _ (List.mem_of_getElem? (getElem?_getD' (l := someT) "" hi8.2))) (by decide)
    · have := k z0 (by omega)
      exact q_nx (q_nx (q_nx (q_weak (.eq rfl (.eq rfl (.no (.no (.no (.no (.no (.no .nil)))))))) this)))
  have hz' : z.length ≤ 1000 := by omega
  have hb := words_bd z
  refine q_asg (m := .f) (ev_call (ea_cons (ev_fr rfl) ea_nil) ⟨z, hz', rfl, rfl⟩) ?_
  by_cases hv : ValidT z
  · refine q_asg (m := .f) (ev_call (d := toldD (.ok (dPan (panelT z)))) (ea_cons (ev_fr rfl) ea_nil) ⟨_, ⟨z, hz', rfl, .inl ⟨hv, rfl⟩⟩, rfl⟩) ?_
    refine q_when (et_B (ev_isN (ev_fr rfl) false (fun _ _ h => dueT_isn h hv))) (fun h => Bool.noConfusion h) (fun h => ?_)
    rw [due_yes hv]
    have h1 : (panelT z).length ≤ 1000 := by
      unfold panelT
      rw [List.length_map]
      omega
    have h2 : ∀ l ∈ panelT z, l.length ≤ 1000 := fun l hl => by
      obtain ⟨w, hw, rfl⟩ := List.mem_map.mp hl
      have := hb.2 w hw
      unfold marksW
      rw [List.length_map, ← TL.len_tl]
      omega
    exact q_ret (ev_andV (a := true) (b := true) (ev_eqD (ev_ixTr (ds := [dPan (panelT z), dBs []]) 1 (ev_fr rfl) ev_int rfl rfl) (ev_lst ea_nil) lay_bs.sh (lay_bs (l := [])).sh) (fun h => (ev_call (ea_cons (ev_ixTr (ds := [dPan (panelT z), dBs []]) 0 (ev_fr rfl) ev_int rfl rfl) (ea_cons (ev_fr rfl) ea_nil)) ⟨panelT z, h1, h2, rfl, rfl⟩))) hD
  · refine q_asg (m := .f) (ev_call (d := toldD (.error .note)) (ea_cons (ev_fr rfl) ea_nil) ⟨_, ⟨z, hz', rfl, .inr ⟨hv, rfl⟩⟩, rfl⟩) ?_
    refine q_when (et_B (ev_isN (ev_fr rfl) true (fun _ _ h => dueT_isn' h hv))) (fun h => ?_) (fun h => Bool.noConfusion h)
    exact q_ret (ev_call (ea_cons (ev_ixTr (ds := [.none, dBs (refM .note)]) 1 (ev_fr rfl) ev_int rfl rfl) (ea_cons ev_int ea_nil)) ⟨.note, rfl, rfl⟩) hD

end
theorem all_mk {l : PySem.W.OpenLaw} {w : World} {K : PySem.W.Frag} {h : Heap} {mg : Str → Option Value} {fa : Addr} (X : K.In h) (G : h.Ns mainGlobals mg) (hfa : mg "law" = some (.ref fa))
    {f0 : Addr} {od0 an0 : Option Addr} {sl0 : Array (Option Value)} {oc0 kV0 dc0 pm0 cd0 ct0 : Value}
    {f1 : Addr} {od1 an1 : Option Addr} {sl1 : Array (Option Value)} {oc1 kV1 dc1 pm1 cd1 ct1 : Value}
    {f2 : Addr} {od2 an2 : Option Addr} {sl2 : Array (Option Value)} {oc2 kV2 dc2 pm2 cd2 ct2 : Value}
    {f3 : Addr} {od3 an3 : Option Addr} {sl3 : Array (Option Value)} {oc3 kV3 dc3 pm3 cd3 ct3 : Value}
    {f4 : Addr} {od4 an4 : Option Addr} {sl4 : Array (Option Value)} {oc4 kV4 dc4 pm4 cd4 ct4 : Value}
    {f5 : Addr} {od5 an5 : Option Addr} {sl5 : Array (Option Value)} {oc5 kV5 dc5 pm5 cd5 ct5 : Value}
    {f6 : Addr} {od6 an6 : Option Addr} {sl6 : Array (Option Value)} {oc6 kV6 dc6 pm6 cd6 ct6 : Value}
    {f7 : Addr} {od7 an7 : Option Addr} {sl7 : Array (Option Value)} {oc7 kV7 dc7 pm7 cd7 ct7 : Value}
    {f8 : Addr} {od8 an8 : Option Addr} {sl8 : Array (Option Value)} {oc8 kV8 dc8 pm8 cd8 ct8 : Value}
    {f9 : Addr} {od9 an9 : Option Addr} {sl9 : Array (Option Value)} {oc9 kV9 dc9 pm9 cd9 ct9 : Value}
    {f10 : Addr} {od10 an10 : Option Addr} {sl10 : Array (Option Value)} {oc10 kV10 dc10 pm10 cd10 ct10 : Value}
    {f11 : Addr} {od11 an11 : Option Addr} {sl11 : Array (Option Value)} {oc11 kV11 dc11 pm11 cd11 ct11 : Value}
    {f12 : Addr} {od12 an12 : Option Addr} {sl12 : Array (Option Value)} {oc12 kV12 dc12 pm12 cd12 ct12 : Value}
    {aS : Addr} {nS : Nat} {hS0 hS1 hS2 : Int} {tS0 tS1 tS2 uS0 uS1 uS2 : Tok}
    {C_fig : Addr}
    {C_num : Addr}
    {C_clash : Addr}
    {C_note : Addr}
    {CL : Addr}
    (a0 : PySem.W.nsIn K mainGlobals "place_of" = some (some (.ref f0)))
    (l0 : K.lookup f0 = some ⟨oc0, od0, .func (PySem.W.fnOf "place_of" "place_of" (defArgs s_place_of) (defBody s_place_of) (defScope s_place_of) .none kV0 dc0 pm0 an0 cd0 ct0), sl0⟩)
    (c0 : PySem.W.codeIn K cd0 "place_of" = true)
    (k0 : PySem.W.keepIn K (.ref f0) = true)
    (a1 : PySem.W.nsIn K mainGlobals "read" = some (some (.ref f1)))
    (l1 : K.lookup f1 = some ⟨oc1, od1, .func (PySem.W.fnOf "read" "read" (defArgs s_read) (defBody s_read) (defScope s_read) .none kV1 dc1 pm1 an1 cd1 ct1), sl1⟩)
    (c1 : PySem.W.codeIn K cd1 "read" = true)
    (k1 : PySem.W.keepIn K (.ref f1) = true)
    (a2 : PySem.W.nsIn K mainGlobals "_law_cell_at" = some (some (.ref f2)))
    (l2 : K.lookup f2 = some ⟨oc2, od2, .func (PySem.W.fnOf "_law_cell_at" "_law_cell_at" (defArgs s__law_cell_at) (defBody s__law_cell_at) (defScope s__law_cell_at) .none kV2 dc2 pm2 an2 cd2 ct2), sl2⟩)
    (c2 : PySem.W.codeIn K cd2 "_law_cell_at" = true)
    (k2 : PySem.W.keepIn K (.ref f2) = true)
    (a3 : PySem.W.nsIn K mainGlobals "_law_pick" = some (some (.ref f3)))
    (l3 : K.lookup f3 = some ⟨oc3, od3, .func (PySem.W.fnOf "_law_pick" "_law_pick" (defArgs s__law_pick) (defBody s__law_pick) (defScope s__law_pick) .none kV3 dc3 pm3 an3 cd3 ct3), sl3⟩)
    (c3 : PySem.W.codeIn K cd3 "_law_pick" = true)
    (k3 : PySem.W.keepIn K (.ref f3) = true)
    (a4 : PySem.W.nsIn K mainGlobals "_law_mix" = some (some (.ref f4)))
    (l4 : K.lookup f4 = some ⟨oc4, od4, .func (PySem.W.fnOf "_law_mix" "_law_mix" (defArgs s__law_mix) (defBody s__law_mix) (defScope s__law_mix) .none kV4 dc4 pm4 an4 cd4 ct4), sl4⟩)
    (c4 : PySem.W.codeIn K cd4 "_law_mix" = true)
    (k4 : PySem.W.keepIn K (.ref f4) = true)
    (a5 : PySem.W.nsIn K mainGlobals "_law_place" = some (some (.ref f5)))
    (l5 : K.lookup f5 = some ⟨oc5, od5, .func (PySem.W.fnOf "_law_place" "_law_place" (defArgs s__law_place) (defBody s__law_place) (defScope s__law_place) .none kV5 dc5 pm5 an5 cd5 ct5), sl5⟩)
    (c5 : PySem.W.codeIn K cd5 "_law_place" = true)
    (k5 : PySem.W.keepIn K (.ref f5) = true)
    (a6 : PySem.W.nsIn K mainGlobals "_law_panel" = some (some (.ref f6)))
    (l6 : K.lookup f6 = some ⟨oc6, od6, .func (PySem.W.fnOf "_law_panel" "_law_panel" (defArgs s__law_panel) (defBody s__law_panel) (defScope s__law_panel) .none kV6 dc6 pm6 an6 cd6 ct6), sl6⟩)
    (c6 : PySem.W.codeIn K cd6 "_law_panel" = true)
    (k6 : PySem.W.keepIn K (.ref f6) = true)
    (a7 : PySem.W.nsIn K mainGlobals "_law_text" = some (some (.ref f7)))
    (l7 : K.lookup f7 = some ⟨oc7, od7, .func (PySem.W.fnOf "_law_text" "_law_text" (defArgs s__law_text) (defBody s__law_text) (defScope s__law_text) .none kV7 dc7 pm7 an7 cd7 ct7), sl7⟩)
    (c7 : PySem.W.codeIn K cd7 "_law_text" = true)
    (k7 : PySem.W.keepIn K (.ref f7) = true)
    (a8 : PySem.W.nsIn K mainGlobals "_law_rows_like" = some (some (.ref f8)))
    (l8 : K.lookup f8 = some ⟨oc8, od8, .func (PySem.W.fnOf "_law_rows_like" "_law_rows_like" (defArgs s__law_rows_like) (defBody s__law_rows_like) (defScope s__law_rows_like) .none kV8 dc8 pm8 an8 cd8 ct8), sl8⟩)
    (c8 : PySem.W.codeIn K cd8 "_law_rows_like" = true)
    (k8 : PySem.W.keepIn K (.ref f8) = true)
    (a9 : PySem.W.nsIn K mainGlobals "_law_refused" = some (some (.ref f9)))
    (l9 : K.lookup f9 = some ⟨oc9, od9, .func (PySem.W.fnOf "_law_refused" "_law_refused" (defArgs s__law_refused) (defBody s__law_refused) (defScope s__law_refused) .none kV9 dc9 pm9 an9 cd9 ct9), sl9⟩)
    (c9 : PySem.W.codeIn K cd9 "_law_refused" = true)
    (k9 : PySem.W.keepIn K (.ref f9) = true)
    (a10 : PySem.W.nsIn K mainGlobals "_law_told" = some (some (.ref f10)))
    (l10 : K.lookup f10 = some ⟨oc10, od10, .func (PySem.W.fnOf "_law_told" "_law_told" (defArgs s__law_told) (defBody s__law_told) (defScope s__law_told) .none kV10 dc10 pm10 an10 cd10 ct10), sl10⟩)
    (c10 : PySem.W.codeIn K cd10 "_law_told" = true)
    (k10 : PySem.W.keepIn K (.ref f10) = true)
    (a11 : PySem.W.nsIn K mainGlobals "_law_due" = some (some (.ref f11)))
    (l11 : K.lookup f11 = some ⟨oc11, od11, .func (PySem.W.fnOf "_law_due" "_law_due" (defArgs s__law_due) (defBody s__law_due) (defScope s__law_due) .none kV11 dc11 pm11 an11 cd11 ct11), sl11⟩)
    (c11 : PySem.W.codeIn K cd11 "_law_due" = true)
    (k11 : PySem.W.keepIn K (.ref f11) = true)
    (a12 : PySem.W.nsIn K mainGlobals "law" = some (some (.ref f12)))
    (l12 : K.lookup f12 = some ⟨oc12, od12, .func (PySem.W.fnOf "law" "law" (defArgs s_law) (defBody s_law) (defScope s_law) .none kV12 dc12 pm12 an12 cd12 ct12), sl12⟩)
    (c12 : PySem.W.codeIn K cd12 "law" = true)
    (k12 : PySem.W.keepIn K (.ref f12) = true)
    (z_range : PySem.W.nsIn K mainGlobals "range" = some none)
    (z_len : PySem.W.nsIn K mainGlobals "len" = some none)
    (z_str : PySem.W.nsIn K mainGlobals "str" = some none)
    (z_int : PySem.W.nsIn K mainGlobals "int" = some none)
    (z_bool : PySem.W.nsIn K mainGlobals "bool" = some none)
    (z_list : PySem.W.nsIn K mainGlobals "list" = some none)
    (z_tuple : PySem.W.nsIn K mainGlobals "tuple" = some none)
    (z_isinstance : PySem.W.nsIn K mainGlobals "isinstance" = some none)
    (z_sum : PySem.W.nsIn K mainGlobals "sum" = some none)
    (z_all : PySem.W.nsIn K mainGlobals "all" = some none)
    (z_max : PySem.W.nsIn K mainGlobals "max" = some none)
    (z_min : PySem.W.nsIn K mainGlobals "min" = some none)
    (z_zip : PySem.W.nsIn K mainGlobals "zip" = some none)
    (z_enumerate : PySem.W.nsIn K mainGlobals "enumerate" = some none)
    (z_reversed : PySem.W.nsIn K mainGlobals "reversed" = some none)
    (gS : PySem.W.nsIn K mainGlobals "SIGNS" = some (some (.ref aS)))
    (lS : K.lookup aS = some ⟨.type "dict", none, .dict #[⟨hS0, .str "." tS0, .str "good" uS0⟩, ⟨hS1, .str "-" tS1, .str "dead" uS1⟩, ⟨hS2, .str "+" tS2, .str "stuck" uS2⟩] nS, #[]⟩)
    (kS : PySem.W.KeysLit w.params [⟨hS0, .str "." tS0, .str "good" uS0⟩, ⟨hS1, .str "-" tS1, .str "dead" uS1⟩, ⟨hS2, .str "+" tS2, .str "stuck" uS2⟩])
    (oS : (aS == sysModules) = false)
    (g_fig : PySem.W.nsIn K mainGlobals "NoFigure" = some (some (.ref C_fig)))
    (g_num : PySem.W.nsIn K mainGlobals "NoNumber" = some (some (.ref C_num)))
    (g_clash : PySem.W.nsIn K mainGlobals "Clash" = some (some (.ref C_clash)))
    (g_note : PySem.W.nsIn K mainGlobals "NoNote" = some (some (.ref C_note)))
    (x_note : PySem.W.excIn K C_note [.type "ValueError", .type "Exception", .type "BaseException", .type "object"] "ValueError.__new__" = true)
    (k_note : PySem.W.keepIn K (.ref C_note) = true)
    (b_note : PySem.W.subIn K (.ref C_note) (.type "BaseException") = some true)
    (t_note : PySem.W.typeIn K (.ref C_note) = some (.type "type"))
    (g_L : PySem.W.nsIn K mainGlobals "LitError" = some (some (.ref CL)))
    (z_VE : PySem.W.nsIn K mainGlobals "ValueError" = some none)
    (b_L : PySem.W.subIn K (.ref CL) (.type "BaseException") = some true)
    (h_L : PySem.W.hasDictIn K CL = true)
    (t_L : PySem.W.typeIn K (.ref CL) = some (.type "type"))
    (e_hn : PySem.W.specialIn K (.builtin "object.__class__") "__get__" = some (some (.builtin "getset_descriptor.__get__")))
    (e_ht : PySem.W.takesIn K (.builtin "object.__class__") = some true)
    (s_fig : PySem.W.subIn K (.ref C_fig) (.ref CL) = some true)
    (e_hg_fig : PySem.W.findIn K (.ref C_fig) "__getattribute__" = some (some (.builtin "BaseException.__getattribute__")))
    (e_hk_fig : PySem.W.findIn K (.ref C_fig) "__getattr__" = some none)
    (e_hs_fig : PySem.W.subIn K (.ref C_fig) (.type "BaseException") = some true)
    (e_hd_fig : PySem.W.hasDictIn K C_fig = true)
    (e_ha_fig : PySem.W.findIn K (.ref C_fig) "__class__" = some (some (.builtin "object.__class__")))
    (e_hm_fig : PySem.W.mroIn K C_fig (.type "object") = some true)
    (v_fig : PySem.W.subIn K (.ref C_fig) (.type "ValueError") = some true)
    (e_t_fig : PySem.W.typeIn K (.ref C_fig) = some (.type "type"))
    (q_fig_fig : PySem.W.subIn K (.ref C_fig) (.ref C_fig) = some true)
    (q_fig_num : PySem.W.subIn K (.ref C_fig) (.ref C_num) = some false)
    (q_fig_clash : PySem.W.subIn K (.ref C_fig) (.ref C_clash) = some false)
    (q_fig_note : PySem.W.subIn K (.ref C_fig) (.ref C_note) = some false)
    (s_num : PySem.W.subIn K (.ref C_num) (.ref CL) = some true)
    (e_hg_num : PySem.W.findIn K (.ref C_num) "__getattribute__" = some (some (.builtin "BaseException.__getattribute__")))
    (e_hk_num : PySem.W.findIn K (.ref C_num) "__getattr__" = some none)
    (e_hs_num : PySem.W.subIn K (.ref C_num) (.type "BaseException") = some true)
    (e_hd_num : PySem.W.hasDictIn K C_num = true)
    (e_ha_num : PySem.W.findIn K (.ref C_num) "__class__" = some (some (.builtin "object.__class__")))
    (e_hm_num : PySem.W.mroIn K C_num (.type "object") = some true)
    (v_num : PySem.W.subIn K (.ref C_num) (.type "ValueError") = some true)
    (e_t_num : PySem.W.typeIn K (.ref C_num) = some (.type "type"))
    (q_num_fig : PySem.W.subIn K (.ref C_num) (.ref C_fig) = some false)
    (q_num_num : PySem.W.subIn K (.ref C_num) (.ref C_num) = some true)
    (q_num_clash : PySem.W.subIn K (.ref C_num) (.ref C_clash) = some false)
    (q_num_note : PySem.W.subIn K (.ref C_num) (.ref C_note) = some false)
    (s_clash : PySem.W.subIn K (.ref C_clash) (.ref CL) = some true)
    (e_hg_clash : PySem.W.findIn K (.ref C_clash) "__getattribute__" = some (some (.builtin "BaseException.__getattribute__")))
    (e_hk_clash : PySem.W.findIn K (.ref C_clash) "__getattr__" = some none)
    (e_hs_clash : PySem.W.subIn K (.ref C_clash) (.type "BaseException") = some true)
    (e_hd_clash : PySem.W.hasDictIn K C_clash = true)
    (e_ha_clash : PySem.W.findIn K (.ref C_clash) "__class__" = some (some (.builtin "object.__class__")))
    (e_hm_clash : PySem.W.mroIn K C_clash (.type "object") = some true)
    (v_clash : PySem.W.subIn K (.ref C_clash) (.type "ValueError") = some true)
    (e_t_clash : PySem.W.typeIn K (.ref C_clash) = some (.type "type"))
    (q_clash_fig : PySem.W.subIn K (.ref C_clash) (.ref C_fig) = some false)
    (q_clash_num : PySem.W.subIn K (.ref C_clash) (.ref C_num) = some false)
    (q_clash_clash : PySem.W.subIn K (.ref C_clash) (.ref C_clash) = some true)
    (q_clash_note : PySem.W.subIn K (.ref C_clash) (.ref C_note) = some false)
    (s_note : PySem.W.subIn K (.ref C_note) (.ref CL) = some true)
    (e_hg_note : PySem.W.findIn K (.ref C_note) "__getattribute__" = some (some (.builtin "BaseException.__getattribute__")))
    (e_hk_note : PySem.W.findIn K (.ref C_note) "__getattr__" = some none)
    (e_hs_note : PySem.W.subIn K (.ref C_note) (.type "BaseException") = some true)
    (e_hd_note : PySem.W.hasDictIn K C_note = true)
    (e_ha_note : PySem.W.findIn K (.ref C_note) "__class__" = some (some (.builtin "object.__class__")))
    (e_hm_note : PySem.W.mroIn K C_note (.type "object") = some true)
    (v_note : PySem.W.subIn K (.ref C_note) (.type "ValueError") = some true)
    (e_t_note : PySem.W.typeIn K (.ref C_note) = some (.type "type"))
    (q_note_fig : PySem.W.subIn K (.ref C_note) (.ref C_fig) = some false)
    (q_note_num : PySem.W.subIn K (.ref C_note) (.ref C_num) = some false)
    (q_note_clash : PySem.W.subIn K (.ref C_note) (.ref C_clash) = some false)
    (q_note_note : PySem.W.subIn K (.ref C_note) (.ref C_note) = some true) :
    ∃ fd : FuncData, (∀ (s : Shared) (v : Value), BindsTo s fd ⟨[v], []⟩ [("script", v)]) ∧ ∀ base : Heap, K.In base → base.Ns mainGlobals mg → FnOk l.prog w K mg base CX0 4 fa fd ["script"] (spOf K R_law) := by
  let cl : Xc → Addr := fun c => match c with | .fig => C_fig | .num => C_num | .clash => C_clash | .note => C_note
  have B : Blt mg := ⟨PySem.W.mg_none_of X G z_range, PySem.W.mg_none_of X G z_len, PySem.W.mg_none_of X G z_str, PySem.W.mg_none_of X G z_int, PySem.W.mg_none_of X G z_bool, PySem.W.mg_none_of X G z_list, PySem.W.mg_none_of X G z_tuple, PySem.W.mg_none_of X G z_isinstance, PySem.W.mg_none_of X G z_sum, PySem.W.mg_none_of X G z_all, PySem.W.mg_none_of X G z_max, PySem.W.mg_none_of X G z_min, PySem.W.mg_none_of X G z_zip, PySem.W.mg_none_of X G z_enumerate, PySem.W.mg_none_of X G z_reversed⟩
  have N : SignsAt K w mg aS := ⟨PySem.W.mg_of X G gS, sdict_at lS kS oS⟩
  have X_note : ExAt K mg "NoNote" (cl .note) := ⟨x_note, PySem.W.mg_of X G g_note, k_note, b_note, t_note⟩
  have Z : ErrAt K mg cl CL := { gL := PySem.W.mg_of X G g_L, gV := PySem.W.mg_none_of X G z_VE, g := fun c => match c with | .fig => PySem.W.mg_of X G g_fig | .num => PySem.W.mg_of X G g_num | .clash => PySem.W.mg_of X G g_clash | .note => PySem.W.mg_of X G g_note, ex := fun c => match c with | .fig => PySem.W.exm_ref b_L h_L t_L s_fig | .num => PySem.W.exm_ref b_L h_L t_L s_num | .clash => PySem.W.exm_ref b_L h_L t_L s_clash | .note => PySem.W.exm_ref b_L h_L t_L s_note, ec := fun c => match c with | .fig => ⟨e_hg_fig, e_hk_fig, e_hs_fig, e_hd_fig, e_ha_fig, e_hn, e_ht, e_hm_fig⟩ | .num => ⟨e_hg_num, e_hk_num, e_hs_num, e_hd_num, e_ha_num, e_hn, e_ht, e_hm_num⟩ | .clash => ⟨e_hg_clash, e_hk_clash, e_hs_clash, e_hd_clash, e_ha_clash, e_hn, e_ht, e_hm_clash⟩ | .note => ⟨e_hg_note, e_hk_note, e_hs_note, e_hd_note, e_ha_note, e_hn, e_ht, e_hm_note⟩, kit := fun c c2 => match c, c2 with | .fig, .fig => if_pos (beq_self_eq_true _) | .fig, .num => kit_no e_hd_num e_t_num q_fig_num q_fig_fig | .fig, .clash => kit_no e_hd_clash e_t_clash q_fig_clash q_fig_fig | .fig, .note => kit_no e_hd_note e_t_note q_fig_note q_fig_fig | .num, .fig => kit_no e_hd_fig e_t_fig q_num_fig q_num_num | .num, .num => if_pos (beq_self_eq_true _) | .num, .clash => kit_no e_hd_clash e_t_clash q_num_clash q_num_num | .num, .note => kit_no e_hd_note e_t_note q_num_note q_num_num | .clash, .fig => kit_no e_hd_fig e_t_fig q_clash_fig q_clash_clash | .clash, .num => kit_no e_hd_num e_t_num q_clash_num q_clash_clash | .clash, .clash => if_pos (beq_self_eq_true _) | .clash, .note => kit_no e_hd_note e_t_note q_clash_note q_clash_clash | .note, .fig => kit_no e_hd_fig e_t_fig q_note_fig q_note_note | .note, .num => kit_no e_hd_num e_t_num q_note_num q_note_note | .note, .clash => kit_no e_hd_clash e_t_clash q_note_clash q_note_note | .note, .note => if_pos (beq_self_eq_true _), kv := fun c => match c with | .fig => kit_val v_fig | .num => kit_val v_num | .clash => kit_val v_clash | .note => kit_val v_note }
  have D_place_of : DefAt K mg "place_of" s_place_of ["word"] := defAt_mk (PySem.W.mg_of X G a0) l0 c0 k0 fun _ _ _ _ _ _ us hl => match us, hl with | [_], _ => rfl
  have D_read : DefAt K mg "read" s_read ["text"] := defAt_mk (PySem.W.mg_of X G a1) l1 c1 k1 fun _ _ _ _ _ _ us hl => match us, hl with | [_], _ => rfl
  have D__law_cell_at : DefAt K mg "_law_cell_at" s__law_cell_at ["script", "k"] := defAt_mk (PySem.W.mg_of X G a2) l2 c2 k2 fun _ _ _ _ _ _ us hl => match us, hl with | [_, _], _ => rfl
  have D__law_pick : DefAt K mg "_law_pick" s__law_pick ["script", "k"] := defAt_mk (PySem.W.mg_of X G a3) l3 c3 k3 fun _ _ _ _ _ _ us hl => match us, hl with | [_, _], _ => rfl
  have D__law_mix : DefAt K mg "_law_mix" s__law_mix ["cell", "k"] := defAt_mk (PySem.W.mg_of X G a4) l4 c4 k4 fun _ _ _ _ _ _ us hl => match us, hl with | [_, _], _ => rfl
  have D__law_place : DefAt K mg "_law_place" s__law_place ["cell"] := defAt_mk (PySem.W.mg_of X G a5) l5 c5 k5 fun _ _ _ _ _ _ us hl => match us, hl with | [_], _ => rfl
  have D__law_panel : DefAt K mg "_law_panel" s__law_panel ["script", "start", "places"] := defAt_mk (PySem.W.mg_of X G a6) l6 c6 k6 fun _ _ _ _ _ _ us hl => match us, hl with | [_, _, _], _ => rfl
  have D__law_text : DefAt K mg "_law_text" s__law_text ["panel"] := defAt_mk (PySem.W.mg_of X G a7) l7 c7 k7 fun _ _ _ _ _ _ us hl => match us, hl with | [_], _ => rfl
  have D__law_rows_like : DefAt K mg "_law_rows_like" s__law_rows_like ["found", "due"] := defAt_mk (PySem.W.mg_of X G a8) l8 c8 k8 fun _ _ _ _ _ _ us hl => match us, hl with | [_, _], _ => rfl
  have D__law_refused : DefAt K mg "_law_refused" s__law_refused ["marks", "which"] := defAt_mk (PySem.W.mg_of X G a9) l9 c9 k9 fun _ _ _ _ _ _ us hl => match us, hl with | [_, _], _ => rfl
  have D__law_told : DefAt K mg "_law_told" s__law_told ["text"] := defAt_mk (PySem.W.mg_of X G a10) l10 c10 k10 fun _ _ _ _ _ _ us hl => match us, hl with | [_], _ => rfl
  have D__law_due : DefAt K mg "_law_due" s__law_due ["text"] := defAt_mk (PySem.W.mg_of X G a11) l11 c11 k11 fun _ _ _ _ _ _ us hl => match us, hl with | [_], _ => rfl
  have e := hfa.symm.trans (PySem.W.mg_of X G a12)
  cases e
  have Fl := fun_mk (st := s_law) l12 c12 k12
  refine ⟨PySem.W.fnOf "law" "law" (defArgs s_law) (defBody s_law) (defScope s_law) .none kV12 dc12 pm12 an12 cd12 ct12, fun s v => .of_eq rfl, fun base _ _ => ?_⟩
  have C_place_of := ok_place_of (P := l.prog) (w := w) (base := base) (cl := cl) D_place_of B N X_note
  have C_read := ok_read (P := l.prog) (w := w) (base := base) (cl := cl) D_read B X_note C_place_of
  have C__law_text := ok__law_text (P := l.prog) (w := w) (base := base) D__law_text B
  have C__law_due := ok__law_due (P := l.prog) (w := w) (base := base) D__law_due B
  have C__law_cell_at := ok__law_cell_at (P := l.prog) (w := w) (base := base) D__law_cell_at B
  have C__law_pick := ok__law_pick (P := l.prog) (w := w) (base := base) D__law_pick B C__law_cell_at
  have C__law_mix := ok__law_mix (P := l.prog) (w := w) (base := base) D__law_mix 
  have C__law_place := ok__law_place (P := l.prog) (w := w) (base := base) D__law_place B C__law_mix
  have C__law_panel := ok__law_panel (P := l.prog) (w := w) (base := base) D__law_panel B C__law_pick C__law_place
  have C__law_rows_like := ok__law_rows_like (P := l.prog) (w := w) (base := base) D__law_rows_like B
  have C__law_refused := ok__law_refused (P := l.prog) (w := w) (base := base) D__law_refused B
  have C__law_told := ok__law_told (P := l.prog) (w := w) (base := base) (cl := cl) D__law_told B Z C_read
  exact ok_law (P := l.prog) (w := w) (base := base) Fl B C__law_cell_at C__law_panel C__law_text C__law_rows_like C__law_refused C__law_told C__law_due
theorem law_goes {K : PySem.W.Frag} {H : Hp} {a : Addr} {ns : List Int} (hl : ns.length ≤ 63) (hS : SqL K H a (ns.map V.int)) : spOf K R_law [.ref a] H (fun v _ => v = .bl true) fun _ _ _ => False :=
  ⟨[dIs ns], .bool true, .cons (.lst hS ints_dpa) .nil, ⟨ns, hl, rfl, rfl⟩, fun v _ _ hd => by cases hd; rfl⟩
end Li
open PySem PySem.W PyProof.Rows
set_option maxHeartbeats 0 in
theorem PySem.Challenge.cw_litfigures_k13_read_holds : PySem.Challenge.rw_litfigures_k13_read.Holds := by
  w_on; o_law; k_head; (case hw => w_witness2)
  k_fill
  refine L2.walk_of (l := PySem.Challenge.rw_litfigures_k13_read) (n := 63) (k := 4) (x := "script") (CX := fun _ => L2.CX0) (sp := fun w => Li.spOf _ Li.R_law) rfl (by decide) rfl ⟨rfl, by decide, by decide⟩ (fun w h Y => PySem.W.kIn_of Y) ?F (fun _ _ a ns hl _ hS => Li.law_goes hl hS) (fun _ _ _ _ _ h => h)
  case F =>
    intro w mg fa h KX G hmg
    refine' Li.all_mk KX G hmg ?a0 ?l0 ?c0 ?k0 ?a1 ?l1 ?c1 ?k1 ?a2 ?l2 ?c2 ?k2 ?a3 ?l3 ?c3 ?k3 ?a4 ?l4 ?c4 ?k4 ?a5 ?l5 ?c5 ?k5 ?a6 ?l6 ?c6 ?k6 ?a7 ?l7 ?c7 ?k7 ?a8 ?l8 ?c8 ?k8 ?a9 ?l9 ?c9 ?k9 ?a10 ?l10 ?c10 ?k10 ?a11 ?l11 ?c11 ?k11 ?a12 ?l12 ?c12 ?k12 ?z_range ?z_len ?z_str ?z_int ?z_bool ?z_list ?z_tuple ?z_isinstance ?z_sum ?z_all ?z_max ?z_min ?z_zip ?z_enumerate ?z_reversed ?gS ?lS ?kS ?oS ?g_fig ?g_num ?g_clash ?g_note ?x_note ?k_note ?b_note ?t_note ?g_L ?z_VE ?b_L ?h_L ?t_L ?e_hn ?e_ht ?s_fig ?e_hg_fig ?e_hk_fig ?e_hs_fig ?e_hd_fig ?e_ha_fig ?e_hm_fig ?v_fig ?e_t_fig ?q_fig_fig ?q_fig_num ?q_fig_clash ?q_fig_note ?s_num ?e_hg_num ?e_hk_num ?e_hs_num ?e_hd_num ?e_ha_num ?e_hm_num ?v_num ?e_t_num ?q_num_fig ?q_num_num ?q_num_clash ?q_num_note ?s_clash ?e_hg_clash ?e_hk_clash ?e_hs_clash ?e_hd_clash ?e_ha_clash ?e_hm_clash ?v_clash ?e_t_clash ?q_clash_fig ?q_clash_num ?q_clash_clash ?q_clash_note ?s_note ?e_hg_note ?e_hk_note ?e_hs_note ?e_hd_note ?e_ha_note ?e_hm_note ?v_note ?e_t_note ?q_note_fig ?q_note_num ?q_note_clash ?q_note_note
    (case a0 => k_is)
    (case l0 => k_is)
    (case c0 => k_is)
    (case k0 => k_is)
    (case a1 => k_is)
    (case l1 => k_is)
    (case c1 => k_is)
    (case k1 => k_is)
    (case a2 => k_is)
    (case l2 => k_is)
    (case c2 => k_is)
    (case k2 => k_is)
    (case a3 => k_is)
    (case l3 => k_is)
    (case c3 => k_is)
    (case k3 => k_is)
    (case a4 => k_is)
    (case l4 => k_is)
    (case c4 => k_is)
    (case k4 => k_is)
    (case a5 => k_is)
    (case l5 => k_is)
    (case c5 => k_is)
    (case k5 => k_is)
    (case a6 => k_is)
    (case l6 => k_is)
    (case c6 => k_is)
    (case k6 => k_is)
    (case a7 => k_is)
    (case l7 => k_is)
    (case c7 => k_is)
    (case k7 => k_is)
    (case a8 => k_is)
    (case l8 => k_is)
    (case c8 => k_is)
    (case k8 => k_is)
    (case a9 => k_is)
    (case l9 => k_is)
    (case c9 => k_is)
    (case k9 => k_is)
    (case a10 => k_is)
    (case l10 => k_is)
    (case c10 => k_is)
    (case k10 => k_is)
    (case a11 => k_is)
    (case l11 => k_is)
    (case c11 => k_is)
    (case k11 => k_is)
    (case a12 => k_is)
    (case l12 => k_is)
    (case c12 => k_is)
    (case k12 => k_is)
    (case z_range => k_is)
    (case z_len => k_is)
    (case z_str => k_is)
    (case z_int => k_is)
    (case z_bool => k_is)
    (case z_list => k_is)
    (case z_tuple => k_is)
    (case z_isinstance => k_is)
    (case z_sum => k_is)
    (case z_all => k_is)
    (case z_max => k_is)
    (case z_min => k_is)
    (case z_zip => k_is)
    (case z_enumerate => k_is)
    (case z_reversed => k_is)
    (case gS => k_is)
    (case lS => k_is)
    (case kS => k_keys)
    (case oS => decide)
    (case g_fig => k_is)
    (case g_num => k_is)
    (case g_clash => k_is)
    (case g_note => k_is)
    (case x_note => k_exc)
    (case k_note => k_is)
    (case b_note => k_is)
    (case t_note => k_is)
    (case g_L => k_is)
    (case z_VE => k_is)
    (case b_L => k_is)
    (case h_L => k_is)
    (case t_L => k_is)
    (case e_hn => k_is)
    (case e_ht => k_is)
    (case s_fig => k_is)
    (case e_hg_fig => k_is)
    (case e_hk_fig => k_is)
    (case e_hs_fig => k_is)
    (case e_hd_fig => k_is)
    (case e_ha_fig => k_is)
    (case e_hm_fig => k_is)
    (case v_fig => k_is)
    (case e_t_fig => k_is)
    (case q_fig_fig => k_is)
    (case q_fig_num => k_is)
    (case q_fig_clash => k_is)
    (case q_fig_note => k_is)
    (case s_num => k_is)
    (case e_hg_num => k_is)
    (case e_hk_num => k_is)
    (case e_hs_num => k_is)
    (case e_hd_num => k_is)
    (case e_ha_num => k_is)
    (case e_hm_num => k_is)
    (case v_num => k_is)
    (case e_t_num => k_is)
    (case q_num_fig => k_is)
    (case q_num_num => k_is)
    (case q_num_clash => k_is)
    (case q_num_note => k_is)
    (case s_clash => k_is)
    (case e_hg_clash => k_is)
    (case e_hk_clash => k_is)
    (case e_hs_clash => k_is)
    (case e_hd_clash => k_is)
    (case e_ha_clash => k_is)
    (case e_hm_clash => k_is)
    (case v_clash => k_is)
    (case e_t_clash => k_is)
    (case q_clash_fig => k_is)
    (case q_clash_num => k_is)
    (case q_clash_clash => k_is)
    (case q_clash_note => k_is)
    (case s_note => k_is)
    (case e_hg_note => k_is)
    (case e_hk_note => k_is)
    (case e_hs_note => k_is)
    (case e_hd_note => k_is)
    (case e_ha_note => k_is)
    (case e_hm_note => k_is)
    (case v_note => k_is)
    (case e_t_note => k_is)
    (case q_note_fig => k_is)
    (case q_note_num => k_is)
    (case q_note_clash => k_is)
    (case q_note_note => k_is)
